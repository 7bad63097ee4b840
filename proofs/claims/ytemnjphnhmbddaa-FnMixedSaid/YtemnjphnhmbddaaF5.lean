/- Floating point, fifth part: what is rounded never goes beyond a number that the format has. -/
import Derived.Test.YtemnjphnhmbddaaF4
set_option linter.unusedVariables false
namespace Go.Proofs.Ytemnjphnhmbddaa
open Ieee

theorem cut_even_le {n d c : Nat} (neg : Bool) (h : n ≤ c * 2 ^ d) : Toward.even.cut neg n d ≤ c := by
  unfold Toward.cut
  simp only [Nat.one_shiftLeft]
  rcases Nat.eq_zero_or_pos n with h0 | h0
  · subst h0
    have hp := Nat.two_pow_pos (min d (Nat.log2 0 + 2))
    have e1 : (2 ^ min d (Nat.log2 0 + 2) == 2 * 0) = false := by simp
    simp
  · obtain ⟨hl1, hl2⟩ := log2_bounds (Nat.pos_iff_ne_zero.1 h0)
    rcases Nat.lt_or_ge (n.log2 + 2) d with c1 | c1
    · rw [Nat.min_eq_right (Nat.le_of_lt c1)]
      have hg : 2 ^ (n.log2 + 2) = 2 * 2 ^ (n.log2 + 1) := by rw [Nat.pow_succ, Nat.mul_comm]
      have hlt : n < 2 ^ (n.log2 + 2) := by omega
      rw [Nat.div_eq_of_lt hlt, Nat.mod_eq_of_lt hlt]
      have e1 : decide (2 ^ (n.log2 + 2) < 2 * n) = false := by simp; omega
      have e2 : (2 ^ (n.log2 + 2) == 2 * n) = false := by simp; omega
      rw [e1, e2]
      simp
    · rw [Nat.min_eq_left c1]
      have hp := Nat.two_pow_pos d
      generalize 2 ^ d = g at *
      have hdm := Nat.div_add_mod n g
      have hm := Nat.mod_lt n hp
      rcases Nat.lt_or_ge (n / g) c with c2 | c2
      · have : ∀ b : Bool, n / g + b.toNat ≤ c := fun b => by cases b <;> simp <;> omega
        exact this _
      · have h3 : n / g * g ≤ n := Nat.div_mul_le_self n g
        have h4 : c * g ≤ n / g * g := Nat.mul_le_mul_right _ c2
        have h5 : n = c * g := by omega
        have h6 : n % g = 0 := by rw [h5]; exact Nat.mul_mod_left c g
        have h7 : n / g = c := by rw [h5]; exact Nat.mul_div_left c hp
        rw [h6, h7]
        have e1 : (g == 0) = false := by simp; omega
        simp [e1]

/-- What is at most the number of a rung is rounded to that rung or to one below it. -/
theorem nearest_le {m r : Nat} {i : Int} (s : Bool) (hr : r < 2139095040) {K : Nat} (hK : K = 925) (hi : -1074 ≤ i) (hv : m * 2 ^ (i + 1074).toNat ≤ rungVal r * 2 ^ K) : ∃ b, b ≤ r ∧ FloatKind.f32.format.nearest s m i = FloatKind.f32.format.word s b := by
  rcases Nat.eq_zero_or_pos m with h0 | h0
  · subst h0
    exact ⟨0, Nat.zero_le _, by unfold Format.nearest; rw [if_pos rfl]⟩
  obtain ⟨hl1, hl2⟩ := log2_bounds (Nat.pos_iff_ne_zero.1 h0)
  obtain ⟨c, e, hc1, hc2, hc3, hc4⟩ := rung_parts hr
  rw [hc1, Nat.mul_assoc, ← Nat.pow_add] at hv
  have hfb : (FloatKind.f32.format.fractionBits : Int) = 23 := rfl
  unfold Format.nearest
  rw [if_neg (Nat.pos_iff_ne_zero.1 h0)]
  simp only [least32, bin32, inf32, hfb]
  obtain ⟨a, ha⟩ : ∃ a : Nat, i = (a : Int) - 1074 := ⟨(i + 1074).toNat, by omega⟩
  have ha' : (i + 1074).toNat = a := by omega
  rw [ha'] at hv
  obtain ⟨E, hE⟩ : ∃ E : Nat, max (i + (m.log2 : Int) - 23) (-149) = (E : Int) - 149 := ⟨(max (i + (m.log2 : Int) - 23) (-149) + 149).toNat, by omega⟩
  rw [hE]
  have hEn : ((E : Int) - 149 - -149).toNat = E := by omega
  have hup : (i - ((E : Int) - 149)).toNat = a - (E + K) := by omega
  have hdn : ((E : Int) - 149 - i).toNat = (E + K) - a := by omega
  rw [hEn, hup, hdn, Nat.shiftLeft_eq]
  generalize hk : Toward.even.cut s (m * 2 ^ (a - (E + K))) (E + K - a) = kept
  have scale : ∀ {c' f : Nat}, f = E → m * 2 ^ a ≤ c' * 2 ^ (f + K) → kept ≤ c' := fun {c' f} hf hle => by
    subst hf
    rw [← hk]
    refine cut_even_le s ?_
    rcases Nat.le_total a (f + K) with h1 | h1
    · have e1 : a - (f + K) = 0 := by omega
      rw [e1, Nat.pow_zero, Nat.mul_one]
      have e2 : f + K = (f + K - a) + a := by omega
      rw [e2, Nat.pow_add, ← Nat.mul_assoc] at hle
      have := Nat.le_of_mul_le_mul_right hle (Nat.two_pow_pos a)
      exact this
    · have e1 : f + K - a = 0 := by omega
      rw [e1, Nat.pow_zero, Nat.mul_one]
      have e2 : a = (a - (f + K)) + (f + K) := by omega
      rw [e2, Nat.pow_add, ← Nat.mul_assoc] at hle
      exact Nat.le_of_mul_le_mul_right hle (Nat.two_pow_pos _)
  refine ⟨_, ?_, rfl⟩
  refine Nat.le_trans (Nat.min_le_left _ _) ?_
  rw [← hc2]
  rcases Nat.lt_trichotomy E e with h1 | h1 | h1
  · have h2 : kept ≤ 16777216 := by
      refine scale rfl ?_
      have h3 : m * 2 ^ a ≤ 2 ^ (m.log2 + 1) * 2 ^ a := Nat.mul_le_mul_right _ (Nat.le_of_lt hl2)
      refine Nat.le_trans h3 ?_
      rw [show (16777216 : Nat) = 2 ^ 24 from rfl, ← Nat.pow_add, ← Nat.pow_add]
      exact Nat.pow_le_pow_right (by omega) (by omega)
    have h3 : 8388608 ≤ c := by omega
    omega
  · subst h1
    have := scale rfl hv
    omega
  · exfalso
    have hlast : (E : Int) - 149 = i + (m.log2 : Int) - 23 := by omega
    have h2 : 2 ^ (m.log2) * 2 ^ a ≤ m * 2 ^ a := Nat.mul_le_mul_right _ hl1
    have h3 : c * 2 ^ (e + K) < 2 ^ 24 * 2 ^ (e + K) := Nat.mul_lt_mul_of_pos_right (by omega) (Nat.two_pow_pos _)
    rw [← Nat.pow_add] at h2 h3
    have h4 : 2 ^ (24 + (e + K)) ≤ 2 ^ (m.log2 + a) := Nat.pow_le_pow_right (by omega) (by omega)
    omega
end Go.Proofs.Ytemnjphnhmbddaa
