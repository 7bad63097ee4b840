/- Floating point, tenth part: what is rounded, told by one function of the exact value; it is monotone. -/
import Derived.Test.YtnahhdnkbbdceaaF6
set_option linter.unusedVariables false
set_option linter.unusedSimpArgs false
namespace Go.Proofs.Ytnahhdnkbbdceaa
open Ieee

/-- `n / 2 ^ d`, rounded to the nearest whole number, between two to the even one -/
def rnd (n d : Nat) : Nat := n / 2 ^ d + (if 2 ^ d < 2 * (n % 2 ^ d) ∨ (2 ^ d = 2 * (n % 2 ^ d) ∧ n / 2 ^ d % 2 = 1) then 1 else 0)
theorem cut_rnd (neg : Bool) (n d : Nat) : Toward.even.cut neg n d = rnd n d := by
  have same : ∀ g low rest : Nat, (decide (g < 2 * rest) || (g == 2 * rest && low % 2 == 1)).toNat = if g < 2 * rest ∨ (g = 2 * rest ∧ low % 2 = 1) then 1 else 0 := by
    intro g low rest
    by_cases h1 : g < 2 * rest
    · simp [h1]
    · by_cases h2 : g = 2 * rest
      · by_cases h3 : low % 2 = 1 <;> simp [h2, h3]
      · simp [h1, h2]
  unfold Toward.cut rnd
  simp only [Nat.one_shiftLeft]
  rw [same]
  rcases Nat.eq_zero_or_pos n with h0 | h0
  · subst h0
    have hp := Nat.two_pow_pos (min d (Nat.log2 0 + 2))
    have hq := Nat.two_pow_pos d
    simp only [Nat.zero_div, Nat.zero_mod, Nat.mul_zero, Nat.not_lt_zero, false_or]
    rw [if_neg (by omega), if_neg (by omega)]
  · obtain ⟨hl1, hl2⟩ := log2_bounds (Nat.pos_iff_ne_zero.1 h0)
    rcases Nat.lt_or_ge (n.log2 + 2) d with c1 | c1
    · rw [Nat.min_eq_right (Nat.le_of_lt c1)]
      have hg : 2 ^ (n.log2 + 2) = 2 * 2 ^ (n.log2 + 1) := by rw [Nat.pow_succ, Nat.mul_comm]
      have hd : 2 ^ (n.log2 + 2) ≤ 2 ^ d := Nat.pow_le_pow_right (by omega) (Nat.le_of_lt c1)
      rw [Nat.div_eq_of_lt (show n < 2 ^ (n.log2 + 2) by omega), Nat.mod_eq_of_lt (show n < 2 ^ (n.log2 + 2) by omega), Nat.div_eq_of_lt (show n < 2 ^ d by omega), Nat.mod_eq_of_lt (show n < 2 ^ d by omega), if_neg (by omega), if_neg (by omega)]
    · rw [Nat.min_eq_left c1]
theorem rnd_scale (n d a : Nat) : rnd (n * 2 ^ a) (d + a) = rnd n d := by
  have hp := Nat.two_pow_pos a
  unfold rnd
  rw [Nat.pow_add, Nat.mul_div_mul_right _ _ hp, Nat.mul_mod_mul_right, ← Nat.mul_assoc 2]
  congr 1
  have e1 : (2 ^ d * 2 ^ a < 2 * (n % 2 ^ d) * 2 ^ a) = (2 ^ d < 2 * (n % 2 ^ d)) := propext ⟨fun h => Nat.lt_of_mul_lt_mul_right h, fun h => Nat.mul_lt_mul_of_pos_right h hp⟩
  have e2 : (2 ^ d * 2 ^ a = 2 * (n % 2 ^ d) * 2 ^ a) = (2 ^ d = 2 * (n % 2 ^ d)) := propext ⟨fun h => Nat.eq_of_mul_eq_mul_right hp h, fun h => congrArg (· * 2 ^ a) h⟩
  simp only [e1, e2]
theorem rnd_zero (n : Nat) : rnd n 0 = n := by
  unfold rnd
  rw [Nat.pow_zero, Nat.div_one, Nat.mod_one, if_neg (by omega)]; rfl
theorem rnd_exact (c d : Nat) : rnd (c * 2 ^ d) d = c := by
  have := rnd_scale c 0 d
  rw [Nat.zero_add, rnd_zero] at this
  exact this
theorem rnd_mono {n m : Nat} (d : Nat) (h : n ≤ m) : rnd n d ≤ rnd m d := by
  unfold rnd
  have hp := Nat.two_pow_pos d
  have hq : n / 2 ^ d ≤ m / 2 ^ d := Nat.div_le_div_right h
  have e1 := Nat.div_add_mod n (2 ^ d)
  have e2 := Nat.div_add_mod m (2 ^ d)
  generalize 2 ^ d = g at *
  rcases Nat.lt_or_eq_of_le hq with c | c
  · split <;> split <;> omega
  · rw [c] at e1 ⊢
    generalize g * (m / g) = t at *
    split <;> split <;> omega
theorem rnd_le {n c d : Nat} (h : n ≤ c * 2 ^ d) : rnd n d ≤ c := by
  have := rnd_mono d h
  rwa [rnd_exact] at this
theorem rnd_ge {n c d : Nat} (h : c * 2 ^ d ≤ n) : c ≤ rnd n d := by
  have := rnd_mono d h
  rwa [rnd_exact] at this
theorem log2_of {n k : Nat} (h1 : 2 ^ k ≤ n) (h2 : n < 2 ^ (k + 1)) : n.log2 = k := (Nat.log2_eq_iff (by have := Nat.two_pow_pos k; omega)).2 ⟨h1, h2⟩

/-- the rung of the number of binary32 that is nearest to `V` times `2 ^ -1074` -/
def rungOf (V : Nat) : Nat := if V = 0 then 0 else min ((V.log2 - 948) * 8388608 + rnd V (V.log2 - 948 + 925)) 2139095040
theorem nearest_spec (s : Bool) (m : Nat) {i : Int} (hi : -1074 ≤ i) : FloatKind.f32.format.nearest s m i = FloatKind.f32.format.word s (rungOf (m * 2 ^ (i + 1074).toNat)) := by
  unfold rungOf
  rcases Nat.eq_zero_or_pos m with h0 | h0
  · subst h0
    rw [Nat.zero_mul, if_pos rfl]
    unfold Format.nearest; rw [if_pos rfl]
  obtain ⟨a, ha⟩ : ∃ a : Nat, i = (a : Int) - 1074 := ⟨(i + 1074).toNat, by omega⟩
  have ha' : (i + 1074).toNat = a := by omega
  rw [ha']
  have hpa := Nat.two_pow_pos a
  have hV : 0 < m * 2 ^ a := Nat.mul_pos h0 hpa
  obtain ⟨hl1, hl2⟩ := log2_bounds (Nat.pos_iff_ne_zero.1 h0)
  have hlog : (m * 2 ^ a).log2 = m.log2 + a := by
    refine log2_of ?_ ?_
    · rw [Nat.pow_add]; exact Nat.mul_le_mul_right _ hl1
    · rw [show m.log2 + a + 1 = (m.log2 + 1) + a by omega, Nat.pow_add]; exact Nat.mul_lt_mul_of_pos_right hl2 hpa
  rw [if_neg (by omega), hlog]
  have hfb : (FloatKind.f32.format.fractionBits : Int) = 23 := rfl
  unfold Format.nearest
  rw [if_neg (Nat.pos_iff_ne_zero.1 h0)]
  simp only [least32, bin32, inf32, hfb]
  obtain ⟨E, hE⟩ : ∃ E : Nat, E = m.log2 + a - 948 := ⟨_, rfl⟩
  have hE' : max (i + (m.log2 : Int) - 23) (-149) = (E : Int) - 149 := by omega
  rw [hE', ← hE]
  have hEn : ((E : Int) - 149 - -149).toNat = E := by omega
  have hup : (i - ((E : Int) - 149)).toNat = a - (E + 925) := by omega
  have hdn : ((E : Int) - 149 - i).toNat = (E + 925) - a := by omega
  rw [hEn, hup, hdn, Nat.shiftLeft_eq, cut_rnd]
  have hk : rnd (m * 2 ^ (a - (E + 925))) (E + 925 - a) = rnd (m * 2 ^ a) (E + 925) := by
    rcases Nat.le_total a (E + 925) with h1 | h1
    · rw [show a - (E + 925) = 0 by omega, Nat.pow_zero, Nat.mul_one]
      have := rnd_scale m (E + 925 - a) a
      rw [show E + 925 - a + a = E + 925 by omega] at this
      exact this.symm
    · rw [show E + 925 - a = 0 by omega, rnd_zero]
      have e : m * 2 ^ a = (m * 2 ^ (a - (E + 925))) * 2 ^ (E + 925) := by
        rw [Nat.mul_assoc, ← Nat.pow_add, show a - (E + 925) + (E + 925) = a by omega]
      rw [e, rnd_exact]
  rw [hk]
theorem rk_lt {V W E F K : Nat} (h1 : V < 2 ^ (E + K + 24)) (h2 : 2 ^ (F + K + 23) ≤ W) (c : E < F) : E * 8388608 + rnd V (E + K) ≤ F * 8388608 + rnd W (F + K) := by
  have k1 : rnd V (E + K) ≤ 16777216 := by
    refine rnd_le ?_
    rw [Nat.pow_add, Nat.mul_comm] at h1
    exact Nat.le_of_lt h1
  have k2 : 8388608 ≤ rnd W (F + K) := by
    refine rnd_ge ?_
    rw [Nat.pow_add, Nat.mul_comm] at h2
    exact h2
  omega
theorem rungOf_mono {V W : Nat} (h : V ≤ W) : rungOf V ≤ rungOf W := by
  unfold rungOf
  rcases Nat.eq_zero_or_pos V with h0 | h0
  · rw [if_pos h0]; exact Nat.zero_le _
  have h1 : 0 < W := by omega
  rw [if_neg (Nat.pos_iff_ne_zero.1 h0), if_neg (Nat.pos_iff_ne_zero.1 h1)]
  obtain ⟨a1, a2⟩ := log2_bounds (Nat.pos_iff_ne_zero.1 h0)
  obtain ⟨b1, b2⟩ := log2_bounds (Nat.pos_iff_ne_zero.1 h1)
  have hl : V.log2 ≤ W.log2 := by
    rcases Nat.lt_or_ge W.log2 V.log2 with c | c
    · have : 2 ^ (W.log2 + 1) ≤ 2 ^ V.log2 := Nat.pow_le_pow_right (by omega) c
      omega
    · exact c
  obtain ⟨K, hK⟩ : ∃ K : Nat, K = 925 := ⟨_, rfl⟩
  rw [← hK]
  obtain ⟨E, hE⟩ : ∃ E : Nat, E = V.log2 - 948 := ⟨_, rfl⟩
  obtain ⟨F, hF⟩ : ∃ F : Nat, F = W.log2 - 948 := ⟨_, rfl⟩
  rw [← hE, ← hF]
  have key : E * 8388608 + rnd V (E + K) ≤ F * 8388608 + rnd W (F + K) := by
    rcases Nat.lt_or_ge E F with c | c
    · exact rk_lt (Nat.lt_of_lt_of_le a2 (Nat.pow_le_pow_right (by omega) (by omega))) (Nat.le_trans (Nat.pow_le_pow_right (by omega) (by omega)) b1) c
    · have e : E = F := by omega
      rw [e]
      exact Nat.add_le_add_left (rnd_mono _ h) _
  exact Nat.le_min.2 ⟨Nat.le_trans (Nat.min_le_left _ _) key, Nat.min_le_right _ _⟩
theorem log2_shift {c n : Nat} (h0 : c ≠ 0) : (c * 2 ^ n).log2 = c.log2 + n := by
  obtain ⟨a1, a2⟩ := log2_bounds h0
  refine log2_of ?_ ?_
  · rw [Nat.pow_add 2 c.log2]; exact Nat.mul_le_mul_right _ a1
  · rw [show c.log2 + n + 1 = (c.log2 + 1) + n by omega, Nat.pow_add 2 (c.log2 + 1)]
    exact Nat.mul_lt_mul_of_pos_right a2 (Nat.two_pow_pos _)
theorem log2_23 {c : Nat} (h : c < 16777216) : c.log2 ≤ 23 := by
  rcases Nat.lt_or_ge 23 c.log2 with q | q
  · have h0 : c ≠ 0 := fun e => by rw [e] at q; exact absurd q (by decide)
    have h1 : 2 ^ 24 ≤ 2 ^ c.log2 := Nat.pow_le_pow_right (by omega) q
    have h2 := (log2_bounds h0).1
    have h3 : (2 : Nat) ^ 24 = 16777216 := rfl
    omega
  · exact q
theorem log2_23' {c : Nat} (h : 8388608 ≤ c) : 23 ≤ c.log2 := by
  rcases Nat.lt_or_ge c.log2 23 with q | q
  · have h0 : c ≠ 0 := by omega
    have h1 : 2 ^ (c.log2 + 1) ≤ 2 ^ 23 := Nat.pow_le_pow_right (by omega) q
    have h2 := (log2_bounds h0).2
    have h3 : (2 : Nat) ^ 23 = 8388608 := rfl
    omega
  · exact q
/-- a number of the format is itself -/
theorem rungOf_rung {r K : Nat} (hr : r < 2139095040) (hK : K = 925) : rungOf (rungVal r * 2 ^ K) = r := by
  obtain ⟨c, e, hc1, hc2, hc3, hc4⟩ := rung_parts hr
  rw [hc1]
  by_cases h0 : c = 0
  · rw [h0, Nat.zero_mul, Nat.zero_mul]
    show (0 : Nat) = r
    rw [h0] at hc2 hc4
    omega
  · have h9 : c * 2 ^ e * 2 ^ K = c * 2 ^ (e + K) := by rw [Nat.mul_assoc, ← Nat.pow_add]
    have hV : c * 2 ^ (e + K) ≠ 0 := Nat.pos_iff_ne_zero.1 (Nat.mul_pos (Nat.pos_iff_ne_zero.2 h0) (Nat.two_pow_pos _))
    rw [h9]
    unfold rungOf
    rw [← hK, if_neg hV, log2_shift h0]
    have he : c.log2 + (e + K) - 948 = e := by
      have q1 := log2_23 (c := c) (by omega)
      by_cases h1 : e = 0
      · clear hV h9 hc1; omega
      · have q2 := log2_23' (c := c) (by omega)
        clear hV h9 hc1; omega
    rw [he, rnd_exact, Nat.min_eq_left (by clear hV h9 hc1; omega)]
    clear hV h9 hc1; omega
/-- the product of two numbers -/
theorem mul_word {x y K : Nat} (hK : K = 776) (hx : x % 2147483648 < 2139095040) (hy : y % 2147483648 < 2139095040) : fop .mul .f32 x y = FloatKind.f32.format.word ((x / 2147483648 % 2 == 1) ^^ (y / 2147483648 % 2 == 1)) (rungOf (rungVal (x % 2147483648) * rungVal (y % 2147483648) * 2 ^ K)) := by
  obtain ⟨m, i, h1, h2, h3⟩ := read_fin hx
  obtain ⟨n, j, g1, g2, g3⟩ := read_fin hy
  unfold fop
  rw [show floatBits .mul .f32 x y = ((FloatKind.f32.format.read x).product (FloatKind.f32.format.read y)).map FloatKind.f32.format.write from rfl, h1, g1]
  simp only [Datum.product, Format.write, Option.map, Option.getD]
  rw [nearest_spec _ _ (by omega)]
  congr 2
  rw [← h3, ← g3, show (i + j + 1074).toNat = (i + 149).toNat + (j + 149).toNat + K by omega, Nat.pow_add, Nat.pow_add]
  ac_rfl
end Go.Proofs.Ytnahhdnkbbdceaa
