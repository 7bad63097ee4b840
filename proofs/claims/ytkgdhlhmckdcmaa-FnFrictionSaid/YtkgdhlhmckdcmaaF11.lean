/- Floating point, eleventh part: sums of numbers of one sign, and the inverse of a number, told by what is rounded. -/
import Derived.Test.YtkgdhlhmckdcmaaF10
set_option linter.unusedVariables false
set_option linter.unusedSimpArgs false
namespace Go.Proofs.Ytkgdhlhmckdcmaa
open Ieee

theorem signed_same (s : Bool) (m a n b : Nat) : (signed s m a + signed s n b).natAbs = m * 2 ^ a + n * 2 ^ b := by
  unfold signed
  rw [Nat.shiftLeft_eq, Nat.shiftLeft_eq]
  generalize m * 2 ^ a = u
  generalize n * 2 ^ b = v
  cases s <;> simp <;> omega
theorem signed_sign (s : Bool) (m a n b : Nat) : (if signed s m a + signed s n b = 0 then s && s else decide (signed s m a + signed s n b < 0)) = s := by
  unfold signed
  rw [Nat.shiftLeft_eq, Nat.shiftLeft_eq]
  generalize m * 2 ^ a = u
  generalize n * 2 ^ b = v
  cases s
  · by_cases h : u + v = 0
    · rw [if_pos (by simp; omega)]; rfl
    · rw [if_neg (by simp; omega)]; simp; omega
  · by_cases h : u + v = 0
    · rw [if_pos (by simp; omega)]; rfl
    · rw [if_neg (by simp; omega)]; simp; omega
/-- the sum of two numbers of one sign (of the second one's opposite, where `t2`) -/
theorem sum_word {x y K : Nat} (hK : K = 925) (t2 : Bool) (hx : x % 2147483648 < 2139095040) (hy : y % 2147483648 < 2139095040) (hs : (x / 2147483648 % 2 == 1) = ((y / 2147483648 % 2 == 1) ^^ t2)) :
    ((FloatKind.f32.format.read x).sum (if t2 then (FloatKind.f32.format.read y).opposite else FloatKind.f32.format.read y)).map FloatKind.f32.format.write = some (FloatKind.f32.format.word (x / 2147483648 % 2 == 1) (rungOf ((rungVal (x % 2147483648) + rungVal (y % 2147483648)) * 2 ^ K))) := by
  obtain ⟨m, i, h1, h2, h3⟩ := read_fin hx
  obtain ⟨n, j, g1, g2, g3⟩ := read_fin hy
  rw [h1, g1]
  have ht : (if t2 then (Datum.number (y / 2147483648 % 2 == 1) n j).opposite else Datum.number (y / 2147483648 % 2 == 1) n j) = Datum.number (x / 2147483648 % 2 == 1) n j := by
    rw [hs]
    cases t2
    · simp
    · simp [Datum.opposite]
  rw [ht]
  generalize (x / 2147483648 % 2 == 1) = s
  obtain ⟨p, hp⟩ : ∃ p, p = min i j := ⟨_, rfl⟩
  have hpi : p ≤ i := by rw [hp]; omega
  have hpj : p ≤ j := by rw [hp]; omega
  have hp149 : -149 ≤ p := by rw [hp]; omega
  have hz : (if signed s m (i - p).toNat + signed s n (j - p).toNat = 0 then s && s else decide (signed s m (i - p).toNat + signed s n (j - p).toNat < 0)) = s := signed_sign s m _ n _
  simp only [Datum.sum, Format.write, ← hp, Option.map]
  rw [hz, nearest_spec _ _ (by omega), signed_same]
  congr 2
  congr 1
  have e1 : (p + 1074).toNat = (p + 149).toNat + K := by omega
  rw [e1, Nat.pow_add, ← Nat.mul_assoc]
  congr 1
  rw [Nat.add_mul, Nat.mul_assoc, Nat.mul_assoc, ← Nat.pow_add, ← Nat.pow_add, show (i - p).toNat + (p + 149).toNat = (i + 149).toNat by omega, show (j - p).toNat + (p + 149).toNat = (j + 149).toNat by omega, h3, g3]
theorem add_word {x y K : Nat} (hK : K = 925) (hx : x % 2147483648 < 2139095040) (hy : y % 2147483648 < 2139095040) (hs : (x / 2147483648 % 2 == 1) = (y / 2147483648 % 2 == 1)) :
    fop .add .f32 x y = FloatKind.f32.format.word (x / 2147483648 % 2 == 1) (rungOf ((rungVal (x % 2147483648) + rungVal (y % 2147483648)) * 2 ^ K)) := by
  have h := sum_word hK false hx hy (by simpa using hs)
  have e2 : floatBits .add .f32 x y = some (FloatKind.f32.format.word (x / 2147483648 % 2 == 1) (rungOf ((rungVal (x % 2147483648) + rungVal (y % 2147483648)) * 2 ^ K))) := h
  unfold fop; rw [e2]; rfl
theorem sub_word {x y K : Nat} (hK : K = 925) (hx : x % 2147483648 < 2139095040) (hy : y % 2147483648 < 2139095040) (hs : (x / 2147483648 % 2 == 1) = !(y / 2147483648 % 2 == 1)) :
    fop .sub .f32 x y = FloatKind.f32.format.word (x / 2147483648 % 2 == 1) (rungOf ((rungVal (x % 2147483648) + rungVal (y % 2147483648)) * 2 ^ K)) := by
  have h := sum_word hK true hx hy (by simpa using hs)
  have e2 : floatBits .sub .f32 x y = some (FloatKind.f32.format.word (x / 2147483648 % 2 == 1) (rungOf ((rungVal (x % 2147483648) + rungVal (y % 2147483648)) * 2 ^ K))) := h
  unfold fop; rw [e2]; rfl

theorem word_pos (r : Nat) (h : r < 2139095040) : FloatKind.f32.format.word false r = r := by
  have h1 := word_mod32 false h
  have h2 : FloatKind.f32.format.word false r = 0 * 2147483648 + r := by
    unfold Format.word
    simp only [sign32]
    simp
  omega
theorem pos_sign {x : Nat} (h : x < 2139095040) : (x / 2147483648 % 2 == 1) = false ∧ x % 2147483648 = x := by
  refine ⟨?_, Nat.mod_eq_of_lt (by omega)⟩
  rw [Nat.div_eq_of_lt (by omega)]; rfl
theorem mul_pos {x y K : Nat} (hK : K = 776) (hx : x < 2139095040) (hy : y < 2139095040) (h : rungOf (rungVal x * rungVal y * 2 ^ K) < 2139095040) : fop .mul .f32 x y = rungOf (rungVal x * rungVal y * 2 ^ K) := by
  obtain ⟨a1, a2⟩ := pos_sign hx
  obtain ⟨b1, b2⟩ := pos_sign hy
  have := mul_word hK (x := x) (y := y) (by omega) (by omega)
  rw [a1, a2, b1, b2] at this
  rw [this]; exact word_pos _ h
theorem add_pos {x y K : Nat} (hK : K = 925) (hx : x < 2139095040) (hy : y < 2139095040) (h : rungOf ((rungVal x + rungVal y) * 2 ^ K) < 2139095040) : fop .add .f32 x y = rungOf ((rungVal x + rungVal y) * 2 ^ K) := by
  obtain ⟨a1, a2⟩ := pos_sign hx
  obtain ⟨b1, b2⟩ := pos_sign hy
  have := add_word hK (x := x) (y := y) (by omega) (by omega) (by rw [a1, b1])
  rw [a1, a2, b2] at this
  rw [this]; exact word_pos _ h
/-- numbers that are not negative are ordered as their words -/
theorem order_pos {a b : Nat} (ha : a < 2139095040) (hb : b < 2139095040) : FloatKind.f32.format.order a b = some (compare a b) := by
  obtain ⟨a1, a2⟩ := pos_sign ha
  obtain ⟨b1, b2⟩ := pos_sign hb
  obtain ⟨m, i, h1, h2, h3⟩ := read_fin (s := a) (by omega)
  obtain ⟨n, j, g1, g2, g3⟩ := read_fin (s := b) (by omega)
  rw [a1] at h1
  rw [a2] at h3
  rw [b1] at g1
  rw [b2] at g3
  unfold Format.order
  rw [h1, g1, order_number (-149) h2 g2]
  have e1 : signed false m (i - -149).toNat = ((rungVal a : Nat) : Int) := by
    unfold signed
    rw [Nat.shiftLeft_eq, show (i - -149).toNat = (i + 149).toNat by omega, h3]; rfl
  have e2 : signed false n (j - -149).toNat = ((rungVal b : Nat) : Int) := by
    unfold signed
    rw [Nat.shiftLeft_eq, show (j - -149).toNat = (j + 149).toNat by omega, g3]; rfl
  rw [e1, e2]
  congr 1
  rcases Nat.lt_trichotomy a b with c | c | c
  · have := rungVal_lt c
    rw [Std.compare_eq_lt.2 c, Std.compare_eq_lt.2 (by omega)]
  · rw [c, Std.compare_self, Std.compare_self]
  · have := rungVal_lt c
    rw [Std.compare_eq_gt.2 c, Std.compare_eq_gt.2 (by omega)]
theorem fGt_pos {a b : Nat} (ha : a < 2139095040) (hb : b < 2139095040) : fGt .f32 a b = decide (b < a) := by
  unfold fGt
  rw [show FloatKind.f32.format.order a b = some (compare a b) from order_pos ha hb]
  by_cases h : b < a
  · rw [Std.compare_eq_gt.2 h, decide_eq_true h]; rfl
  · rw [decide_eq_false h]
    have : compare a b ≠ .gt := fun e => h (Std.compare_eq_gt.1 e)
    cases hc : compare a b
    · rfl
    · rfl
    · exact absurd hc this

/-- the inverse's digits -/
def invQ (n : Nat) : Nat := 2 * (281474976710656 / n) + (281474976710656 % n != 0).toNat
theorem invQ_anti {n m : Nat} (h0 : 0 < n) (h : n ≤ m) : invQ m ≤ invQ n := by
  unfold invQ
  generalize 281474976710656 = D
  have h1 : D / m ≤ D / n := Nat.div_le_div_left h h0
  have hn := Nat.div_add_mod D n
  have hm := Nat.div_add_mod D m
  have kn := Nat.mod_lt D h0
  rcases Nat.lt_or_eq_of_le h1 with c | c
  · cases (D % m != 0) <;> cases (D % n != 0) <;> simp <;> omega
  · rw [c] at hm ⊢
    have h2 : n * (D / n) ≤ m * (D / n) := Nat.mul_le_mul_right _ h
    by_cases e : D % n = 0
    · have e2 : D % m = 0 := by omega
      simp [e, e2]
    · have : (D % n != 0) = true := by simpa using e
      rw [this]
      cases (D % m != 0) <;> simp
theorem invQ_low {n : Nat} (h0 : 0 < n) (h : n < 16777216) : 33554432 ≤ invQ n := by
  have h1 : 16777216 ≤ 281474976710656 / n := (Nat.le_div_iff_mul_le h0).2 (by omega)
  unfold invQ
  omega
theorem invQ_high {n : Nat} (h : 8388608 ≤ n) : invQ n ≤ 67108864 := by
  have h1 := invQ_anti (n := 8388608) (m := n) (by omega) h
  have h2 : invQ 8388608 = 67108864 := by decide +kernel
  omega
theorem read_norm {z : Nat} (h1 : 8388608 ≤ z) (h2 : z < 2139095040) : FloatKind.f32.format.read z = .number false (8388608 + z % 8388608) (((z / 8388608 - 1 : Nat) : Int) - 149) := by
  unfold Format.read
  simp only [bin32, least32, inf32, sign32]
  have e : z % 2147483648 = z := Nat.mod_eq_of_lt (by omega)
  have e2 : z / 2147483648 = 0 := Nat.div_eq_of_lt (by omega)
  rw [e, e2, if_neg (by omega), if_pos h2]
  simp
  omega
theorem inv_word {z T : Nat} (hT : T = 1174) (h1 : 8388608 ≤ z) (h2 : z < 2139095040) : fop .quo .f32 1065353216 z = FloatKind.f32.format.word false (rungOf (invQ (8388608 + z % 8388608) * 2 ^ (T - (z / 8388608 - 1)))) := by
  have one : FloatKind.f32.format.read 1065353216 = .number false 8388608 (-23) := by
    rw [read_norm (by omega) (by omega)]
    rfl
  have hl : (8388608 + z % 8388608).log2 = 23 := log2_of (by
    have : (2 : Nat) ^ 23 = 8388608 := rfl
    omega) (by
    have : (2 : Nat) ^ (23 + 1) = 16777216 := rfl
    omega)
  have hl1 : (8388608 : Nat).log2 = 23 := by decide +kernel
  have key : floatBits .quo .f32 1065353216 z = some (FloatKind.f32.format.word false (rungOf (invQ (8388608 + z % 8388608) * 2 ^ (T - (z / 8388608 - 1))))) := by
    show ((FloatKind.f32.format.read 1065353216).quotient 25 (FloatKind.f32.format.read z)).map FloatKind.f32.format.write = _
    rw [one, read_norm h1 h2]
    unfold Datum.quotient
    simp only
    rw [if_neg (by omega), hl, hl1]
    simp only [Option.map, Format.write]
    rw [nearest_spec _ _ (by omega)]
    rw [show (25 + 23 - 23 : Nat) = 25 by omega, show (8388608 <<< 25 : Nat) = 281474976710656 by decide +kernel]
    have e : ((-23 : Int) - (((z / 8388608 - 1 : Nat) : Int) - 149) - ((25 : Nat) : Int) - 1 + 1074).toNat = T - (z / 8388608 - 1) := by omega
    rw [e]
    rfl
  unfold fop; rw [key]; rfl
theorem inv_anti {y z T : Nat} (hT : T = 1174) (h1 : 8388608 ≤ y) (h2 : z < 2139095040) (h : y ≤ z) : invQ (8388608 + z % 8388608) * 2 ^ (T - (z / 8388608 - 1)) ≤ invQ (8388608 + y % 8388608) * 2 ^ (T - (y / 8388608 - 1)) := by
  have hq : y / 8388608 ≤ z / 8388608 := Nat.div_le_div_right h
  have hy := Nat.div_add_mod y 8388608
  have hz := Nat.div_add_mod z 8388608
  rcases Nat.lt_or_eq_of_le hq with c | c
  · have k1 := invQ_high (n := 8388608 + z % 8388608) (by omega)
    have k2 := invQ_low (n := 8388608 + y % 8388608) (by omega) (by omega)
    have k3 : 2 * 2 ^ (T - (z / 8388608 - 1)) ≤ 2 ^ (T - (y / 8388608 - 1)) := by
      rw [← Nat.pow_succ']
      exact Nat.pow_le_pow_right (by omega) (by omega)
    generalize 2 ^ (T - (z / 8388608 - 1)) = P at *
    generalize 2 ^ (T - (y / 8388608 - 1)) = R at *
    calc invQ (8388608 + z % 8388608) * P ≤ 67108864 * P := Nat.mul_le_mul_right _ k1
      _ = 33554432 * (2 * P) := by omega
      _ ≤ 33554432 * R := Nat.mul_le_mul_left _ k3
      _ ≤ invQ (8388608 + y % 8388608) * R := Nat.mul_le_mul_right _ k2
  · rw [c]
    exact Nat.mul_le_mul_right _ (invQ_anti (by omega) (by omega))
end Go.Proofs.Ytkgdhlhmckdcmaa
