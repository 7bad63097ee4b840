/- Floating point, eleventh part: sums of numbers of one sign, and the inverse of a number, told by what is rounded. -/
import Derived.Test.YtnahhdnkbbdceaaF10
import Derived.Test.YtnahhdnkbbdceaaF6
set_option linter.unusedVariables false
set_option linter.unusedSimpArgs false
namespace Go.Proofs.Ytnahhdnkbbdceaa
open Ieee

theorem signed_same (s : Bool) (m a n b : Nat) : (signed s m a + signed s n b).natAbs = m * 2 ^ a + n * 2 ^ b := by
  unfold signed
  rw [Nat.shiftLeft_eq, Nat.shiftLeft_eq]
  generalize m * 2 ^ a = u
  generalize n * 2 ^ b = v
  cases s <;> simp <;> omega
theorem signed_sign (s : Bool) (m a n b : Nat) : (if signed s m a + signed s n b = 0 then s && s else decide (signed s m a + signed s n b < 0)) = s := by
  unfold signed
  rw [Nat.shiftLeft_eq, Nat.shiftLeft_eq]
  generalize m * 2 ^ a = u
  generalize n * 2 ^ b = v
  cases s
  · by_cases h : u + v = 0
    · rw [if_pos (by simp; omega)]; rfl
    · rw [if_neg (by simp; omega)]; simp; omega
  · by_cases h : u + v = 0
    · rw [if_pos (by simp; omega)]; rfl
    · rw [if_neg (by simp; omega)]; simp; omega
/-- the sum of two numbers of one sign (of the second one's opposite, where `t2`) -/
theorem sum_word {x y K : Nat} (hK : K = 925) (t2 : Bool) (hx : x % 2147483648 < 2139095040) (hy : y % 2147483648 < 2139095040) (hs : (x / 2147483648 % 2 == 1) = ((y / 2147483648 % 2 == 1) ^^ t2)) :
    ((FloatKind.f32.format.read x).sum (if t2 then (FloatKind.f32.format.read y).opposite else FloatKind.f32.format.read y)).map FloatKind.f32.format.write = some (FloatKind.f32.format.word (x / 2147483648 % 2 == 1) (rungOf ((rungVal (x % 2147483648) + rungVal (y % 2147483648)) * 2 ^ K))) := by
  obtain ⟨m, i, h1, h2, h3⟩ := read_fin hx
  obtain ⟨n, j, g1, g2, g3⟩ := read_fin hy
  rw [h1, g1]
  have ht : (if t2 then (Datum.number (y / 2147483648 % 2 == 1) n j).opposite else Datum.number (y / 2147483648 % 2 == 1) n j) = Datum.number (x / 2147483648 % 2 == 1) n j := by
    rw [hs]
    cases t2
    · simp
    · simp [Datum.opposite]
  rw [ht]
  generalize (x / 2147483648 % 2 == 1) = s
  obtain ⟨p, hp⟩ : ∃ p, p = min i j := ⟨_, rfl⟩
  have hpi : p ≤ i := by rw [hp]; omega
  have hpj : p ≤ j := by rw [hp]; omega
  have hp149 : -149 ≤ p := by rw [hp]; omega
  have hz : (if signed s m (i - p).toNat + signed s n (j - p).toNat = 0 then s && s else decide (signed s m (i - p).toNat + signed s n (j - p).toNat < 0)) = s := signed_sign s m _ n _
  simp only [Datum.sum, Format.write, ← hp, Option.map]
  rw [hz, nearest_spec _ _ (by omega), signed_same]
  congr 2
  congr 1
  have e1 : (p + 1074).toNat = (p + 149).toNat + K := by omega
  rw [e1, Nat.pow_add, ← Nat.mul_assoc]
  congr 1
  rw [Nat.add_mul, Nat.mul_assoc, Nat.mul_assoc, ← Nat.pow_add, ← Nat.pow_add, show (i - p).toNat + (p + 149).toNat = (i + 149).toNat by omega, show (j - p).toNat + (p + 149).toNat = (j + 149).toNat by omega, h3, g3]
theorem add_word {x y K : Nat} (hK : K = 925) (hx : x % 2147483648 < 2139095040) (hy : y % 2147483648 < 2139095040) (hs : (x / 2147483648 % 2 == 1) = (y / 2147483648 % 2 == 1)) :
    fop .add .f32 x y = FloatKind.f32.format.word (x / 2147483648 % 2 == 1) (rungOf ((rungVal (x % 2147483648) + rungVal (y % 2147483648)) * 2 ^ K)) := by
  have h := sum_word hK false hx hy (by simpa using hs)
  have e2 : floatBits .add .f32 x y = some (FloatKind.f32.format.word (x / 2147483648 % 2 == 1) (rungOf ((rungVal (x % 2147483648) + rungVal (y % 2147483648)) * 2 ^ K))) := h
  unfold fop; rw [e2]; rfl
theorem word_pos (r : Nat) (h : r < 2139095040) : FloatKind.f32.format.word false r = r := by
  have h1 := word_mod32 false h
  have h2 : FloatKind.f32.format.word false r = 0 * 2147483648 + r := by
    unfold Format.word
    simp only [sign32]
    simp
  omega
theorem pos_sign {x : Nat} (h : x < 2139095040) : (x / 2147483648 % 2 == 1) = false ∧ x % 2147483648 = x := by
  refine ⟨?_, Nat.mod_eq_of_lt (by omega)⟩
  rw [Nat.div_eq_of_lt (by omega)]; rfl
theorem mul_pos {x y K : Nat} (hK : K = 776) (hx : x < 2139095040) (hy : y < 2139095040) (h : rungOf (rungVal x * rungVal y * 2 ^ K) < 2139095040) : fop .mul .f32 x y = rungOf (rungVal x * rungVal y * 2 ^ K) := by
  obtain ⟨a1, a2⟩ := pos_sign hx
  obtain ⟨b1, b2⟩ := pos_sign hy
  have := mul_word hK (x := x) (y := y) (by omega) (by omega)
  rw [a1, a2, b1, b2] at this
  rw [this]; exact word_pos _ h
theorem add_pos {x y K : Nat} (hK : K = 925) (hx : x < 2139095040) (hy : y < 2139095040) (h : rungOf ((rungVal x + rungVal y) * 2 ^ K) < 2139095040) : fop .add .f32 x y = rungOf ((rungVal x + rungVal y) * 2 ^ K) := by
  obtain ⟨a1, a2⟩ := pos_sign hx
  obtain ⟨b1, b2⟩ := pos_sign hy
  have := add_word hK (x := x) (y := y) (by omega) (by omega) (by rw [a1, b1])
  rw [a1, a2, b2] at this
  rw [this]; exact word_pos _ h
/-- numbers that are not negative are ordered as their words -/
theorem order_pos {a b : Nat} (ha : a < 2139095040) (hb : b < 2139095040) : FloatKind.f32.format.order a b = some (compare a b) := by
  obtain ⟨a1, a2⟩ := pos_sign ha
  obtain ⟨b1, b2⟩ := pos_sign hb
  obtain ⟨m, i, h1, h2, h3⟩ := read_fin (s := a) (by omega)
  obtain ⟨n, j, g1, g2, g3⟩ := read_fin (s := b) (by omega)
  rw [a1] at h1
  rw [a2] at h3
  rw [b1] at g1
  rw [b2] at g3
  unfold Format.order
  rw [h1, g1, order_number (-149) h2 g2]
  have e1 : signed false m (i - -149).toNat = ((rungVal a : Nat) : Int) := by
    unfold signed
    rw [Nat.shiftLeft_eq, show (i - -149).toNat = (i + 149).toNat by omega, h3]; rfl
  have e2 : signed false n (j - -149).toNat = ((rungVal b : Nat) : Int) := by
    unfold signed
    rw [Nat.shiftLeft_eq, show (j - -149).toNat = (j + 149).toNat by omega, g3]; rfl
  rw [e1, e2]
  congr 1
  rcases Nat.lt_trichotomy a b with c | c | c
  · have := rungVal_lt c
    rw [Std.compare_eq_lt.2 c, Std.compare_eq_lt.2 (by omega)]
  · rw [c, Std.compare_self, Std.compare_self]
  · have := rungVal_lt c
    rw [Std.compare_eq_gt.2 c, Std.compare_eq_gt.2 (by omega)]
/-- the inverse's digits -/
def invQ (n : Nat) : Nat := 2 * (281474976710656 / n) + (281474976710656 % n != 0).toNat
end Go.Proofs.Ytnahhdnkbbdceaa

/- Floating point, eighth part: sums that are at most a number of the format; sizes within powers of two. -/
set_option linter.unusedVariables false
set_option linter.unusedSimpArgs false
set_option maxRecDepth 10000
namespace Go.Proofs.Ytnahhdnkbbdceaa
open Ieee

theorem add_leS {x y r : Nat} (hx : x % 2147483648 < 2139095040) (hy : y % 2147483648 < 2139095040) (hr : r < 2139095040) (t2 : Bool) (h : rungVal (x % 2147483648) + rungVal (y % 2147483648) ≤ rungVal r) :
    ∃ z b, b ≤ r ∧ ((FloatKind.f32.format.read x).sum (if t2 then (FloatKind.f32.format.read y).opposite else FloatKind.f32.format.read y)).map FloatKind.f32.format.write = some (FloatKind.f32.format.word z b) := by
  obtain ⟨m, i, h1, h2, h3⟩ := read_fin hx
  obtain ⟨n, j, g1, g2, g3⟩ := read_fin hy
  rw [h1, g1]
  generalize (x / 2147483648 % 2 == 1) = s at h1 ⊢
  obtain ⟨t, ht⟩ : ∃ t, (if t2 then (Datum.number (y / 2147483648 % 2 == 1) n j).opposite else Datum.number (y / 2147483648 % 2 == 1) n j) = Datum.number t n j := by
    cases t2
    · exact ⟨_, rfl⟩
    · exact ⟨_, rfl⟩
  rw [ht]
  obtain ⟨p, hp⟩ : ∃ p, p = min i j := ⟨_, rfl⟩
  have hpi : p ≤ i := by rw [hp]; omega
  have hpj : p ≤ j := by rw [hp]; omega
  have hp149 : -149 ≤ p := by rw [hp]; omega
  obtain ⟨sum, hs⟩ : ∃ sum : Int, sum = signed s m (i - p).toNat + signed t n (j - p).toNat := ⟨_, rfl⟩
  have hle : sum.natAbs ≤ m * 2 ^ (i - p).toNat + n * 2 ^ (j - p).toNat := by
    rw [hs]; unfold signed
    rw [Nat.shiftLeft_eq, Nat.shiftLeft_eq]
    generalize m * 2 ^ (i - p).toNat = u
    generalize n * 2 ^ (j - p).toNat = v
    cases s <;> cases t <;> simp <;> omega
  have e : ∃ z, ((Datum.number s m i).sum (Datum.number t n j)).map FloatKind.f32.format.write = some (FloatKind.f32.format.nearest z sum.natAbs p) := by
    refine ⟨if sum = 0 then s && t else sum < 0, ?_⟩
    simp only [Datum.sum, Format.write, ← hp, ← hs, Option.map]
  obtain ⟨z, e⟩ := e
  obtain ⟨b, hb, e2⟩ := nearest_le z hr (K := 925) rfl (m := sum.natAbs) (i := p) (by omega) (by
    have e1 : (p + 1074).toNat = (p + 149).toNat + 925 := by omega
    rw [e1, Nat.pow_add, ← Nat.mul_assoc]
    refine Nat.mul_le_mul_right _ (Nat.le_trans (Nat.mul_le_mul_right _ hle) ?_)
    rw [Nat.add_mul, Nat.mul_assoc, Nat.mul_assoc, ← Nat.pow_add, ← Nat.pow_add, show (i - p).toNat + (p + 149).toNat = (i + 149).toNat by omega, show (j - p).toNat + (p + 149).toNat = (j + 149).toNat by omega, h3, g3]
    exact h)
  exact ⟨z, b, hb, by rw [e, e2]⟩
/-- at most `2 ^ k` in size -/
def Bd (x k : Nat) : Prop := x % 2147483648 ≤ (127 + k) * 8388608
section
variable {x y k l : Nat}
theorem Bd.fin (h : Bd x k) (hk : k ≤ 100) : x % 2147483648 < 2139095040 := by unfold Bd at h; omega
theorem Bd.mono (h : Bd x k) (hl : k ≤ l) : Bd x l := Nat.le_trans h (Nat.mul_le_mul_right _ (by omega))
theorem rungVal_le {a b : Nat} (h : a ≤ b) : rungVal a ≤ rungVal b := by
  rcases Nat.lt_or_eq_of_le h with h | h
  · exact Nat.le_of_lt (rungVal_lt h)
  · rw [h]; exact Nat.le_refl _
theorem rung_two (k : Nat) : rungVal ((127 + k) * 8388608) = 2 ^ (k + 149) := by
  obtain ⟨N, hN⟩ : ∃ N, N = (127 + k) * 8388608 := ⟨_, rfl⟩
  obtain ⟨E, hE⟩ : ∃ E, E = 127 + k - 1 := ⟨_, rfl⟩
  have h1 : N % 8388608 = 0 := by omega
  have h2 : N / 8388608 - 1 = E := by omega
  have h4 : ¬ N < 8388608 := by omega
  have h5 : k + 149 = 23 + E := by omega
  have h3 : (2 : Nat) ^ 23 = 8388608 := by decide
  rw [← hN, h5, Nat.pow_add, h3]
  simp only [rungVal, if_neg h4, h1, h2, Nat.add_zero]
theorem Bd.val (h : Bd x k) : rungVal (x % 2147483648) ≤ 2 ^ (k + 149) := by rw [← rung_two]; exact rungVal_le h
theorem Bd.word {z : Bool} {b : Nat} (h : b ≤ (127 + k) * 8388608) (hk : k ≤ 100) : Bd (FloatKind.f32.format.word z b) k := by
  unfold Bd; rw [word_mod32 z (by omega)]; exact h
theorem Bd.add (hx : Bd x k) (hy : Bd y k) (hk : k ≤ 60) : Bd (fop .add .f32 x y) (k + 1) := by
  obtain ⟨z, b, hb, e⟩ := add_leS (r := (127 + (k + 1)) * 8388608) (hx.fin (by omega)) (hy.fin (by omega)) (by omega) false (by
    rw [rung_two, show k + 1 + 149 = (k + 149) + 1 by omega, Nat.pow_succ]; have := hx.val; have := hy.val; omega)
  have e2 : floatBits .add .f32 x y = some (FloatKind.f32.format.word z b) := e
  unfold fop; rw [e2]; exact Bd.word hb (by omega)
theorem Bd.sub (hx : Bd x k) (hy : Bd y k) (hk : k ≤ 60) : Bd (fop .sub .f32 x y) (k + 1) := by
  obtain ⟨z, b, hb, e⟩ := add_leS (r := (127 + (k + 1)) * 8388608) (hx.fin (by omega)) (hy.fin (by omega)) (by omega) true (by
    rw [rung_two, show k + 1 + 149 = (k + 149) + 1 by omega, Nat.pow_succ]; have := hx.val; have := hy.val; omega)
  have e2 : floatBits .sub .f32 x y = some (FloatKind.f32.format.word z b) := e
  unfold fop; rw [e2]; exact Bd.word hb (by omega)
theorem Bd.mul (hx : Bd x k) (hy : Bd y l) (hk : k ≤ 40) (hl : l ≤ 40) : Bd (fop .mul .f32 x y) (k + l) := by
  obtain ⟨z, b, hb, e⟩ := mul_le (r := (127 + (k + l)) * 8388608) (hx.fin (by omega)) (hy.fin (by omega)) (by omega) (by
    rw [rung_two, ← Nat.pow_add, show k + l + 149 + 149 = (k + 149) + (l + 149) by omega, Nat.pow_add]
    exact Nat.mul_le_mul hx.val hy.val)
  rw [e]; exact Bd.word hb (by omega)
theorem Bd.zero : Bd 0 k := by unfold Bd; omega
theorem Bd.kept (h : Bd x k) : Bd (keptF x) k := by
  unfold keptF flushF
  split
  · split
    · exact Bd.zero
    · exact h
  · exact Bd.zero
end
end Go.Proofs.Ytnahhdnkbbdceaa

/- Floating point, twelfth part: the friction of a bow falls with the difference. -/
set_option linter.unusedVariables false
set_option linter.unusedSimpArgs false
set_option maxRecDepth 10000
namespace Go.Proofs.Ytnahhdnkbbdceaa
open Ieee

/-- the friction behind the product of slope and difference -/
def frT (t : Nat) : Nat :=
  let w := fop .add .f32 t 1061158912
  let f := fop .quo .f32 1065353216 (fop .mul .f32 (fop .mul .f32 w w) (fop .mul .f32 w w))
  if fGt .f32 f 1065353216 then 1065353216 else f
section
variable {K M T t u : Nat}
/-- the sum's word, the squares' words, the inverse's word -/
def frW (K t : Nat) : Nat := rungOf ((rungVal t + rungVal 1061158912) * 2 ^ K)
def frS (M w : Nat) : Nat := rungOf (rungVal w * rungVal w * 2 ^ M)
def frI (T z : Nat) : Nat := rungOf (invQ (8388608 + z % 8388608) * 2 ^ (T - (z / 8388608 - 1)))
end
section
variable {p d e : Nat}
end
end Go.Proofs.Ytnahhdnkbbdceaa

/- Floating point, thirteenth part: a sum of numbers of one sign is not nearer to 0 than either. -/
set_option linter.unusedVariables false
set_option linter.unusedSimpArgs false
set_option maxRecDepth 10000
namespace Go.Proofs.Ytnahhdnkbbdceaa
open Ieee

theorem fLe_pos {a b : Nat} (ha : a < 2139095040) (hb : b < 2139095040) : fLe .f32 a b = decide (a ≤ b) := by
  unfold fLe
  rw [show FloatKind.f32.format.order a b = some (compare a b) from order_pos ha hb]
  rcases Nat.lt_trichotomy a b with c | c | c
  · rw [Std.compare_eq_lt.2 c, decide_eq_true (Nat.le_of_lt c)]; rfl
  · rw [c, Std.compare_self, decide_eq_true (Nat.le_refl b)]; rfl
  · rw [Std.compare_eq_gt.2 c, decide_eq_false (by omega)]; rfl
end Go.Proofs.Ytnahhdnkbbdceaa
