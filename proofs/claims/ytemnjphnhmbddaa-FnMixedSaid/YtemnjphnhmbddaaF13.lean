/- Floating point, eleventh part: sums of numbers of one sign, and the inverse of a number, told by what is rounded. -/
import Derived.Test.YtemnjphnhmbddaaF10
import Derived.Test.YtemnjphnhmbddaaF8
set_option linter.unusedVariables false
set_option linter.unusedSimpArgs false
namespace Go.Proofs.Ytemnjphnhmbddaa
open Ieee

theorem signed_same (s : Bool) (m a n b : Nat) : (signed s m a + signed s n b).natAbs = m * 2 ^ a + n * 2 ^ b := by
  unfold signed
  rw [Nat.shiftLeft_eq, Nat.shiftLeft_eq]
  generalize m * 2 ^ a = u
  generalize n * 2 ^ b = v
  cases s <;> simp <;> omega
theorem signed_sign (s : Bool) (m a n b : Nat) : (if signed s m a + signed s n b = 0 then s && s else decide (signed s m a + signed s n b < 0)) = s := by
  unfold signed
  rw [Nat.shiftLeft_eq, Nat.shiftLeft_eq]
  generalize m * 2 ^ a = u
  generalize n * 2 ^ b = v
  cases s
  · by_cases h : u + v = 0
    · rw [if_pos (by simp; omega)]; rfl
    · rw [if_neg (by simp; omega)]; simp; omega
  · by_cases h : u + v = 0
    · rw [if_pos (by simp; omega)]; rfl
    · rw [if_neg (by simp; omega)]; simp; omega
theorem word_pos (r : Nat) (h : r < 2139095040) : FloatKind.f32.format.word false r = r := by
  have h1 := word_mod32 false h
  have h2 : FloatKind.f32.format.word false r = 0 * 2147483648 + r := by
    unfold Format.word
    simp only [sign32]
    simp
  omega
theorem pos_sign {x : Nat} (h : x < 2139095040) : (x / 2147483648 % 2 == 1) = false ∧ x % 2147483648 = x := by
  refine ⟨?_, Nat.mod_eq_of_lt (by omega)⟩
  rw [Nat.div_eq_of_lt (by omega)]; rfl
theorem mul_pos {x y K : Nat} (hK : K = 776) (hx : x < 2139095040) (hy : y < 2139095040) (h : rungOf (rungVal x * rungVal y * 2 ^ K) < 2139095040) : fop .mul .f32 x y = rungOf (rungVal x * rungVal y * 2 ^ K) := by
  obtain ⟨a1, a2⟩ := pos_sign hx
  obtain ⟨b1, b2⟩ := pos_sign hy
  have := mul_word hK (x := x) (y := y) (by omega) (by omega)
  rw [a1, a2, b1, b2] at this
  rw [this]; exact word_pos _ h
/-- numbers that are not negative are ordered as their words -/
theorem order_pos {a b : Nat} (ha : a < 2139095040) (hb : b < 2139095040) : FloatKind.f32.format.order a b = some (compare a b) := by
  obtain ⟨a1, a2⟩ := pos_sign ha
  obtain ⟨b1, b2⟩ := pos_sign hb
  obtain ⟨m, i, h1, h2, h3⟩ := read_fin (s := a) (by omega)
  obtain ⟨n, j, g1, g2, g3⟩ := read_fin (s := b) (by omega)
  rw [a1] at h1
  rw [a2] at h3
  rw [b1] at g1
  rw [b2] at g3
  unfold Format.order
  rw [h1, g1, order_number (-149) h2 g2]
  have e1 : signed false m (i - -149).toNat = ((rungVal a : Nat) : Int) := by
    unfold signed
    rw [Nat.shiftLeft_eq, show (i - -149).toNat = (i + 149).toNat by omega, h3]; rfl
  have e2 : signed false n (j - -149).toNat = ((rungVal b : Nat) : Int) := by
    unfold signed
    rw [Nat.shiftLeft_eq, show (j - -149).toNat = (j + 149).toNat by omega, g3]; rfl
  rw [e1, e2]
  congr 1
  rcases Nat.lt_trichotomy a b with c | c | c
  · have := rungVal_lt c
    rw [Std.compare_eq_lt.2 c, Std.compare_eq_lt.2 (by omega)]
  · rw [c, Std.compare_self, Std.compare_self]
  · have := rungVal_lt c
    rw [Std.compare_eq_gt.2 c, Std.compare_eq_gt.2 (by omega)]
/-- the inverse's digits -/
def invQ (n : Nat) : Nat := 2 * (281474976710656 / n) + (281474976710656 % n != 0).toNat
end Go.Proofs.Ytemnjphnhmbddaa

/- Floating point, twelfth part: the friction of a bow falls with the difference. -/
set_option linter.unusedVariables false
set_option linter.unusedSimpArgs false
set_option maxRecDepth 10000
namespace Go.Proofs.Ytemnjphnhmbddaa
open Ieee

/-- the friction behind the product of slope and difference -/
def frT (t : Nat) : Nat :=
  let w := fop .add .f32 t 1061158912
  let f := fop .quo .f32 1065353216 (fop .mul .f32 (fop .mul .f32 w w) (fop .mul .f32 w w))
  if fGt .f32 f 1065353216 then 1065353216 else f
section
variable {K M T t u : Nat}
/-- the sum's word, the squares' words, the inverse's word -/
def frW (K t : Nat) : Nat := rungOf ((rungVal t + rungVal 1061158912) * 2 ^ K)
def frS (M w : Nat) : Nat := rungOf (rungVal w * rungVal w * 2 ^ M)
def frI (T z : Nat) : Nat := rungOf (invQ (8388608 + z % 8388608) * 2 ^ (T - (z / 8388608 - 1)))
end
section
variable {p d e : Nat}
end
end Go.Proofs.Ytemnjphnhmbddaa

/- Floating point, thirteenth part: a sum of numbers of one sign is not nearer to 0 than either. -/
set_option linter.unusedVariables false
set_option linter.unusedSimpArgs false
set_option maxRecDepth 10000
namespace Go.Proofs.Ytemnjphnhmbddaa
open Ieee

theorem fLe_pos {a b : Nat} (ha : a < 2139095040) (hb : b < 2139095040) : fLe .f32 a b = decide (a ≤ b) := by
  unfold fLe
  rw [show FloatKind.f32.format.order a b = some (compare a b) from order_pos ha hb]
  rcases Nat.lt_trichotomy a b with c | c | c
  · rw [Std.compare_eq_lt.2 c, decide_eq_true (Nat.le_of_lt c)]; rfl
  · rw [c, Std.compare_self, decide_eq_true (Nat.le_refl b)]; rfl
  · rw [Std.compare_eq_gt.2 c, decide_eq_false (by omega)]; rfl
end Go.Proofs.Ytemnjphnhmbddaa
