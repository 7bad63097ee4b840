/- Floating point, eleventh part: sums of numbers of one sign, and the inverse of a number, told by what is rounded. -/
import Derived.Test.YtnahhdnkbbdceaaF10
import Derived.Test.YtnahhdnkbbdceaaF9
set_option linter.unusedVariables false
set_option linter.unusedSimpArgs false
namespace Go.Proofs.Ytnahhdnkbbdceaa
open Ieee

theorem word_pos (r : Nat) (h : r < 2139095040) : FloatKind.f32.format.word false r = r := by
  have h1 := word_mod32 false h
  have h2 : FloatKind.f32.format.word false r = 0 * 2147483648 + r := by
    unfold Format.word
    simp only [sign32]
    simp
  omega
theorem pos_sign {x : Nat} (h : x < 2139095040) : (x / 2147483648 % 2 == 1) = false ∧ x % 2147483648 = x := by
  refine ⟨?_, Nat.mod_eq_of_lt (by omega)⟩
  rw [Nat.div_eq_of_lt (by omega)]; rfl
theorem mul_pos {x y K : Nat} (hK : K = 776) (hx : x < 2139095040) (hy : y < 2139095040) (h : rungOf (rungVal x * rungVal y * 2 ^ K) < 2139095040) : fop .mul .f32 x y = rungOf (rungVal x * rungVal y * 2 ^ K) := by
  obtain ⟨a1, a2⟩ := pos_sign hx
  obtain ⟨b1, b2⟩ := pos_sign hy
  have := mul_word hK (x := x) (y := y) (by omega) (by omega)
  rw [a1, a2, b1, b2] at this
  rw [this]; exact word_pos _ h
/-- the inverse's digits -/
def invQ (n : Nat) : Nat := 2 * (281474976710656 / n) + (281474976710656 % n != 0).toNat
end Go.Proofs.Ytnahhdnkbbdceaa

/- Floating point, fourteenth part: comparisons by exact values; adding a zero; sizes of greater numbers; what is clamped. -/
set_option linter.unusedVariables false
set_option linter.unusedSimpArgs false
set_option maxRecDepth 10000
namespace Go.Proofs.Ytnahhdnkbbdceaa
open Ieee

/-- the exact value, in smallest steps -/
def sV (x : Nat) : Int := if (x / 2147483648 % 2 == 1) = true then -((rungVal (x % 2147483648) : Nat) : Int) else ((rungVal (x % 2147483648) : Nat) : Int)
theorem order_sV {a b : Nat} (ha : a % 2147483648 < 2139095040) (hb : b % 2147483648 < 2139095040) : FloatKind.f32.format.order a b = some (compare (sV a) (sV b)) := by
  obtain ⟨m, i, h1, h2, h3⟩ := read_fin ha
  obtain ⟨n, j, g1, g2, g3⟩ := read_fin hb
  unfold Format.order
  rw [h1, g1, order_number (-149) h2 g2]
  have e1 : signed (a / 2147483648 % 2 == 1) m (i - -149).toNat = sV a := by
    unfold signed sV
    rw [Nat.shiftLeft_eq, show (i - -149).toNat = (i + 149).toNat by omega, h3]
  have e2 : signed (b / 2147483648 % 2 == 1) n (j - -149).toNat = sV b := by
    unfold signed sV
    rw [Nat.shiftLeft_eq, show (j - -149).toNat = (j + 149).toNat by omega, g3]
  rw [e1, e2]
theorem fGt_sV {a b : Nat} (ha : a % 2147483648 < 2139095040) (hb : b % 2147483648 < 2139095040) : fGt .f32 a b = decide (sV b < sV a) := by
  unfold fGt
  rw [show FloatKind.f32.format.order a b = some (compare (sV a) (sV b)) from order_sV ha hb]
  by_cases h : sV b < sV a
  · rw [Std.compare_eq_gt.2 h, decide_eq_true h]; rfl
  · rw [decide_eq_false h]
    have : compare (sV a) (sV b) ≠ .gt := fun e => h (Std.compare_eq_gt.1 e)
    cases hc : compare (sV a) (sV b)
    · rfl
    · rfl
    · exact absurd hc this
theorem fLt_sV {a b : Nat} (ha : a % 2147483648 < 2139095040) (hb : b % 2147483648 < 2139095040) : fLt .f32 a b = decide (sV a < sV b) := by
  unfold fLt
  rw [show FloatKind.f32.format.order a b = some (compare (sV a) (sV b)) from order_sV ha hb]
  by_cases h : sV a < sV b
  · rw [Std.compare_eq_lt.2 h, decide_eq_true h]; rfl
  · rw [decide_eq_false h]
    have : compare (sV a) (sV b) ≠ .lt := fun e => h (Std.compare_eq_lt.1 e)
    cases hc : compare (sV a) (sV b)
    · exact absurd hc this
    · rfl
    · rfl
theorem add_zero_r {x t K : Nat} (hK : K = 925) (hx : x < 4294967296) (hf : x % 2147483648 < 2139095040) (h0 : x % 2147483648 ≠ 0) (ht : Z0 t) : fop .add .f32 x t = x := by
  obtain ⟨n, j, g1, g2, g3⟩ := read_fin hf
  have r2 := ht.read
  generalize (t / 2147483648 % 2 == 1) = u at r2
  have hmin : min j (-149 : Int) = -149 := by omega
  have hp : 0 < rungVal (x % 2147483648) := by
    have := rungVal_lt (show 0 < x % 2147483648 by omega)
    omega
  have hs : signed (x / 2147483648 % 2 == 1) n (j - -149).toNat + signed u 0 ((-149 : Int) - -149).toNat = sV x := by
    unfold signed sV
    rw [Nat.shiftLeft_eq, Nat.shiftLeft_eq, show (j - -149).toNat = (j + 149).toNat by omega, g3]
    cases u <;> simp
  have hv : (sV x).natAbs = rungVal (x % 2147483648) := by unfold sV; split <;> omega
  have hz : (if sV x = 0 then (x / 2147483648 % 2 == 1) && u else decide (sV x < 0)) = (x / 2147483648 % 2 == 1) := by
    rw [if_neg (by omega)]
    unfold sV
    cases hb : (x / 2147483648 % 2 == 1)
    · rw [if_neg (by decide)]; simp
    · rw [if_pos rfl]; simp; omega
  have e2 : floatBits .add .f32 x t = some (FloatKind.f32.format.word (x / 2147483648 % 2 == 1) (x % 2147483648)) := by
    show FloatKind.f32.format.add x t = _
    unfold Format.add
    rw [g1, r2]
    simp only [Datum.sum, hmin, Option.map, Format.write]
    rw [hs, hz, hv, nearest_spec _ _ (by omega), show ((-149 : Int) + 1074).toNat = K by omega, rungOf_rung hf hK]
  unfold fop
  rw [e2]
  show FloatKind.f32.format.word (x / 2147483648 % 2 == 1) (x % 2147483648) = x
  have e3 := word_mod32 (x / 2147483648 % 2 == 1) hf
  cases hb : (x / 2147483648 % 2 == 1)
  · have : ¬ x / 2147483648 % 2 = 1 := by simpa using hb
    rw [word_pos _ hf]; omega
  · have : x / 2147483648 % 2 = 1 := by simpa using hb
    show 2 ^ 31 + x % 2147483648 = x
    omega
section
variable {x y k l : Nat}
theorem Bd.add2 (hx : Bd x k) (hy : Bd y k) (hk : k ≤ 100) : Bd (fop .add .f32 x y) (k + 1) := by
  obtain ⟨z, b, hb, e⟩ := add_leS (r := (127 + (k + 1)) * 8388608) (hx.fin (by omega)) (hy.fin (by omega)) (by omega) false (by
    rw [rung_two, show k + 1 + 149 = (k + 149) + 1 by omega, Nat.pow_succ]; have := hx.val; have := hy.val; omega)
  have e2 : floatBits .add .f32 x y = some (FloatKind.f32.format.word z b) := e
  unfold fop; rw [e2]
  unfold Bd
  show FloatKind.f32.format.word z b % 2147483648 ≤ _
  rw [word_mod32 z (by omega)]; exact hb
theorem Bd.sub2 (hx : Bd x k) (hy : Bd y k) (hk : k ≤ 100) : Bd (fop .sub .f32 x y) (k + 1) := by
  obtain ⟨z, b, hb, e⟩ := add_leS (r := (127 + (k + 1)) * 8388608) (hx.fin (by omega)) (hy.fin (by omega)) (by omega) true (by
    rw [rung_two, show k + 1 + 149 = (k + 149) + 1 by omega, Nat.pow_succ]; have := hx.val; have := hy.val; omega)
  have e2 : floatBits .sub .f32 x y = some (FloatKind.f32.format.word z b) := e
  unfold fop; rw [e2]
  unfold Bd
  show FloatKind.f32.format.word z b % 2147483648 ≤ _
  rw [word_mod32 z (by omega)]; exact hb
theorem Bd.mul2 (hx : Bd x k) (hy : Bd y l) (hk : k + l ≤ 100) : Bd (fop .mul .f32 x y) (k + l) := by
  obtain ⟨z, b, hb, e⟩ := mul_le (r := (127 + (k + l)) * 8388608) (hx.fin (by omega)) (hy.fin (by omega)) (by omega) (by
    rw [rung_two, ← Nat.pow_add, show k + l + 149 + 149 = (k + 149) + (l + 149) by omega, Nat.pow_add]
    exact Nat.mul_le_mul hx.val hy.val)
  rw [e]
  unfold Bd
  rw [word_mod32 z (by omega)]; exact hb
theorem sV_le {r : Nat} (h1 : sV x ≤ ((rungVal r : Nat) : Int)) (h2 : -((rungVal r : Nat) : Int) ≤ sV x) : x % 2147483648 ≤ r := by
  rcases Nat.lt_or_ge r (x % 2147483648) with c | c
  · have := rungVal_lt c
    unfold sV at h1 h2
    split at h1 <;> split at h2 <;> omega
  · exact c
end
end Go.Proofs.Ytnahhdnkbbdceaa
