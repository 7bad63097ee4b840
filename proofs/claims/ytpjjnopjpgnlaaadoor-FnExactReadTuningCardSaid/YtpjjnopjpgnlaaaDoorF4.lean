/- Floating point, fourth part: narrowing of what was widened, and of its absolute value; small and finite numbers. -/
import Derived.Test.YtpjjnopjpgnlaaaDoorF3
namespace Go.Proofs.YtpjjnopjpgnlaaaDoor
open Ieee

/-- a narrow word's number, as `c * 2 ^ e` in units of 2^-149 -/
theorem rung_parts {b : Nat} (hb : b < 2139095040) : ∃ c e, rungVal b = c * 2 ^ e ∧ e * 8388608 + c = b ∧ c < 16777216 ∧ (e = 0 ∨ 8388608 ≤ c) := by
  unfold rungVal
  by_cases h : b < 8388608
  · rw [if_pos h]; exact ⟨b, 0, by simp, by omega, by omega, .inl rfl⟩
  · rw [if_neg h]
    refine ⟨8388608 + b % 8388608, b / 8388608 - 1, rfl, ?_, ?_, .inr (Nat.le_add_right _ _)⟩
    · omega
    · have := Nat.mod_lt b (show 0 < 8388608 by omega); omega

/-- the absolute value's word -/
def absF (x : Nat) : Nat := x % 2147483648
def absD (x : Nat) : Nat := x % 9223372036854775808

theorem isNaN32 (x : Nat) : isNaN .f32 x = decide (2139095040 < x % 2147483648) := by
  rcases read32 x with ⟨hr, hi⟩ | ⟨t, hr⟩ | ⟨m, i, hr, _, _, hlt⟩
  · simp [isNaN, hr, Datum.isNaN, hi]
  · have h1 : isNaN .f32 x = true := by simp [isNaN, hr, Datum.isNaN]
    rw [h1]
    have : 2139095040 < x % 2147483648 := by
      unfold Format.read at hr
      simp only [bin32, least32, inf32, sign32] at hr
      split at hr
      · cases hr
      · split at hr
        · cases hr
        · split at hr
          · cases hr
          · omega
    simp [this]
  · have : ¬ 2139095040 < x % 2147483648 := by omega
    simp [isNaN, hr, Datum.isNaN, this]
/-- what a narrowing of a wide word leaves, if it is told at all -/
def Narrows (x e : Nat) : Prop := (isNaN .f64 x = true ∧ isNaN .f32 e = true) ∨ floatToFloatBits .f64 x .f32 = some e

/-! ### Finite and small numbers, as the program tests them -/

def finF (x : Nat) : Bool := fEq .f32 (fop .sub .f32 x x) 0
def smallF (x : Nat) : Bool := fLt .f32 (absF x) 8388608
def flushF (x : Nat) : Nat := if smallF x then 0 else x
def keptF (x : Nat) : Nat := if finF x then flushF x else 0

theorem finF_nan {x : Nat} (h : isNaN .f32 x = true) : finF x = false := by
  unfold finF fop
  rw [floatBits_nan_l h]
  show fEq .f32 (nanOf .f32) 0 = false
  decide +kernel
theorem eq_of_cn {k : FloatKind} {a x : Nat} (h : cn k a = cn k x) (hx : isNaN k x = false) : a = x := by
  have ha : isNaN k a = false := by rw [← isNaN_cn, h, isNaN_cn]; exact hx
  rw [cn_of_not hx, cn_of_not ha] at h; exact h
theorem cn_eq_nan {y : Nat} : (cn .f32 y == nanOf .f32) = isNaN .f32 y := by
  cases h : isNaN .f32 y
  · rw [cn_of_not h]
    have : y ≠ nanOf .f32 := fun e => by rw [e, isNaN_nanOf] at h; cases h
    simpa using this
  · have : cn .f32 y = nanOf .f32 := by rw [cn, if_pos h]
    simp [this]
theorem same_nan_l {x : Nat} (h : isNaN .f32 x = true) (y : Nat) : isNaN .f32 y = (cn .f32 x == cn .f32 y) := by
  have : cn .f32 x = nanOf .f32 := by rw [cn, if_pos h]
  rw [this, Bool.beq_comm, cn_eq_nan]
theorem same_nan_r {x y : Nat} (hx : isNaN .f32 x = false) (h : isNaN .f32 y = true) : false = (cn .f32 x == cn .f32 y) := by
  have : cn .f32 y = nanOf .f32 := by rw [cn, if_pos h]
  rw [this, cn_eq_nan, hx]
theorem same_num {a x b y : Nat} (ha : cn .f32 a = cn .f32 x) (hb : cn .f32 b = cn .f32 y) (hx : isNaN .f32 x = false) (hy : isNaN .f32 y = false) : (((a : Nat) : Int) == ((b : Nat) : Int)) = (cn .f32 x == cn .f32 y) := by
  rw [eq_of_cn ha hx, eq_of_cn hb hy, cn_of_not hx, cn_of_not hy, Bool.eq_iff_iff]
  simp; omega

/-- numbers that are used: finite, and 0 from `k` on -/
def okF (xs : List Nat) (k j : Nat) : Bool := finF (xs.getD j 0) && (decide (j < k) || cn .f32 (xs.getD j 0) == 0)
def usedF (xs : List Nat) (k n : Nat) : Bool := (List.range n).all fun j => okF xs k j
end Go.Proofs.YtpjjnopjpgnlaaaDoor
