/- Floating point, thirteenth part: a sum of numbers of one sign is not nearer to 0 than either. -/
import Derived.Test.YtkgdhlhmckdcmaaF12
set_option linter.unusedVariables false
set_option linter.unusedSimpArgs false
set_option maxRecDepth 10000
namespace Go.Proofs.Ytkgdhlhmckdcmaa
open Ieee

theorem fLe_pos {a b : Nat} (ha : a < 2139095040) (hb : b < 2139095040) : fLe .f32 a b = decide (a ≤ b) := by
  unfold fLe
  rw [show FloatKind.f32.format.order a b = some (compare a b) from order_pos ha hb]
  rcases Nat.lt_trichotomy a b with c | c | c
  · rw [Std.compare_eq_lt.2 c, decide_eq_true (Nat.le_of_lt c)]; rfl
  · rw [c, Std.compare_self, decide_eq_true (Nat.le_refl b)]; rfl
  · rw [Std.compare_eq_gt.2 c, decide_eq_false (by omega)]; rfl
theorem far_top {K : Nat} (hK : K = 925) : rungOf ((rungVal 1073741824 + rungVal 1082130432) * 2 ^ K) = 1086324736 := by subst hK; decide +kernel
theorem far_both {d c K : Nat} (hK : K = 925) (hd : d ≤ 1073741824) (hc : c ≤ 1082130432) : d ≤ rungOf ((rungVal d + rungVal c) * 2 ^ K) ∧ rungOf ((rungVal d + rungVal c) * 2 ^ K) ≤ 1086324736 := by
  refine ⟨?_, ?_⟩
  · have e := rungOf_rung (r := d) (by omega) hK
    have k : rungOf (rungVal d * 2 ^ K) ≤ rungOf ((rungVal d + rungVal c) * 2 ^ K) := rungOf_mono (Nat.mul_le_mul_right _ (Nat.le_add_right _ _))
    rw [e] at k; exact k
  · rw [← far_top hK]
    exact rungOf_mono (Nat.mul_le_mul_right _ (Nat.add_le_add (rungVal_le hd) (rungVal_le hc)))
theorem far_add {d c : Nat} (hd : d % 2147483648 ≤ 1073741824) (hc : c % 2147483648 ≤ 1082130432) (hs : (d / 2147483648 % 2 == 1) = (c / 2147483648 % 2 == 1)) : d % 2147483648 ≤ fop .add .f32 d c % 2147483648 ∧ fop .add .f32 d c % 2147483648 ≤ 1086324736 := by
  obtain ⟨K, hK⟩ : ∃ K : Nat, K = 925 := ⟨_, rfl⟩
  obtain ⟨h1, h2⟩ := far_both hK hd hc
  rw [add_word hK (by omega) (by omega) hs, word_mod32 _ (by omega)]
  exact ⟨h1, h2⟩
theorem far_sub {d c : Nat} (hd : d % 2147483648 ≤ 1073741824) (hc : c % 2147483648 ≤ 1082130432) (hs : (d / 2147483648 % 2 == 1) = !(c / 2147483648 % 2 == 1)) : d % 2147483648 ≤ fop .sub .f32 d c % 2147483648 ∧ fop .sub .f32 d c % 2147483648 ≤ 1086324736 := by
  obtain ⟨K, hK⟩ : ∃ K : Nat, K = 925 := ⟨_, rfl⟩
  obtain ⟨h1, h2⟩ := far_both hK hd hc
  rw [sub_word hK (by omega) (by omega) hs, word_mod32 _ (by omega)]
  exact ⟨h1, h2⟩
/-- the friction of words -/
theorem fr_even {p d : Nat} (hp : p % 2147483648 ≤ 1073741824) (hd : d % 2147483648 ≤ 1086324736) : frT (absF (fop .mul .f32 p (Op.negFloat .f32 d))) = frT (absF (fop .mul .f32 p d)) := by rw [pr_even hp hd]
theorem fr_less {p d e : Nat} (hp : p % 2147483648 ≤ 1073741824) (hd : d % 2147483648 ≤ e % 2147483648) (he : e % 2147483648 ≤ 1086324736) : fGt .f32 (frT (absF (fop .mul .f32 p e))) (frT (absF (fop .mul .f32 p d))) = false := by
  have t1 := (pr_abs (M := 776) rfl hp he).2
  have t2 := (pr_abs (M := 776) rfl hp (Nat.le_trans hd he)).2
  have b1 := frT_b t1
  have b2 := frT_b t2
  rw [fGt_pos (by omega) (by omega)]
  have := frT_anti (pr_mono hp hd he) t1
  simp; omega
theorem fr_one {p d : Nat} (hp : p % 2147483648 ≤ 1073741824) (hd : d % 2147483648 ≤ 1086324736) : fGt .f32 (frT (absF (fop .mul .f32 p d))) 1065353216 = false ∧ fLe .f32 (frT (absF (fop .mul .f32 p d))) 0 = false ∧ frT (absF (fop .mul .f32 p d)) < 2139095040 := by
  have b := frT_b (pr_abs (M := 776) rfl hp hd).2
  refine ⟨?_, ?_, by omega⟩
  · rw [fGt_pos (by omega) (by omega)]; simp; omega
  · rw [fLe_pos (by omega) (by omega)]; simp; omega
end Go.Proofs.Ytkgdhlhmckdcmaa
