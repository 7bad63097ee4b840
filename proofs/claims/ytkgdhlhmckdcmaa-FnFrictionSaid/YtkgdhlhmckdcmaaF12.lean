/- Floating point, twelfth part: the friction of a bow falls with the difference. -/
import Derived.Test.YtkgdhlhmckdcmaaF11
import Derived.Test.YtkgdhlhmckdcmaaF8
set_option linter.unusedVariables false
set_option linter.unusedSimpArgs false
set_option maxRecDepth 10000
namespace Go.Proofs.Ytkgdhlhmckdcmaa
open Ieee

/-- the friction behind the product of slope and difference -/
def frT (t : Nat) : Nat :=
  let w := fop .add .f32 t 1061158912
  let f := fop .quo .f32 1065353216 (fop .mul .f32 (fop .mul .f32 w w) (fop .mul .f32 w w))
  if fGt .f32 f 1065353216 then 1065353216 else f
section
variable {K M T t u : Nat}
theorem fr_w1 (hK : K = 925) : rungOf ((rungVal 1094713344 + rungVal 1061158912) * 2 ^ K) = 1095499776 := by subst hK; decide +kernel
theorem fr_y1 (hM : M = 776) : rungOf (rungVal 1095499776 * rungVal 1095499776 * 2 ^ M) = 1126338560 := by subst hM; decide +kernel
theorem fr_z1 (hM : M = 776) : rungOf (rungVal 1126338560 * rungVal 1126338560 * 2 ^ M) = 1187935522 := by subst hM; decide +kernel
theorem fr_y0 (hM : M = 776) : rungOf (rungVal 1061158912 * rungVal 1061158912 * 2 ^ M) = 1058013184 := by subst hM; decide +kernel
theorem fr_z0 (hM : M = 776) : rungOf (rungVal 1058013184 * rungVal 1058013184 * 2 ^ M) = 1050804224 := by subst hM; decide +kernel
theorem fr_f0 (hT : T = 1174) : rungOf (invQ (8388608 + 1050804224 % 8388608) * 2 ^ (T - (1050804224 / 8388608 - 1))) < 1082130432 := by subst hT; decide +kernel
theorem fr_f1 (hT : T = 1174) : 0 < rungOf (invQ (8388608 + 1187935522 % 8388608) * 2 ^ (T - (1187935522 / 8388608 - 1))) := by subst hT; decide +kernel
/-- the sum's word, the squares' words, the inverse's word -/
def frW (K t : Nat) : Nat := rungOf ((rungVal t + rungVal 1061158912) * 2 ^ K)
def frS (M w : Nat) : Nat := rungOf (rungVal w * rungVal w * 2 ^ M)
def frI (T z : Nat) : Nat := rungOf (invQ (8388608 + z % 8388608) * 2 ^ (T - (z / 8388608 - 1)))
theorem frW_mono (h : t ≤ u) : frW K t ≤ frW K u := rungOf_mono (Nat.mul_le_mul_right _ (Nat.add_le_add_right (rungVal_le h) _))
theorem frS_mono (h : t ≤ u) : frS M t ≤ frS M u := rungOf_mono (Nat.mul_le_mul_right _ (Nat.mul_le_mul (rungVal_le h) (rungVal_le h)))
theorem frW_b (hK : K = 925) (h : t ≤ 1094713344) : 1061158912 ≤ frW K t ∧ frW K t ≤ 1095499776 := by
  refine ⟨?_, Nat.le_trans (frW_mono h) (Nat.le_of_eq (fr_w1 hK))⟩
  have e := rungOf_rung (r := 1061158912) (by omega) hK
  have k : rungOf (rungVal 1061158912 * 2 ^ K) ≤ frW K t := rungOf_mono (Nat.mul_le_mul_right _ (Nat.le_add_left _ _))
  rw [e] at k; exact k
theorem frS_b1 (hM : M = 776) (h : 1061158912 ≤ t) (h2 : t ≤ 1095499776) : 1058013184 ≤ frS M t ∧ frS M t ≤ 1126338560 :=
  ⟨Nat.le_trans (Nat.le_of_eq (fr_y0 hM).symm) (frS_mono h), Nat.le_trans (frS_mono h2) (Nat.le_of_eq (fr_y1 hM))⟩
theorem frS_b2 (hM : M = 776) (h : 1058013184 ≤ t) (h2 : t ≤ 1126338560) : 1050804224 ≤ frS M t ∧ frS M t ≤ 1187935522 :=
  ⟨Nat.le_trans (Nat.le_of_eq (fr_z0 hM).symm) (frS_mono h), Nat.le_trans (frS_mono h2) (Nat.le_of_eq (fr_z1 hM))⟩
theorem frI_b (hT : T = 1174) (h : 1050804224 ≤ t) (h2 : t ≤ 1187935522) : 0 < frI T t ∧ frI T t < 1082130432 :=
  ⟨Nat.lt_of_lt_of_le (fr_f1 hT) (rungOf_mono (inv_anti hT (by omega) (by omega) h2)), Nat.lt_of_le_of_lt (rungOf_mono (inv_anti hT (by omega) (by omega) h)) (fr_f0 hT)⟩
theorem frT_eq (hK : K = 925) (hM : M = 776) (hT : T = 1174) (h : t ≤ 1094713344) : frT t = min (frI T (frS M (frS M (frW K t)))) 1065353216 := by
  obtain ⟨a1, a2⟩ := frW_b hK h
  obtain ⟨b1, b2⟩ := frS_b1 hM a1 a2
  obtain ⟨c1, c2⟩ := frS_b2 hM b1 b2
  obtain ⟨d1, d2⟩ := frI_b hT c1 c2
  have e1 : fop .add .f32 t 1061158912 = frW K t := add_pos hK (by omega) (by omega) (by show frW K t < _; omega)
  have e2 : fop .mul .f32 (frW K t) (frW K t) = frS M (frW K t) := mul_pos hM (by omega) (by omega) (by show frS M (frW K t) < _; omega)
  have e3 : fop .mul .f32 (frS M (frW K t)) (frS M (frW K t)) = frS M (frS M (frW K t)) := mul_pos hM (by omega) (by omega) (by show frS M (frS M (frW K t)) < _; omega)
  have e4 : fop .quo .f32 1065353216 (frS M (frS M (frW K t))) = frI T (frS M (frS M (frW K t))) := by
    rw [inv_word hT (by omega) (by omega)]
    exact word_pos _ (by show frI T _ < _; omega)
  unfold frT
  simp only []
  rw [e1, e2, e3, e4, fGt_pos (by omega) (by omega)]
  generalize frI T (frS M (frS M (frW K t))) = f at *
  by_cases hf : 1065353216 < f
  · rw [if_pos (decide_eq_true hf), Nat.min_eq_right (Nat.le_of_lt hf)]
  · rw [if_neg (by simpa using hf), Nat.min_eq_left (Nat.not_lt.1 hf)]
/-- the friction is at most 1, and more than 0 -/
theorem frT_b (h : t ≤ 1094713344) : 0 < frT t ∧ frT t ≤ 1065353216 := by
  obtain ⟨a1, a2⟩ := frW_b (K := 925) rfl h
  obtain ⟨b1, b2⟩ := frS_b1 (M := 776) rfl a1 a2
  obtain ⟨c1, c2⟩ := frS_b2 (M := 776) rfl b1 b2
  obtain ⟨d1, d2⟩ := frI_b (T := 1174) rfl c1 c2
  rw [frT_eq rfl rfl rfl h]
  exact ⟨Nat.lt_min.2 ⟨d1, by omega⟩, Nat.min_le_right _ _⟩
/-- a greater product has no greater friction -/
theorem frT_anti (h : t ≤ u) (hu : u ≤ 1094713344) : frT u ≤ frT t := by
  obtain ⟨K, hK⟩ : ∃ K : Nat, K = 925 := ⟨_, rfl⟩
  obtain ⟨M, hM⟩ : ∃ M : Nat, M = 776 := ⟨_, rfl⟩
  obtain ⟨T, hT⟩ : ∃ T : Nat, T = 1174 := ⟨_, rfl⟩
  rw [frT_eq hK hM hT hu, frT_eq hK hM hT (Nat.le_trans h hu)]
  obtain ⟨a1, a2⟩ := frW_b hK (Nat.le_trans h hu)
  obtain ⟨a3, a4⟩ := frW_b hK hu
  obtain ⟨b1, b2⟩ := frS_b1 hM a1 a2
  obtain ⟨b3, b4⟩ := frS_b1 hM a3 a4
  obtain ⟨c1, c2⟩ := frS_b2 hM b1 b2
  obtain ⟨c3, c4⟩ := frS_b2 hM b3 b4
  have k : frI T (frS M (frS M (frW K u))) ≤ frI T (frS M (frS M (frW K t))) := rungOf_mono (inv_anti hT (by omega) (by omega) (frS_mono (frS_mono (frW_mono h))))
  exact Nat.le_min.2 ⟨Nat.le_trans (Nat.min_le_left _ _) k, Nat.min_le_right _ _⟩
theorem frT_zero : frT 0 = 1065353216 := by decide +kernel
theorem negF_mod (b : Nat) : Op.negFloat .f32 b % 2147483648 = b % 2147483648 := by
  have : Op.negFloat .f32 b = b ^^^ 2 ^ 31 := rfl
  rw [this, show (2147483648 : Nat) = 2 ^ 31 from rfl, Nat.xor_mod_two_pow]
  simp
end
section
variable {p d e : Nat}
theorem pr_top {M : Nat} (hM : M = 776) : rungOf (rungVal 1073741824 * rungVal 1086324736 * 2 ^ M) = 1094713344 := by subst hM; decide +kernel
/-- the size of a product of a number up to 2 and of one up to 6 -/
theorem pr_abs {M : Nat} (hM : M = 776) (hp : p % 2147483648 ≤ 1073741824) (hd : d % 2147483648 ≤ 1086324736) : absF (fop .mul .f32 p d) = rungOf (rungVal (p % 2147483648) * rungVal (d % 2147483648) * 2 ^ M) ∧ absF (fop .mul .f32 p d) ≤ 1094713344 := by
  have k : rungOf (rungVal (p % 2147483648) * rungVal (d % 2147483648) * 2 ^ M) ≤ 1094713344 := by
    rw [← pr_top hM]
    exact rungOf_mono (Nat.mul_le_mul_right _ (Nat.mul_le_mul (rungVal_le hp) (rungVal_le hd)))
  have h : absF (fop .mul .f32 p d) = rungOf (rungVal (p % 2147483648) * rungVal (d % 2147483648) * 2 ^ M) := by
    rw [mul_word hM (by omega) (by omega)]
    exact word_mod32 _ (by omega)
  exact ⟨h, by rw [h]; exact k⟩
theorem pr_even (hp : p % 2147483648 ≤ 1073741824) (hd : d % 2147483648 ≤ 1086324736) : absF (fop .mul .f32 p (Op.negFloat .f32 d)) = absF (fop .mul .f32 p d) := by
  obtain ⟨M, hM⟩ : ∃ M : Nat, M = 776 := ⟨_, rfl⟩
  rw [(pr_abs hM hp hd).1, (pr_abs hM hp (by rw [negF_mod]; exact hd)).1, negF_mod]
theorem pr_mono (hp : p % 2147483648 ≤ 1073741824) (hd : d % 2147483648 ≤ e % 2147483648) (he : e % 2147483648 ≤ 1086324736) : absF (fop .mul .f32 p d) ≤ absF (fop .mul .f32 p e) := by
  obtain ⟨M, hM⟩ : ∃ M : Nat, M = 776 := ⟨_, rfl⟩
  rw [(pr_abs hM hp he).1, (pr_abs hM hp (Nat.le_trans hd he)).1]
  exact rungOf_mono (Nat.mul_le_mul_right _ (Nat.mul_le_mul_left _ (rungVal_le hd)))
end
end Go.Proofs.Ytkgdhlhmckdcmaa
