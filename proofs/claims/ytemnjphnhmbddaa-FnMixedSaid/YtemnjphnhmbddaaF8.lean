/- Floating point, eighth part: sums that are at most a number of the format; sizes within powers of two. -/
import Derived.Test.YtemnjphnhmbddaaF6
set_option linter.unusedVariables false
set_option linter.unusedSimpArgs false
set_option maxRecDepth 10000
namespace Go.Proofs.Ytemnjphnhmbddaa
open Ieee

theorem add_leS {x y r : Nat} (hx : x % 2147483648 < 2139095040) (hy : y % 2147483648 < 2139095040) (hr : r < 2139095040) (t2 : Bool) (h : rungVal (x % 2147483648) + rungVal (y % 2147483648) ≤ rungVal r) :
    ∃ z b, b ≤ r ∧ ((FloatKind.f32.format.read x).sum (if t2 then (FloatKind.f32.format.read y).opposite else FloatKind.f32.format.read y)).map FloatKind.f32.format.write = some (FloatKind.f32.format.word z b) := by
  obtain ⟨m, i, h1, h2, h3⟩ := read_fin hx
  obtain ⟨n, j, g1, g2, g3⟩ := read_fin hy
  rw [h1, g1]
  generalize (x / 2147483648 % 2 == 1) = s at h1 ⊢
  obtain ⟨t, ht⟩ : ∃ t, (if t2 then (Datum.number (y / 2147483648 % 2 == 1) n j).opposite else Datum.number (y / 2147483648 % 2 == 1) n j) = Datum.number t n j := by
    cases t2
    · exact ⟨_, rfl⟩
    · exact ⟨_, rfl⟩
  rw [ht]
  obtain ⟨p, hp⟩ : ∃ p, p = min i j := ⟨_, rfl⟩
  have hpi : p ≤ i := by rw [hp]; omega
  have hpj : p ≤ j := by rw [hp]; omega
  have hp149 : -149 ≤ p := by rw [hp]; omega
  obtain ⟨sum, hs⟩ : ∃ sum : Int, sum = signed s m (i - p).toNat + signed t n (j - p).toNat := ⟨_, rfl⟩
  have hle : sum.natAbs ≤ m * 2 ^ (i - p).toNat + n * 2 ^ (j - p).toNat := by
    rw [hs]; unfold signed
    rw [Nat.shiftLeft_eq, Nat.shiftLeft_eq]
    generalize m * 2 ^ (i - p).toNat = u
    generalize n * 2 ^ (j - p).toNat = v
    cases s <;> cases t <;> simp <;> omega
  have e : ∃ z, ((Datum.number s m i).sum (Datum.number t n j)).map FloatKind.f32.format.write = some (FloatKind.f32.format.nearest z sum.natAbs p) := by
    refine ⟨if sum = 0 then s && t else sum < 0, ?_⟩
    simp only [Datum.sum, Format.write, ← hp, ← hs, Option.map]
  obtain ⟨z, e⟩ := e
  obtain ⟨b, hb, e2⟩ := nearest_le z hr (K := 925) rfl (m := sum.natAbs) (i := p) (by omega) (by
    have e1 : (p + 1074).toNat = (p + 149).toNat + 925 := by omega
    rw [e1, Nat.pow_add, ← Nat.mul_assoc]
    refine Nat.mul_le_mul_right _ (Nat.le_trans (Nat.mul_le_mul_right _ hle) ?_)
    rw [Nat.add_mul, Nat.mul_assoc, Nat.mul_assoc, ← Nat.pow_add, ← Nat.pow_add, show (i - p).toNat + (p + 149).toNat = (i + 149).toNat by omega, show (j - p).toNat + (p + 149).toNat = (j + 149).toNat by omega, h3, g3]
    exact h)
  exact ⟨z, b, hb, by rw [e, e2]⟩
/-- at most `2 ^ k` in size -/
def Bd (x k : Nat) : Prop := x % 2147483648 ≤ (127 + k) * 8388608
section
variable {x y k l : Nat}
theorem Bd.fin (h : Bd x k) (hk : k ≤ 100) : x % 2147483648 < 2139095040 := by unfold Bd at h; omega
theorem Bd.mono (h : Bd x k) (hl : k ≤ l) : Bd x l := Nat.le_trans h (Nat.mul_le_mul_right _ (by omega))
theorem rungVal_le {a b : Nat} (h : a ≤ b) : rungVal a ≤ rungVal b := by
  rcases Nat.lt_or_eq_of_le h with h | h
  · exact Nat.le_of_lt (rungVal_lt h)
  · rw [h]; exact Nat.le_refl _
theorem rung_two (k : Nat) : rungVal ((127 + k) * 8388608) = 2 ^ (k + 149) := by
  obtain ⟨N, hN⟩ : ∃ N, N = (127 + k) * 8388608 := ⟨_, rfl⟩
  obtain ⟨E, hE⟩ : ∃ E, E = 127 + k - 1 := ⟨_, rfl⟩
  have h1 : N % 8388608 = 0 := by omega
  have h2 : N / 8388608 - 1 = E := by omega
  have h4 : ¬ N < 8388608 := by omega
  have h5 : k + 149 = 23 + E := by omega
  have h3 : (2 : Nat) ^ 23 = 8388608 := by decide
  rw [← hN, h5, Nat.pow_add, h3]
  simp only [rungVal, if_neg h4, h1, h2, Nat.add_zero]
theorem Bd.val (h : Bd x k) : rungVal (x % 2147483648) ≤ 2 ^ (k + 149) := by rw [← rung_two]; exact rungVal_le h
theorem Bd.word {z : Bool} {b : Nat} (h : b ≤ (127 + k) * 8388608) (hk : k ≤ 100) : Bd (FloatKind.f32.format.word z b) k := by
  unfold Bd; rw [word_mod32 z (by omega)]; exact h
theorem Bd.add (hx : Bd x k) (hy : Bd y k) (hk : k ≤ 60) : Bd (fop .add .f32 x y) (k + 1) := by
  obtain ⟨z, b, hb, e⟩ := add_leS (r := (127 + (k + 1)) * 8388608) (hx.fin (by omega)) (hy.fin (by omega)) (by omega) false (by
    rw [rung_two, show k + 1 + 149 = (k + 149) + 1 by omega, Nat.pow_succ]; have := hx.val; have := hy.val; omega)
  have e2 : floatBits .add .f32 x y = some (FloatKind.f32.format.word z b) := e
  unfold fop; rw [e2]; exact Bd.word hb (by omega)
theorem Bd.sub (hx : Bd x k) (hy : Bd y k) (hk : k ≤ 60) : Bd (fop .sub .f32 x y) (k + 1) := by
  obtain ⟨z, b, hb, e⟩ := add_leS (r := (127 + (k + 1)) * 8388608) (hx.fin (by omega)) (hy.fin (by omega)) (by omega) true (by
    rw [rung_two, show k + 1 + 149 = (k + 149) + 1 by omega, Nat.pow_succ]; have := hx.val; have := hy.val; omega)
  have e2 : floatBits .sub .f32 x y = some (FloatKind.f32.format.word z b) := e
  unfold fop; rw [e2]; exact Bd.word hb (by omega)
theorem Bd.mul (hx : Bd x k) (hy : Bd y l) (hk : k ≤ 40) (hl : l ≤ 40) : Bd (fop .mul .f32 x y) (k + l) := by
  obtain ⟨z, b, hb, e⟩ := mul_le (r := (127 + (k + l)) * 8388608) (hx.fin (by omega)) (hy.fin (by omega)) (by omega) (by
    rw [rung_two, ← Nat.pow_add, show k + l + 149 + 149 = (k + 149) + (l + 149) by omega, Nat.pow_add]
    exact Nat.mul_le_mul hx.val hy.val)
  rw [e]; exact Bd.word hb (by omega)
theorem Bd.zero : Bd 0 k := by unfold Bd; omega
theorem Bd.kept (h : Bd x k) : Bd (keptF x) k := by
  unfold keptF flushF
  split
  · split
    · exact Bd.zero
    · exact h
  · exact Bd.zero
end
end Go.Proofs.Ytemnjphnhmbddaa
