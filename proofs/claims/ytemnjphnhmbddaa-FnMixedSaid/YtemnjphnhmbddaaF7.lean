/- Floating point, seventh part: the whole part of a number; places along a list. -/
import Derived.Test.YtemnjphnhmbddaaF6
set_option linter.unusedVariables false
set_option linter.unusedSimpArgs false
set_option maxRecDepth 10000
namespace Go.Proofs.Ytemnjphnhmbddaa
open Ieee

/-- the whole part of a narrow word's number without its sign -/
def posF (p : Nat) : Nat := rungVal (p % 2147483648) / 2 ^ 149
/-- a number from 0 to `n`, perhaps -0 -/
structure Spot (p n : Nat) : Prop where
  fin : p % 2147483648 < 2139095040
  sgn : (p / 2147483648 % 2 == 1) = false ∨ p % 2147483648 = 0
  le : posF p ≤ n

theorem rung_zero {r : Nat} (h : rungVal r = 0) : r = 0 := by
  have r0 : rungVal 0 = 0 := by decide
  exact rungVal_inj (by rw [r0]; exact h)

theorem Spot.read {p n : Nat} (h : Spot p n) : ∃ s m i, FloatKind.f32.format.read p = .number s m i ∧ -149 ≤ i ∧ m * 2 ^ (i + 149).toNat = rungVal (p % 2147483648) ∧ (s = false ∨ m = 0) := by
  obtain ⟨m, i, h1, h2, h3⟩ := read_fin h.fin
  refine ⟨_, m, i, h1, h2, h3, ?_⟩
  rcases h.sgn with k | k
  · exact .inl k
  · right
    rw [k, show rungVal 0 = 0 by decide] at h3
    rcases Nat.mul_eq_zero.1 h3 with e | e
    · exact e
    · exact absurd e (Nat.pos_iff_ne_zero.1 (Nat.two_pow_pos _))

/-- the whole number below, as a wide word -/
def floorW (p : Nat) : Nat := FloatKind.f64.encode ((FloatKind.f64.decode (wide p)).integral .down)
theorem whole_nat {n : Nat} (hn : n ≤ 1024) : FloatKind.f32.nearest ((n : Nat) : Int) < 2139095040 ∧ rungVal (FloatKind.f32.nearest ((n : Nat) : Int)) = n * 2 ^ 149 ∧ True := by
  have key : ∀ n, n < 1025 → (decide (FloatKind.f32.nearest ((n : Nat) : Int) < 2139095040) && decide (rungVal (FloatKind.f32.nearest ((n : Nat) : Int)) = n * 2 ^ 149)) = true := by decide +kernel
  have := key n (by omega)
  simp only [Bool.and_eq_true, decide_eq_true_eq] at this
  exact ⟨this.1, this.2, trivial⟩
/-- A place within a list of `n` samples. -/
theorem Spot.of {pl n : Nat} (hg : fGe .f32 pl 0 = true) (hl : fLt .f32 pl 1065353216 = true) (hn : n ≤ 1024) : Spot (fop .mul .f32 pl (FloatKind.f32.nearest ((n : Nat) : Int))) n := by
  have z0 : FloatKind.f32.format.read 0 = .number false 0 (-149) := by decide +kernel
  have z1 : FloatKind.f32.format.read 1065353216 = .number false 8388608 (-23) := by decide +kernel
  have hp : pl % 2147483648 < 2139095040 ∧ rungVal (pl % 2147483648) ≤ 2 ^ 149 ∧ ((pl / 2147483648 % 2 == 1) = false ∨ pl % 2147483648 = 0) := by
    unfold fGe Format.order at hg
    unfold fLt Format.order at hl
    rw [z0] at hg
    rw [z1] at hl
    rcases read32 pl with ⟨hr, _⟩ | ⟨t, hr⟩ | ⟨m, i, hr, h1, h2, h3⟩
    · rw [hr] at hg hl
      generalize (pl / 2147483648 % 2 == 1) = t at hg hl
      cases t
      · simp [Datum.order] at hl
      · simp [Datum.order] at hg
    · rw [hr] at hl; simp [Datum.order] at hl
    · rw [hr, order_number (-149) h1 (by omega)] at hl hg
      have hx : m <<< (i - -149).toNat = rungVal (pl % 2147483648) := by rw [Nat.shiftLeft_eq, ← h2, show i - -149 = i + 149 by omega]
      have h8 : 8388608 <<< ((-23 : Int) - -149).toNat = 2 ^ 149 := by decide +kernel
      unfold signed at hg hl
      rw [hx] at hg hl
      rw [h8] at hl
      generalize (pl / 2147483648 % 2 == 1) = t at hg hl ⊢
      have hl' : compare (if t = true then -((rungVal (pl % 2147483648) : Nat) : Int) else ((rungVal (pl % 2147483648) : Nat) : Int)) (if false = true then -((2 ^ 149 : Nat) : Int) else ((2 ^ 149 : Nat) : Int)) = .lt := by simpa using hl
      rw [Std.compare_eq_lt] at hl'
      cases t
      · refine ⟨h3, ?_, .inl rfl⟩
        simp only [Bool.false_eq_true, if_false] at hl'
        omega
      · have hz : rungVal (pl % 2147483648) = 0 := by
          rcases Nat.eq_zero_or_pos (rungVal (pl % 2147483648)) with k | k
          · exact k
          · exfalso
            have hc : compare (-((rungVal (pl % 2147483648) : Nat) : Int)) (0 : Int) = .lt := by rw [Std.compare_eq_lt]; omega
            simp [hc] at hg
        exact ⟨h3, by rw [hz]; exact Nat.zero_le _, .inr (rung_zero hz)⟩
  obtain ⟨p1, p2, p3⟩ := hp
  obtain ⟨v1, v2, v3⟩ := whole_nat hn
  have vm : FloatKind.f32.nearest ((n : Nat) : Int) % 2147483648 = FloatKind.f32.nearest ((n : Nat) : Int) := Nat.mod_eq_of_lt (by omega)
  generalize FloatKind.f32.nearest ((n : Nat) : Int) = N at *
  rcases p3 with ps | pz
  · obtain ⟨b, hb, e⟩ := mul_leS (c := pl) (s := N) (r := N) p1 (by rw [vm]; exact v1) v1 (by
      rw [vm, Nat.mul_comm]
      exact Nat.mul_le_mul_left _ p2)
    have es : (N / 2147483648 % 2 == 1) = false := by simp; omega
    rw [ps, es] at e
    have e' : fop .mul .f32 pl N = b := by rw [e]; rfl
    have bm : b % 2147483648 = b := Nat.mod_eq_of_lt (by omega)
    refine ⟨by rw [e', bm]; omega, .inl (by rw [e']; simp; omega), ?_⟩
    unfold posF
    rw [e', bm]
    have h1 : rungVal b ≤ n * 2 ^ 149 := by
      rw [← v2]
      rcases Nat.lt_or_ge b N with c | c
      · exact Nat.le_of_lt (rungVal_lt c)
      · rw [show b = N by omega]; exact Nat.le_refl _
    exact Nat.le_trans (Nat.div_le_div_right h1) (Nat.le_of_eq (Nat.mul_div_cancel _ (Nat.two_pow_pos _)))
  · obtain ⟨z, b, hb, e⟩ := mul_le (c := pl) (s := N) (r := 0) p1 (by rw [vm]; exact v1) (by omega) (by rw [pz]; simp [rungVal])
    have hb0 : b = 0 := by omega
    subst hb0
    have hm : fop .mul .f32 pl N % 2147483648 = 0 := by rw [e]; exact word_mod32 z (by omega)
    refine ⟨by omega, .inr hm, ?_⟩
    unfold posF
    rw [hm]; simp [rungVal]
end Go.Proofs.Ytemnjphnhmbddaa
