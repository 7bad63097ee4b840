/- Floating point, fifteenth part: sums and differences, told by exact values; sums that are exact. -/
import Derived.Test.YtemnjphnhmbddaaF14
import Derived.Test.YtemnjphnhmbddaaF7
set_option linter.unusedVariables false
set_option linter.unusedSimpArgs false
namespace Go.Proofs.Ytemnjphnhmbddaa
open Ieee

theorem signed_sV {x m : Nat} {i p : Int} (h3 : m * 2 ^ (i + 149).toNat = rungVal (x % 2147483648)) (hp : p ≤ i) (h9 : -149 ≤ p) : signed (x / 2147483648 % 2 == 1) m (i - p).toNat * ((2 ^ (p + 149).toNat : Nat) : Int) = sV x := by
  have e : (m * 2 ^ (i - p).toNat) * 2 ^ (p + 149).toNat = rungVal (x % 2147483648) := by
    rw [← h3, Nat.mul_assoc, ← Nat.pow_add, show (i - p).toNat + (p + 149).toNat = (i + 149).toNat by omega]
  unfold signed sV
  rw [Nat.shiftLeft_eq]
  generalize m * 2 ^ (i - p).toNat = u at e
  generalize 2 ^ (p + 149).toNat = v at e
  rw [← e]
  cases (x / 2147483648 % 2 == 1)
  · simp
  · simp [Int.neg_mul]
/-- the sum (the difference, where `t2`) of two numbers, told by its exact value -/
theorem sum_sV {x y K : Nat} {S : Int} (hK : K = 925) (t2 : Bool) (hx : x % 2147483648 < 2139095040) (hy : y % 2147483648 < 2139095040) (hS : S = sV x + (if t2 then -sV y else sV y)) :
    ((FloatKind.f32.format.read x).sum (if t2 then (FloatKind.f32.format.read y).opposite else FloatKind.f32.format.read y)).map FloatKind.f32.format.write = some (FloatKind.f32.format.word (if S = 0 then (x / 2147483648 % 2 == 1) && ((y / 2147483648 % 2 == 1) ^^ t2) else decide (S < 0)) (rungOf (S.natAbs * 2 ^ K))) := by
  obtain ⟨m, i, h1, h2, h3⟩ := read_fin hx
  obtain ⟨n, j, g1, g2, g3⟩ := read_fin hy
  rw [h1, g1]
  have ht : (if t2 then (Datum.number (y / 2147483648 % 2 == 1) n j).opposite else Datum.number (y / 2147483648 % 2 == 1) n j) = Datum.number ((y / 2147483648 % 2 == 1) ^^ t2) n j := by
    cases t2
    · simp
    · simp [Datum.opposite]
  rw [ht]
  obtain ⟨p, hp⟩ : ∃ p, p = min i j := ⟨_, rfl⟩
  have hpi : p ≤ i := by rw [hp]; omega
  have hpj : p ≤ j := by rw [hp]; omega
  have hp149 : -149 ≤ p := by rw [hp]; omega
  have k1 := signed_sV h3 hpi hp149
  have k2 := signed_sV g3 hpj hp149
  have k3 : signed ((y / 2147483648 % 2 == 1) ^^ t2) n (j - p).toNat * ((2 ^ (p + 149).toNat : Nat) : Int) = (if t2 then -sV y else sV y) := by
    rw [← k2]
    unfold signed
    cases t2 <;> cases (y / 2147483648 % 2 == 1) <;> simp [Int.neg_mul]
  have hv : (0 : Int) < ((2 ^ (p + 149).toNat : Nat) : Int) := Int.ofNat_lt.2 (Nat.two_pow_pos _)
  have hT : (signed (x / 2147483648 % 2 == 1) m (i - p).toNat + signed ((y / 2147483648 % 2 == 1) ^^ t2) n (j - p).toNat) * ((2 ^ (p + 149).toNat : Nat) : Int) = S := by
    rw [Int.add_mul, k1, k3, hS]
  simp only [Datum.sum, Format.write, ← hp, Option.map]
  generalize signed (x / 2147483648 % 2 == 1) m (i - p).toNat + signed ((y / 2147483648 % 2 == 1) ^^ t2) n (j - p).toNat = T at hT ⊢
  rw [nearest_spec _ _ (by omega)]
  have e1 : (p + 1074).toNat = (p + 149).toNat + K := by omega
  have e2 : T.natAbs * 2 ^ (p + 1074).toNat = S.natAbs * 2 ^ K := by
    rw [e1, Nat.pow_add, ← Nat.mul_assoc, ← hT, Int.natAbs_mul]
    rfl
  rw [e2]
  generalize hv9 : ((2 ^ (p + 149).toNat : Nat) : Int) = v at hT hv
  have z1 : T = 0 ↔ S = 0 := by
    rw [← hT]
    constructor
    · intro h; rw [h, Int.zero_mul]
    · intro h
      rcases Int.mul_eq_zero.1 h with h' | h'
      · exact h'
      · omega
  have z2 : T < 0 ↔ S < 0 := by
    rw [← hT]
    constructor
    · intro h; exact Int.mul_neg_of_neg_of_pos h hv
    · intro h
      by_cases h' : T < 0
      · exact h'
      · exact absurd h (Int.not_lt.2 (Int.mul_nonneg (Int.not_lt.1 h') (Int.le_of_lt hv)))
  by_cases h0 : S = 0
  · rw [if_pos h0, if_pos (z1.2 h0)]
  · rw [if_neg h0, if_neg (fun h => h0 (z1.1 h))]
    congr 2
    exact decide_eq_decide.2 z2
/-- a number is its exact value, but for the sign of zero -/
theorem word_sV {z K : Nat} (hK : K = 925) (hz : z < 4294967296) (hf : z % 2147483648 < 2139095040) (h0 : z ≠ 2147483648) : FloatKind.f32.format.word (decide (sV z < 0)) (rungOf ((sV z).natAbs * 2 ^ K)) = z := by
  have e : (sV z).natAbs = rungVal (z % 2147483648) := by
    unfold sV
    split <;> simp
  rw [e, rungOf_rung hf hK]
  have hw : ∀ s : Bool, FloatKind.f32.format.word s (z % 2147483648) = (if s then 2147483648 else 0) + z % 2147483648 := fun s => by
    unfold Format.word; simp only [sign32]; cases s <;> simp
  rw [hw]
  by_cases hs : z / 2147483648 % 2 = 1
  · have hneg : sV z < 0 := by
      unfold sV
      rw [if_pos (by rw [beq_iff_eq]; exact hs)]
      have hp : rungVal (z % 2147483648) ≠ 0 := fun h => by
        have := rung_zero h
        omega
      omega
    rw [decide_eq_true hneg]
    simp only [if_true]; omega
  · have hneg : ¬ sV z < 0 := by
      unfold sV
      rw [if_neg (by rw [beq_iff_eq]; exact hs)]
      omega
    rw [decide_eq_false hneg]
    simp only [Bool.false_eq_true, if_false]; omega
theorem neg_sV {x : Nat} (hx : x < 4294967296) (h0 : x ≠ 2147483648) (hs : x / 2147483648 % 2 = 1) : sV x < 0 := by
  unfold sV
  rw [if_pos (by rw [beq_iff_eq]; exact hs)]
  have hp : rungVal (x % 2147483648) ≠ 0 := fun h => by
    have := rung_zero h
    omega
  omega
theorem pos_sV {x : Nat} (h : 0 < sV x) : x / 2147483648 % 2 ≠ 1 := by
  intro hs
  unfold sV at h
  rw [if_pos (by rw [beq_iff_eq]; exact hs)] at h
  omega
theorem lt_sV {x : Nat} (h : sV x < 0) : x / 2147483648 % 2 = 1 := by
  by_cases hs : x / 2147483648 % 2 = 1
  · exact hs
  · unfold sV at h
    rw [if_neg (by rw [beq_iff_eq]; exact hs)] at h
    omega
/-- a sum that is a number is that number -/
theorem add_ex {x y z : Nat} (hx9 : x < 4294967296) (hx : x % 2147483648 < 2139095040) (hy : y % 2147483648 < 2139095040) (hz9 : z < 4294967296) (hz : z % 2147483648 < 2139095040) (h0 : z ≠ 2147483648) (hx0 : x ≠ 2147483648) (hs : sV x + sV y = sV z) : fop .add .f32 x y = z := by
  obtain ⟨K, hK⟩ : ∃ K, K = 925 := ⟨_, rfl⟩
  have h := sum_sV (S := sV z) hK false hx hy (by simpa using hs.symm)
  have w := word_sV hK hz9 hz h0
  have hsg : (if sV z = 0 then (x / 2147483648 % 2 == 1) && ((y / 2147483648 % 2 == 1) ^^ false) else decide (sV z < 0)) = decide (sV z < 0) := by
    split
    · rename_i hz0
      rw [decide_eq_false (by omega)]
      by_cases h1 : x / 2147483648 % 2 = 1
      · have hn := neg_sV hx9 hx0 h1
        have := pos_sV (x := y) (by omega)
        simp [this]
      · simp [h1]
    · rfl
  rw [hsg, w] at h
  have e2 : floatBits .add .f32 x y = some z := h
  unfold fop; rw [e2]; rfl
theorem sub_ex {x y z : Nat} (hx9 : x < 4294967296) (hx : x % 2147483648 < 2139095040) (hy : y % 2147483648 < 2139095040) (hz9 : z < 4294967296) (hz : z % 2147483648 < 2139095040) (h0 : z ≠ 2147483648) (hx0 : x ≠ 2147483648) (hs : sV x - sV y = sV z) : fop .sub .f32 x y = z := by
  obtain ⟨K, hK⟩ : ∃ K, K = 925 := ⟨_, rfl⟩
  have h := sum_sV (S := sV z) hK true hx hy (by simp only [if_true]; omega)
  have w := word_sV hK hz9 hz h0
  have hsg : (if sV z = 0 then (x / 2147483648 % 2 == 1) && ((y / 2147483648 % 2 == 1) ^^ true) else decide (sV z < 0)) = decide (sV z < 0) := by
    split
    · rename_i hz0
      rw [decide_eq_false (by omega)]
      by_cases h1 : x / 2147483648 % 2 = 1
      · have hn := neg_sV hx9 hx0 h1
        have := lt_sV (x := y) (by omega)
        simp [this]
      · simp [h1]
    · rfl
  rw [hsg, w] at h
  have e2 : floatBits .sub .f32 x y = some z := h
  unfold fop; rw [e2]; rfl
end Go.Proofs.Ytemnjphnhmbddaa
