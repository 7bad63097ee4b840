/- Floating point, nineteenth part: numbers that are at most a whole number; what rounding changes, absolutely. -/
import Derived.Test.YtnahhdnkbbdceaaN9
import Derived.Test.YtnahhdnkbbdceaaF13
set_option linter.unusedVariables false
set_option linter.unusedSimpArgs false
namespace Go.Proofs.Ytnahhdnkbbdceaa
open Ieee

theorem sV_abs (x : Nat) : (sV x).natAbs = rungVal (x % 2147483648) := by
  unfold sV
  split <;> omega
/-- rounding's error -/
theorem rnd_err32 (n d : Nat) : 2 * (rnd n d * 2 ^ d) ≤ 2 * n + 2 ^ d ∧ 2 * n ≤ 2 * (rnd n d * 2 ^ d) + 2 ^ d := by
  unfold rnd
  have h := Nat.div_add_mod n (2 ^ d)
  have h2 := Nat.mod_lt n (Nat.two_pow_pos d)
  rw [Nat.mul_comm] at h
  generalize 2 ^ d = g at *
  rw [Nat.add_mul]
  split <;> omega
/-- what is rounded, in units of 2^-149 -/
theorem rung_err {T J e K : Nat} (hK : K = 925) (he : e = 2 ^ (J - 25)) (hJ : J ≤ 250) (h25 : 25 ≤ J) (h : T ≤ 2 ^ J) : rungVal (rungOf (T * 2 ^ K)) ≤ T + e ∧ T ≤ rungVal (rungOf (T * 2 ^ K)) + e ∧ rungOf (T * 2 ^ K) < 2139095040 := by
  by_cases h0 : T = 0
  · subst h0
    have : rungVal (rungOf (0 * 2 ^ K)) = 0 ∧ rungOf (0 * 2 ^ K) < 2139095040 := by rw [Nat.zero_mul]; decide +kernel
    omega
  have hV : T * 2 ^ K ≠ 0 := Nat.pos_iff_ne_zero.1 (Nat.mul_pos (Nat.pos_iff_ne_zero.2 h0) (Nat.two_pow_pos _))
  obtain ⟨a1, a2⟩ := log2_bounds h0
  have hl : T.log2 ≤ J := by
    rcases Nat.lt_or_ge J T.log2 with c | c
    · have h1 : 2 ^ (J + 1) ≤ 2 ^ T.log2 := Nat.pow_le_pow_right (by omega) c
      have h2 := Nat.two_pow_pos J
      rw [Nat.pow_succ] at h1
      omega
    · exact c
  obtain ⟨E, hE⟩ : ∃ E : Nat, E = T.log2 - 23 := ⟨_, rfl⟩
  have hR : rnd (T * 2 ^ K) (E + K) = rnd T E := rnd_scale T E K
  have k1 : rnd T E ≤ 16777216 := by
    refine rnd_le ?_
    have : 2 ^ (T.log2 + 1) ≤ 16777216 * 2 ^ E := by
      rw [show (16777216 : Nat) = 2 ^ 24 from rfl, ← Nat.pow_add]
      exact Nat.pow_le_pow_right (by omega) (by omega)
    omega
  have k2 : E = 0 ∨ 8388608 ≤ rnd T E := by
    rcases Nat.lt_or_ge T.log2 24 with c | c
    · left; omega
    · right
      refine rnd_ge ?_
      refine Nat.le_trans ?_ a1
      rw [show (8388608 : Nat) = 2 ^ 23 from rfl, ← Nat.pow_add]
      exact Nat.pow_le_pow_right (by omega) (by omega)
  have er : rungOf (T * 2 ^ K) = E * 8388608 + rnd T E := by
    unfold rungOf
    rw [if_neg hV, log2_shift h0, ← hK, show T.log2 + K - 948 = E by omega, hR, Nat.min_eq_left (by omega)]
  have ev : rungVal (E * 8388608 + rnd T E) = rnd T E * 2 ^ E := by
    unfold rungVal
    rcases Nat.lt_or_ge (rnd T E) 8388608 with c | c
    · have hE0 : E = 0 := by omega
      rw [hE0] at c ⊢
      rw [Nat.zero_mul, Nat.zero_add, if_pos c, Nat.pow_zero, Nat.mul_one]
    · rw [if_neg (by omega)]
      rcases Nat.lt_or_eq_of_le k1 with c2 | c2
      · rw [show (E * 8388608 + rnd T E) % 8388608 = rnd T E - 8388608 by omega, show (E * 8388608 + rnd T E) / 8388608 - 1 = E by omega, show 8388608 + (rnd T E - 8388608) = rnd T E by omega]
      · rw [show (E * 8388608 + rnd T E) % 8388608 = 0 by omega, show (E * 8388608 + rnd T E) / 8388608 - 1 = E + 1 by omega, c2, Nat.pow_succ, Nat.add_zero, show (16777216 : Nat) = 8388608 * 2 from rfl, Nat.mul_assoc, Nat.mul_comm 2]
  rw [er, ev]
  refine ⟨?_, ?_, by omega⟩
  · have h1 := (rnd_err32 T E).1
    rcases Nat.lt_or_eq_of_le hl with c | c
    · have h2 : 2 ^ E ≤ 2 ^ (J - 25 + 1) := Nat.pow_le_pow_right (by omega) (by omega)
      rw [Nat.pow_succ, ← he] at h2
      omega
    · have e1 : T = 2 ^ J := by rw [c] at a1; omega
      have e2 : T = 2 ^ 23 * 2 ^ E := by
        rw [e1, ← Nat.pow_add]; congr 1; omega
      have e3 := rnd_exact (2 ^ 23) E
      rw [← e2] at e3
      rw [e3, ← e2]; omega
  · have h1 := (rnd_err32 T E).2
    rcases Nat.lt_or_eq_of_le hl with c | c
    · have h2 : 2 ^ E ≤ 2 ^ (J - 25 + 1) := Nat.pow_le_pow_right (by omega) (by omega)
      rw [Nat.pow_succ, ← he] at h2
      omega
    · have e1 : T = 2 ^ J := by rw [c] at a1; omega
      have e2 : T = 2 ^ 23 * 2 ^ E := by
        rw [e1, ← Nat.pow_add]; congr 1; omega
      have e3 := rnd_exact (2 ^ 23) E
      rw [← e2] at e3
      rw [e3, ← e2]; omega

/-- at most `M` in size -/
def IB (x M : Nat) : Prop := x % 2147483648 < 2139095040 ∧ (sV x).natAbs ≤ M * 713623846352979940529142984724747568191373312
def ibOk (M : Nat) : Bool := decide (FloatKind.f32.nearest ((M : Nat) : Int) < 2139095040) && (rungVal (FloatKind.f32.nearest ((M : Nat) : Int)) == M * 713623846352979940529142984724747568191373312)
theorem ib_t0 : (List.range 2048).all (fun j => ibOk j) = true := by decide +kernel
theorem ib_t1 : (List.range 2048).all (fun j => ibOk (2048 + j)) = true := by decide +kernel
theorem ib_t2 : (List.range 2048).all (fun j => ibOk (4096 + j)) = true := by decide +kernel
theorem ib_t3 : (List.range 2048).all (fun j => ibOk (6144 + j)) = true := by decide +kernel
theorem ib_rung {M : Nat} (h : M < 8192) : ∃ r, r < 2139095040 ∧ rungVal r = M * 713623846352979940529142984724747568191373312 := by
  have key : ibOk M = true := by
    rcases (show M < 2048 ∨ (2048 ≤ M ∧ M < 4096) ∨ (4096 ≤ M ∧ M < 6144) ∨ 6144 ≤ M by omega) with c | c | c | c
    · exact List.all_eq_true.1 ib_t0 M (List.mem_range.2 c)
    · have := List.all_eq_true.1 ib_t1 (M - 2048) (List.mem_range.2 (by omega))
      rwa [show 2048 + (M - 2048) = M by omega] at this
    · have := List.all_eq_true.1 ib_t2 (M - 4096) (List.mem_range.2 (by omega))
      rwa [show 4096 + (M - 4096) = M by omega] at this
    · have := List.all_eq_true.1 ib_t3 (M - 6144) (List.mem_range.2 (by omega))
      rwa [show 6144 + (M - 6144) = M by omega] at this
  unfold ibOk at key
  rw [Bool.and_eq_true] at key
  exact ⟨_, of_decide_eq_true key.1, eq_of_beq key.2⟩
section
variable {x y M N : Nat}
theorem IB.mono (h : IB x M) (hl : M ≤ N) : IB x N := ⟨h.1, Nat.le_trans h.2 (Nat.mul_le_mul_right _ hl)⟩
theorem IB.zero : IB 0 M := by
  refine ⟨by omega, ?_⟩
  have : sV 0 = 0 := by decide +kernel
  rw [this]; exact Nat.zero_le _
theorem word_val {s : Bool} {b : Nat} (h : b < 2139095040) : sV (FloatKind.f32.format.word s b) = if s = true then -((rungVal b : Nat) : Int) else ((rungVal b : Nat) : Int) := by
  have hm := word_mod32 s h
  unfold sV
  rw [hm]
  have hs : (FloatKind.f32.format.word s b / 2147483648 % 2 == 1) = s := by
    unfold Format.word
    rw [sign32]
    cases s
    · rw [if_neg (by simp), Nat.div_eq_of_lt (by omega)]; rfl
    · rw [if_pos rfl]
      have : (2147483648 + b) / 2147483648 = 1 := by omega
      rw [this]; rfl
  rw [hs]
/-- a sum told by its exact value -/
theorem sum_IB {S : Int} (t2 : Bool) (hx : x % 2147483648 < 2139095040) (hy : y % 2147483648 < 2139095040) (hS : S = sV x + (if t2 then -sV y else sV y)) (hM : M < 8192) (h : S.natAbs ≤ M * 713623846352979940529142984724747568191373312) :
    ∃ z, ((FloatKind.f32.format.read x).sum (if t2 then (FloatKind.f32.format.read y).opposite else FloatKind.f32.format.read y)).map FloatKind.f32.format.write = some z ∧ IB z M ∧ (sV z - S).natAbs ≤ 174224571863520493293247799005065324265472 := by
  obtain ⟨K, hK⟩ : ∃ K : Nat, K = 925 := ⟨_, rfl⟩
  obtain ⟨r, hr, hrv⟩ := ib_rung hM
  have e := sum_sV hK t2 hx hy hS
  have hle : rungOf (S.natAbs * 2 ^ K) ≤ r := by
    rw [← rungOf_rung hr hK]
    exact rungOf_mono (Nat.mul_le_mul_right _ (by omega))
  have p162 : (2 : Nat) ^ 162 = 5846006549323611672814739330865132078623730171904 := by decide +kernel
  have p137 : (174224571863520493293247799005065324265472 : Nat) = 2 ^ (162 - 25) := by decide +kernel
  have er := rung_err (T := S.natAbs) (J := 162) hK p137 (by omega) (by omega) (by rw [p162]; omega)
  have hlt : rungOf (S.natAbs * 2 ^ K) < 2139095040 := er.2.2
  refine ⟨_, e, ⟨by rw [word_mod32 _ hlt]; exact hlt, ?_⟩, ?_⟩
  · rw [sV_abs, word_mod32 _ hlt, ← hrv]
    exact rungVal_le hle
  · rw [word_val hlt]
    by_cases h0 : S = 0
    · rw [if_pos h0]
      have : rungVal (rungOf (S.natAbs * 2 ^ K)) ≤ 174224571863520493293247799005065324265472 := by have := er.1; omega
      split <;> omega
    · rw [if_neg h0]
      by_cases hs : S < 0
      · rw [if_pos (decide_eq_true hs)]; omega
      · rw [if_neg (by simpa using hs)]; omega
theorem add_IB (hx : x % 2147483648 < 2139095040) (hy : y % 2147483648 < 2139095040) (hM : M < 8192) (h : (sV x + sV y).natAbs ≤ M * 713623846352979940529142984724747568191373312) : IB (fop .add .f32 x y) M ∧ (sV (fop .add .f32 x y) - (sV x + sV y)).natAbs ≤ 174224571863520493293247799005065324265472 := by
  obtain ⟨z, hz, a, b⟩ := sum_IB (S := sV x + sV y) false hx hy (by simp) hM h
  have e2 : floatBits .add .f32 x y = some z := hz
  unfold fop; rw [e2]
  exact ⟨a, b⟩
theorem sub_IB (hx : x % 2147483648 < 2139095040) (hy : y % 2147483648 < 2139095040) (hM : M < 8192) (h : (sV x - sV y).natAbs ≤ M * 713623846352979940529142984724747568191373312) : IB (fop .sub .f32 x y) M ∧ (sV (fop .sub .f32 x y) - (sV x - sV y)).natAbs ≤ 174224571863520493293247799005065324265472 := by
  obtain ⟨z, hz, a, b⟩ := sum_IB (S := sV x - sV y) true hx hy (by simp; omega) hM h
  have e2 : floatBits .sub .f32 x y = some z := hz
  unfold fop; rw [e2]
  exact ⟨a, b⟩
/-- a product by a number of size at most 1 -/
theorem mul_IB {c : Nat} (hc : c % 2147483648 ≤ 1065353216) (hx : x % 2147483648 < 2139095040) : (fop .mul .f32 c x) % 2147483648 < 2139095040 ∧ (sV (fop .mul .f32 c x)).natAbs ≤ (sV x).natAbs ∧
    (c / 2147483648 % 2 = 0 → (0 ≤ sV x → 0 ≤ sV (fop .mul .f32 c x)) ∧ (sV x ≤ 0 → sV (fop .mul .f32 c x) ≤ 0)) ∧ (c / 2147483648 % 2 = 1 → (0 ≤ sV x → sV (fop .mul .f32 c x) ≤ 0) ∧ (sV x ≤ 0 → 0 ≤ sV (fop .mul .f32 c x))) := by
  have one : rungVal 1065353216 = 2 ^ 149 := by decide +kernel
  obtain ⟨b, hb, e⟩ := mul_leS (c := c) (s := x) (r := x % 2147483648) (by omega) hx hx (by
    rw [Nat.mul_comm, ← one]
    exact Nat.mul_le_mul_left _ (rungVal_le hc))
  have hlt : b < 2139095040 := by omega
  have hv := rungVal_le hb
  have hax := sV_abs x
  rw [e, word_mod32 _ hlt, word_val hlt]
  have hsx : (x / 2147483648 % 2 == 1) = true → sV x ≤ 0 := fun h => by unfold sV; rw [if_pos h]; omega
  have hsy : (x / 2147483648 % 2 == 1) = false → 0 ≤ sV x := fun h => by unfold sV; rw [h]; simp
  refine ⟨hlt, ?_, fun hc0 => ?_, fun hc1 => ?_⟩
  · split <;> omega
  · have h0 : (c / 2147483648 % 2 == 1) = false := by rw [hc0]; rfl
    rw [h0]
    cases hs : (x / 2147483648 % 2 == 1)
    · have := hsy hs
      simp only [Bool.false_xor, Bool.false_eq_true, if_false]; omega
    · have := hsx hs
      simp only [Bool.false_xor, if_true]; omega
  · have h0 : (c / 2147483648 % 2 == 1) = true := by rw [hc1]; rfl
    rw [h0]
    cases hs : (x / 2147483648 % 2 == 1)
    · have := hsy hs
      simp only [Bool.true_xor, Bool.not_false, if_true]; omega
    · have := hsx hs
      simp only [Bool.true_xor, Bool.not_true, Bool.false_eq_true, if_false]; omega
end
end Go.Proofs.Ytnahhdnkbbdceaa
