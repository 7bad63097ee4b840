/- Floating point, seventh part: the whole part of a number; places along a list. -/
import Derived.Test.YteonmpphpeopiaaDoorF6
set_option linter.unusedVariables false
set_option linter.unusedSimpArgs false
set_option maxRecDepth 10000
namespace Go.Proofs.YteonmpphpeopiaaDoor
open Ieee

/-- the whole part of a narrow word's number without its sign -/
def posF (p : Nat) : Nat := rungVal (p % 2147483648) / 2 ^ 149
/-- a number from 0 to `n`, perhaps -0 -/
structure Spot (p n : Nat) : Prop where
  fin : p % 2147483648 < 2139095040
  sgn : (p / 2147483648 % 2 == 1) = false ∨ p % 2147483648 = 0
  le : posF p ≤ n

theorem cut_whole {way : Toward} {s : Bool} {n d : Nat} (hw : way = .zero ∨ way = .down) (hs : s = false ∨ n = 0) : way.cut s n d = n / 2 ^ d := by
  have low : n / (1 <<< min d (n.log2 + 2)) = n / 2 ^ d := by
    rw [Nat.one_shiftLeft]
    rcases Nat.lt_or_ge (n.log2 + 2) d with c | c
    · rw [Nat.min_eq_right (Nat.le_of_lt c)]
      have h1 : n < 2 ^ (n.log2 + 1) := Nat.lt_log2_self
      have h2 : 2 ^ (n.log2 + 1) ≤ 2 ^ (n.log2 + 2) := Nat.pow_le_pow_right (by omega) (by omega)
      have h3 : 2 ^ (n.log2 + 1) ≤ 2 ^ d := Nat.pow_le_pow_right (by omega) (by omega)
      rw [Nat.div_eq_of_lt (by omega), Nat.div_eq_of_lt (by omega)]
    · rw [Nat.min_eq_left c]
  unfold Toward.cut
  simp only [low]
  rcases hw with rfl | rfl
  · rfl
  · rcases hs with rfl | rfl
    · rfl
    · simp

/-- the whole part, read off the number in units of 2 ^ -c -/
theorem whole_of {c : Nat} {m : Nat} {i : Int} (hi : -(c : Int) ≤ i) : (m <<< i.toNat) / 2 ^ (-i).toNat = (m * 2 ^ (i + c).toNat) / 2 ^ c := by
  rw [Nat.shiftLeft_eq]
  rcases Int.le_total 0 i with h | h
  · rw [show (-i).toNat = 0 by omega, show (i + c).toNat = i.toNat + c by omega, Nat.pow_add, ← Nat.mul_assoc, Nat.mul_div_cancel _ (Nat.two_pow_pos c)]
    simp
  · obtain ⟨k, hk⟩ : ∃ k : Nat, i = -(k : Int) := ⟨(-i).toNat, by omega⟩
    rw [show i.toNat = 0 by omega, show (-i).toNat = k by omega, Nat.pow_zero, Nat.mul_one]
    have e : c = (i + c).toNat + k := by omega
    generalize hj : (i + c).toNat = j at e
    rw [e, Nat.pow_add, Nat.mul_comm (2 ^ j) (2 ^ k), Nat.mul_div_mul_right _ _ (Nat.two_pow_pos j)]

theorem toInt_of {c m q : Nat} {s : Bool} {i : Int} (hi : -(c : Int) ≤ i) (hq : m * 2 ^ (i + c).toNat / 2 ^ c = q) (hs : s = false ∨ m = 0) : (Datum.number s m i).toInt .zero = some ((q : Nat) : Int) := by
  have hs' : s = false ∨ m <<< i.toNat = 0 := by
    rcases hs with h | h
    · exact .inl h
    · right; rw [h, Nat.shiftLeft_eq, Nat.zero_mul]
  unfold Datum.toInt Datum.integral
  simp only
  rw [cut_whole (.inl rfl) hs', whole_of hi, hq]
  rcases hs with h | h
  · subst h; simp [signed]
  · subst h
    rw [Nat.zero_mul, Nat.zero_div] at hq
    subst hq
    cases s <;> simp [signed]

theorem rung_zero {r : Nat} (h : rungVal r = 0) : r = 0 := by
  have r0 : rungVal 0 = 0 := by decide
  exact rungVal_inj (by rw [r0]; exact h)

theorem Spot.read {p n : Nat} (h : Spot p n) : ∃ s m i, FloatKind.f32.format.read p = .number s m i ∧ -149 ≤ i ∧ m * 2 ^ (i + 149).toNat = rungVal (p % 2147483648) ∧ (s = false ∨ m = 0) := by
  obtain ⟨m, i, h1, h2, h3⟩ := read_fin h.fin
  refine ⟨_, m, i, h1, h2, h3, ?_⟩
  rcases h.sgn with k | k
  · exact .inl k
  · right
    rw [k, show rungVal 0 = 0 by decide] at h3
    rcases Nat.mul_eq_zero.1 h3 with e | e
    · exact e
    · exact absurd e (Nat.pos_iff_ne_zero.1 (Nat.two_pow_pos _))

/-- A place is turned into a whole number. -/
theorem Spot.toInt {p n : Nat} (h : Spot p n) : (FloatKind.f32.decode p).toInt .zero = some ((posF p : Nat) : Int) := by
  obtain ⟨s, m, i, h1, h2, h3, h4⟩ := h.read
  show (FloatKind.f32.format.read p).toInt .zero = _
  rw [h1]
  exact toInt_of (c := 149) h2 (by
    have e : (i + ((149 : Nat) : Int)).toNat = (i + 149).toNat := rfl
    rw [e, h3]; rfl) h4

/-- the whole number below, as a wide word -/
def floorW (p : Nat) : Nat := FloatKind.f64.encode ((FloatKind.f64.decode (wide p)).integral .down)
theorem Spot.floor {p n : Nat} (h : Spot p n) : ∃ s, (FloatKind.f64.decode (wide p)).integral .down = .number s (posF p) 0 ∧ (s = false ∨ posF p = 0) ∧ (FloatKind.f64.decode (wide p)).isNaN = false := by
  obtain ⟨s, m, i, h1, h2, h3, h4⟩ := h.read
  obtain ⟨m', i', hr, hi, K, hK, hv⟩ := up_number h1 h2 h3
  have h5 : s = false ∨ m' = 0 := by
    rcases h4 with k | k
    · exact .inl k
    · right
      rw [k, Nat.zero_mul] at h3
      rw [← h3, Nat.zero_mul] at hv
      rcases Nat.mul_eq_zero.1 hv with e | e
      · exact e
      · exact absurd e (Nat.pos_iff_ne_zero.1 (Nat.two_pow_pos _))
  have h6 : s = false ∨ m' <<< i'.toNat = 0 := by
    rcases h5 with k | k
    · exact .inl k
    · right; rw [k, Nat.shiftLeft_eq, Nat.zero_mul]
  obtain ⟨c, hc⟩ : ∃ c : Nat, c = 149 + K := ⟨_, rfl⟩
  have hw : (m' <<< i'.toNat) / 2 ^ (-i').toNat = posF p := by
    rw [whole_of (c := c) (by omega), show (i' + (c : Int)).toNat = (i' + 1074).toNat by omega, hv, hc, Nat.pow_add, Nat.mul_div_mul_right _ _ (Nat.two_pow_pos K)]
    rfl
  have hd : FloatKind.f64.decode (wide p) = .number s m' i' := hr
  refine ⟨s, ?_, ?_, by rw [hd]; rfl⟩
  · rw [hd]
    show Datum.number s (Toward.down.cut s (m' <<< i'.toNat) (-i').toNat) 0 = _
    rw [cut_whole (.inr rfl) h6, hw]
  · rcases h5 with k | k
    · exact .inl k
    · right; rw [← hw, k, Nat.shiftLeft_eq, Nat.zero_mul, Nat.zero_div]

theorem read_whole64 (s : Bool) {q c : Nat} (hc : c = 1074) (h : q ≤ 1048576) : ∃ m i, FloatKind.f64.format.read (FloatKind.f64.format.nearest s q 0) = .number s m i ∧ -(c : Int) ≤ i ∧ m * 2 ^ (i + c).toNat / 2 ^ c = q ∧ (q = 0 → m = 0) := by
  have hl : FloatKind.f64.format.leastPlace = -1074 := by decide +kernel
  have hF : FloatKind.f64.format.fractionBits = 52 := rfl
  have hB : FloatKind.f64.format.binade = 4503599627370496 := by decide +kernel
  rcases Nat.eq_zero_or_pos q with h0 | h0
  · subst h0
    refine ⟨0, -1074, ?_, by omega, by simp, fun _ => rfl⟩
    cases s <;> decide +kernel
  · have hq : q ≠ 0 := Nat.pos_iff_ne_zero.1 h0
    obtain ⟨l1, l2⟩ := log2_bounds hq
    have hL : q.log2 ≤ 20 := by
      have : q.log2 < 21 := (Nat.pow_lt_pow_iff_right (show 1 < 2 by omega)).1 (Nat.lt_of_le_of_lt l1 (by omega))
      omega
    generalize hlg : q.log2 = L at *
    have e2 : (0 - ((L : Int) - 52)).toNat = 52 - L := by omega
    have hb : q * 2 ^ (52 - L) < 2 ^ 53 := by
      have k : q * 2 ^ (52 - L) < 2 ^ (L + 1) * 2 ^ (52 - L) := Nat.mul_lt_mul_of_pos_right l2 (Nat.two_pow_pos _)
      rw [← Nat.pow_add, show L + 1 + (52 - L) = 53 by omega] at k
      exact k
    have key := read_nearest_exact FloatKind.f64.format s (mag := q) (place := 0) (last := (L : Int) - 52) (d := 0) hq (by rw [hl, hlg]; have : ((FloatKind.f64.format.fractionBits : Nat) : Int) = 52 := rfl; rw [this]; omega) (by omega) (by simp) (by
      rw [hl, hB, inf64, e2, Nat.pow_zero, Nat.div_one]
      have : ((L : Int) - 52 - -1074).toNat = L + 1022 := by omega
      rw [this]; omega)
    rw [e2, Nat.pow_zero, Nat.div_one] at key
    refine ⟨_, _, key, by omega, ?_, fun e => absurd e hq⟩
    have e3 : ((L : Int) - 52 + (c : Int)).toNat = L + 1022 := by omega
    rw [e3, Nat.mul_assoc, ← Nat.pow_add, show 52 - L + (L + 1022) = c by omega]
    exact Nat.mul_div_cancel _ (Nat.two_pow_pos c)

theorem Spot.toInt64 {p n : Nat} (h : Spot p n) (hn : n ≤ 1048576) : (FloatKind.f64.decode (floorW p)).toInt .zero = some ((posF p : Nat) : Int) := by
  obtain ⟨s, e, hs, _⟩ := h.floor
  obtain ⟨c, hc⟩ : ∃ c : Nat, c = 1074 := ⟨_, rfl⟩
  obtain ⟨m, i, hr, hi, hv, hz⟩ := read_whole64 s hc (q := posF p) (Nat.le_trans h.le hn)
  have hd : FloatKind.f64.decode (floorW p) = .number s m i := by
    unfold floorW
    rw [e]; exact hr
  rw [hd]
  exact toInt_of (c := c) hi hv (hs.imp id hz)

theorem whole_nat {n : Nat} (hn : n ≤ 1024) : FloatKind.f32.nearest ((n : Nat) : Int) < 2139095040 ∧ rungVal (FloatKind.f32.nearest ((n : Nat) : Int)) = n * 2 ^ 149 ∧ True := by
  have key : ∀ n, n < 1025 → (decide (FloatKind.f32.nearest ((n : Nat) : Int) < 2139095040) && decide (rungVal (FloatKind.f32.nearest ((n : Nat) : Int)) = n * 2 ^ 149)) = true := by decide +kernel
  have := key n (by omega)
  simp only [Bool.and_eq_true, decide_eq_true_eq] at this
  exact ⟨this.1, this.2, trivial⟩
/-- A place within a list of `n` samples. -/
theorem Spot.of {pl n : Nat} (hg : fGe .f32 pl 0 = true) (hl : fLt .f32 pl 1065353216 = true) (hn : n ≤ 1024) : Spot (fop .mul .f32 pl (FloatKind.f32.nearest ((n : Nat) : Int))) n := by
  have z0 : FloatKind.f32.format.read 0 = .number false 0 (-149) := by decide +kernel
  have z1 : FloatKind.f32.format.read 1065353216 = .number false 8388608 (-23) := by decide +kernel
  have hp : pl % 2147483648 < 2139095040 ∧ rungVal (pl % 2147483648) ≤ 2 ^ 149 ∧ ((pl / 2147483648 % 2 == 1) = false ∨ pl % 2147483648 = 0) := by
    unfold fGe Format.order at hg
    unfold fLt Format.order at hl
    rw [z0] at hg
    rw [z1] at hl
    rcases read32 pl with ⟨hr, _⟩ | ⟨t, hr⟩ | ⟨m, i, hr, h1, h2, h3⟩
    · rw [hr] at hg hl
      generalize (pl / 2147483648 % 2 == 1) = t at hg hl
      cases t
      · simp [Datum.order] at hl
      · simp [Datum.order] at hg
    · rw [hr] at hl; simp [Datum.order] at hl
    · rw [hr, order_number (-149) h1 (by omega)] at hl hg
      have hx : m <<< (i - -149).toNat = rungVal (pl % 2147483648) := by rw [Nat.shiftLeft_eq, ← h2, show i - -149 = i + 149 by omega]
      have h8 : 8388608 <<< ((-23 : Int) - -149).toNat = 2 ^ 149 := by decide +kernel
      unfold signed at hg hl
      rw [hx] at hg hl
      rw [h8] at hl
      generalize (pl / 2147483648 % 2 == 1) = t at hg hl ⊢
      have hl' : compare (if t = true then -((rungVal (pl % 2147483648) : Nat) : Int) else ((rungVal (pl % 2147483648) : Nat) : Int)) (if false = true then -((2 ^ 149 : Nat) : Int) else ((2 ^ 149 : Nat) : Int)) = .lt := by simpa using hl
      rw [Std.compare_eq_lt] at hl'
      cases t
      · refine ⟨h3, ?_, .inl rfl⟩
        simp only [Bool.false_eq_true, if_false] at hl'
        omega
      · have hz : rungVal (pl % 2147483648) = 0 := by
          rcases Nat.eq_zero_or_pos (rungVal (pl % 2147483648)) with k | k
          · exact k
          · exfalso
            have hc : compare (-((rungVal (pl % 2147483648) : Nat) : Int)) (0 : Int) = .lt := by rw [Std.compare_eq_lt]; omega
            simp [hc] at hg
        exact ⟨h3, by rw [hz]; exact Nat.zero_le _, .inr (rung_zero hz)⟩
  obtain ⟨p1, p2, p3⟩ := hp
  obtain ⟨v1, v2, v3⟩ := whole_nat hn
  have vm : FloatKind.f32.nearest ((n : Nat) : Int) % 2147483648 = FloatKind.f32.nearest ((n : Nat) : Int) := Nat.mod_eq_of_lt (by omega)
  generalize FloatKind.f32.nearest ((n : Nat) : Int) = N at *
  rcases p3 with ps | pz
  · obtain ⟨b, hb, e⟩ := mul_leS (c := pl) (s := N) (r := N) p1 (by rw [vm]; exact v1) v1 (by
      rw [vm, Nat.mul_comm]
      exact Nat.mul_le_mul_left _ p2)
    have es : (N / 2147483648 % 2 == 1) = false := by simp; omega
    rw [ps, es] at e
    have e' : fop .mul .f32 pl N = b := by rw [e]; rfl
    have bm : b % 2147483648 = b := Nat.mod_eq_of_lt (by omega)
    refine ⟨by rw [e', bm]; omega, .inl (by rw [e']; simp; omega), ?_⟩
    unfold posF
    rw [e', bm]
    have h1 : rungVal b ≤ n * 2 ^ 149 := by
      rw [← v2]
      rcases Nat.lt_or_ge b N with c | c
      · exact Nat.le_of_lt (rungVal_lt c)
      · rw [show b = N by omega]; exact Nat.le_refl _
    exact Nat.le_trans (Nat.div_le_div_right h1) (Nat.le_of_eq (Nat.mul_div_cancel _ (Nat.two_pow_pos _)))
  · obtain ⟨z, b, hb, e⟩ := mul_le (c := pl) (s := N) (r := 0) p1 (by rw [vm]; exact v1) (by omega) (by rw [pz]; simp [rungVal])
    have hb0 : b = 0 := by omega
    subst hb0
    have hm : fop .mul .f32 pl N % 2147483648 = 0 := by rw [e]; exact word_mod32 z (by omega)
    refine ⟨by omega, .inr hm, ?_⟩
    unfold posF
    rw [hm]; simp [rungVal]
end Go.Proofs.YteonmpphpeopiaaDoor
