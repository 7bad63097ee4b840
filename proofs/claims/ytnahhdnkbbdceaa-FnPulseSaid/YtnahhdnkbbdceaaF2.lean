/- Floating point, second part: numbers that a format has are written without rounding; conversions between the widths. -/
import Derived.Test.YtnahhdnkbbdceaaE19
namespace Go.Proofs.Ytnahhdnkbbdceaa
open Ieee

theorem log2_bounds {n : Nat} (h : n ≠ 0) : 2 ^ n.log2 ≤ n ∧ n < 2 ^ (n.log2 + 1) := ⟨Nat.log2_self_le h, Nat.lt_log2_self⟩

theorem cut_exact {n d : Nat} (neg : Bool) (hn : n ≠ 0) (hd : 2 ^ d ∣ n) : Toward.even.cut neg n d = n / 2 ^ d := by
  obtain ⟨c, rfl⟩ := hd
  have hc : c ≠ 0 := fun e => hn (by simp [e])
  have h1 : 2 ^ d ≤ 2 ^ d * c := Nat.le_mul_of_pos_right _ (Nat.pos_of_ne_zero hc)
  have hlog : d ≤ (2 ^ d * c).log2 := (Nat.le_log2 hn).2 h1
  have hp : 0 < 2 ^ d := Nat.two_pow_pos d
  unfold Toward.cut
  simp only
  rw [Nat.min_eq_left (by omega), Nat.one_shiftLeft, Nat.mul_mod_right]
  have : ¬ (2 ^ d < 2 * 0) := by omega
  have h2 : (2 ^ d == 2 * 0) = false := by simp
  simp [h2]

/-- A number that the format has comes back as it is: the same value, `kept * 2 ^ last`. -/
theorem read_nearest_exact (f : Format) (neg : Bool) {mag : Nat} {place last : Int} {d : Nat} (hm : mag ≠ 0) (hlast : last = max (place + mag.log2 - f.fractionBits) f.leastPlace)
    (hd : d = (last - place).toNat) (hdiv : 2 ^ d ∣ mag) (hfit : (last - f.leastPlace).toNat * f.binade + mag * 2 ^ (place - last).toNat / 2 ^ d < f.infRung) :
    f.read (f.nearest neg mag place) = .number neg (mag * 2 ^ (place - last).toNat / 2 ^ d) last := by
  obtain ⟨hl1, hl2⟩ := log2_bounds hm
  have hB : f.binade = 2 ^ f.fractionBits := rfl
  have hsw := f.infRung_lt
  generalize hk : mag * 2 ^ (place - last).toNat / 2 ^ d = kept at *
  have hnear : f.nearest neg mag place = f.word neg ((last - f.leastPlace).toNat * f.binade + kept) := by
    unfold Format.nearest
    rw [if_neg hm]
    simp only
    rw [← hlast, ← hd, Nat.shiftLeft_eq, cut_exact neg (Nat.mul_ne_zero hm (Nat.pos_iff_ne_zero.1 (Nat.two_pow_pos _))) (Nat.dvd_trans hdiv (Nat.dvd_mul_right _ _)), hk, Nat.min_eq_left (Nat.le_of_lt hfit)]
  rw [hnear, read_word f neg (by omega)]
  have hlo : f.leastPlace ≤ last := by rw [hlast]; exact Int.le_max_right _ _
  have hge : place + mag.log2 - f.fractionBits ≤ last := by rw [hlast]; exact Int.le_max_left _ _
  -- kept has at most one digit more than the fraction field
  have hup : kept < 2 ^ (f.fractionBits + 1) := by
    rw [← hk]
    rcases Int.le_total last place with c | c
    · have hd0 : d = 0 := by omega
      have h1 : mag * 2 ^ (place - last).toNat < 2 ^ (mag.log2 + 1) * 2 ^ (place - last).toNat := Nat.mul_lt_mul_of_pos_right hl2 (Nat.two_pow_pos _)
      rw [hd0, Nat.pow_zero, Nat.div_one]
      refine Nat.lt_of_lt_of_le h1 ?_
      rw [← Nat.pow_add]
      exact Nat.pow_le_pow_right (by omega) (by omega)
    · have hz : (place - last).toNat = 0 := by omega
      rw [hz, Nat.pow_zero, Nat.mul_one]
      rw [Nat.div_lt_iff_lt_mul (Nat.two_pow_pos _), ← Nat.pow_add]
      exact Nat.lt_of_lt_of_le hl2 (Nat.pow_le_pow_right (by omega) (by omega))
  have hlow : f.leastPlace < last → 2 ^ f.fractionBits ≤ kept := by
    intro hgt
    have heq : last = place + mag.log2 - f.fractionBits := by omega
    rw [← hk]
    rcases Int.le_total last place with c | c
    · have hd0 : d = 0 := by omega
      rw [hd0, Nat.pow_zero, Nat.div_one]
      refine Nat.le_trans ?_ (Nat.mul_le_mul_right _ hl1)
      rw [← Nat.pow_add]
      exact Nat.pow_le_pow_right (by omega) (by omega)
    · have hz : (place - last).toNat = 0 := by omega
      rw [hz, Nat.pow_zero, Nat.mul_one, Nat.le_div_iff_mul_le (Nat.two_pow_pos _), ← Nat.pow_add]
      exact Nat.le_trans (Nat.pow_le_pow_right (by omega) (by omega)) hl1
  have hp : 0 < 2 ^ f.fractionBits := Nat.two_pow_pos _
  rw [hB]
  rw [hB] at hfit
  have hpow : 2 ^ (f.fractionBits + 1) = 2 * 2 ^ f.fractionBits := by rw [Nat.pow_succ, Nat.mul_comm]
  rw [hpow] at hup
  generalize 2 ^ f.fractionBits = B at *
  by_cases hls : last = f.leastPlace
  · have hz : (last - f.leastPlace).toNat = 0 := by omega
    rw [hz, Nat.zero_mul, Nat.zero_add] at hfit ⊢
    by_cases hs : kept < B
    · rw [if_pos hs, hls]
    · rw [if_neg hs, if_pos hfit]
      have h1 : kept / B = 1 := by
        apply Nat.div_eq_of_lt_le <;> omega
      have h2 : kept % B = kept - B := by
        rw [Nat.mod_eq_sub_mod (by omega), Nat.mod_eq_of_lt (by omega)]
      rw [h1, h2, hls]
      congr 1
      · omega
      · simp
  · have hgt : f.leastPlace < last := by omega
    have hlw := hlow hgt
    obtain ⟨e, he⟩ : ∃ e : Nat, last = f.leastPlace + (e + 1 : Nat) := ⟨(last - f.leastPlace - 1).toNat, by omega⟩
    have hz : (last - f.leastPlace).toNat = e + 1 := by omega
    rw [hz] at hfit ⊢
    have hr : (e + 1) * B + kept = (e + 2) * B + (kept - B) := by
      rw [show (e + 2) * B = (e + 1) * B + B by rw [← Nat.succ_mul]]
      omega
    rw [hr] at hfit ⊢
    have hnot : ¬ ((e + 2) * B + (kept - B) < B) := by
      have : B ≤ (e + 2) * B := Nat.le_mul_of_pos_left B (by omega)
      omega
    rw [if_neg hnot, if_pos hfit]
    have h1 : ((e + 2) * B + (kept - B)) / B = e + 2 := by
      rw [Nat.mul_comm, Nat.mul_add_div hp, Nat.div_eq_of_lt (by omega)]
    have h2 : ((e + 2) * B + (kept - B)) % B = kept - B := by
      rw [Nat.mul_comm, Nat.mul_add_mod, Nat.mod_eq_of_lt (by omega)]
    rw [h1, h2]
    congr 1
    · omega
    · omega

/-! ### The order of numbers, in units of a common place -/

theorem signed_scale (s : Bool) (m up k : Nat) : signed s m (up + k) = signed s m up * (2 ^ k : Nat) := by
  unfold signed
  simp only [Nat.shiftLeft_eq, Nat.pow_add]
  split <;> push_cast <;> simp [Int.mul_assoc, Int.neg_mul]

theorem compare_scale (a b : Int) {k : Nat} (hk : 0 < k) : compare (a * k) (b * k) = compare a b := by
  have hk' : (0 : Int) < k := by omega
  simp only [compare, compareOfLessAndEq, Int.mul_lt_mul_right hk']
  by_cases h : a < b
  · simp [h]
  · by_cases e : a = b
    · simp [e]
    · have : ¬ (a * k = b * k) := fun h' => e (Int.eq_of_mul_eq_mul_right (by omega) h')
      simp [h, e, this]

theorem order_number (c : Int) {s t : Bool} {m n : Nat} {i j : Int} (hi : c ≤ i) (hj : c ≤ j) :
    (Datum.number s m i).order (.number t n j) = some (compare (signed s m (i - c).toNat) (signed t n (j - c).toNat)) := by
  simp only [Datum.order]
  congr 1
  have hb : c ≤ min i j := by omega
  have e1 : (i - c).toNat = (i - min i j).toNat + (min i j - c).toNat := by omega
  have e2 : (j - c).toNat = (j - min i j).toNat + (min i j - c).toNat := by omega
  rw [e1, e2, signed_scale, signed_scale, compare_scale _ _ (Nat.two_pow_pos _)]

theorem signed_of {s : Bool} {m n a b : Nat} (h : m * 2 ^ a = n * 2 ^ b) : signed s m a = signed s n b := by
  unfold signed
  rw [Nat.shiftLeft_eq, Nat.shiftLeft_eq, h]

/-! ### Words of single precision -/

theorem read32_bounds {b m : Nat} {s : Bool} {i : Int} (h : FloatKind.f32.format.read b = .number s m i) : m < 16777216 ∧ -149 ≤ i ∧ i ≤ 104 := by
  have hb : FloatKind.f32.format.binade = 8388608 := by decide +kernel
  have hl : FloatKind.f32.format.leastPlace = -149 := by decide +kernel
  unfold Format.read at h
  simp only [hb, hl, inf32, sign32] at h
  split at h
  · cases h; omega
  · split at h
    · rename_i h1 h2
      cases h
      have h3 : b % 2147483648 / 8388608 < 255 := by omega
      have h4 := Nat.mod_lt (b % 2147483648) (show 0 < 8388608 by omega)
      omega
    · split at h <;> cases h

/-- a narrow word as a wide one -/
def wide (b : Nat) : Nat := (floatToFloatBits .f32 b .f64).getD (nanOf .f64)

theorem wide_nan {b : Nat} (h : isNaN .f32 b = true) : floatToFloatBits .f32 b .f64 = none ∧ wide b = nanOf .f64 := by
  obtain ⟨s, t, h⟩ := isNaN_iff.1 h
  have : floatToFloatBits .f32 b .f64 = none := by unfold floatToFloatBits FloatKind.decode; simp [h]
  exact ⟨this, by unfold wide; rw [this]; rfl⟩

theorem wide_inf {b : Nat} {s : Bool} (h : FloatKind.f32.format.read b = .infinity s) : floatToFloatBits .f32 b .f64 = some (wide b) ∧ FloatKind.f64.format.read (wide b) = .infinity s := by
  have : floatToFloatBits .f32 b .f64 = some (FloatKind.f64.encode (.infinity s)) := by unfold floatToFloatBits FloatKind.decode; simp [h]
  have e : wide b = FloatKind.f64.encode (.infinity s) := by unfold wide; rw [this]; rfl
  refine ⟨by rw [this, e], ?_⟩
  rw [e]
  cases s <;> decide +kernel

theorem wide_number {b m : Nat} {s : Bool} {i : Int} (h : FloatKind.f32.format.read b = .number s m i) :
    floatToFloatBits .f32 b .f64 = some (wide b) ∧ ∃ m' i', FloatKind.f64.format.read (wide b) = .number s m' i' ∧ -1074 ≤ i' ∧ m' * 2 ^ (i' + 1074).toNat = m * 2 ^ (i + 1074).toNat := by
  obtain ⟨hm, hi1, hi2⟩ := read32_bounds h
  have hl : FloatKind.f64.format.leastPlace = -1074 := by decide +kernel
  have hF : FloatKind.f64.format.fractionBits = 52 := rfl
  have hB : FloatKind.f64.format.binade = 4503599627370496 := by decide +kernel
  have key : ∃ m' i', FloatKind.f64.format.read (FloatKind.f64.encode (.number s m i)) = .number s m' i' ∧ -1074 ≤ i' ∧ m' * 2 ^ (i' + 1074).toNat = m * 2 ^ (i + 1074).toNat := by
    show ∃ m' i', FloatKind.f64.format.read (FloatKind.f64.format.nearest s m i) = .number s m' i' ∧ _
    by_cases hm0 : m = 0
    · subst hm0
      refine ⟨0, -1074, ?_, by omega, by simp⟩
      unfold Format.nearest
      simp only [if_true]
      cases s <;> decide +kernel
    · obtain ⟨hl1, hl2⟩ := log2_bounds hm0
      have hlog : m.log2 < 24 := by
        refine (Nat.pow_lt_pow_iff_right (show 1 < 2 by omega)).1 ?_
        exact Nat.lt_of_le_of_lt hl1 (by omega)
      obtain ⟨last, hlast⟩ : ∃ last : Int, last = max (i + m.log2 - 52) (-1074) := ⟨_, rfl⟩
      have hle : last ≤ i := by omega
      have hd : (last - i).toNat = 0 := by omega
      have hk : m * 2 ^ (i - last).toNat < 2 ^ 53 := by
        refine Nat.lt_of_lt_of_le (Nat.mul_lt_mul_of_pos_right hl2 (Nat.two_pow_pos _)) ?_
        rw [← Nat.pow_add]
        exact Nat.pow_le_pow_right (by omega) (by omega)
      have hr := read_nearest_exact FloatKind.f64.format s (mag := m) (place := i) (last := last) (d := 0) hm0 (by rw [hl, hF, hlast]; rfl) hd.symm (by simp) (by
        rw [hl, hB, inf64, Nat.pow_zero, Nat.div_one]
        have : (last - -1074).toNat ≤ 1149 := by omega
        have h2 := Nat.mul_le_mul_right 4503599627370496 this
        omega)
      rw [Nat.pow_zero, Nat.div_one] at hr
      refine ⟨_, _, hr, by omega, ?_⟩
      rw [Nat.mul_assoc, ← Nat.pow_add]
      congr 2
      omega
  obtain ⟨m', i', hr, h1, h2⟩ := key
  have hff : floatToFloatBits .f32 b .f64 = some (FloatKind.f64.encode (.number s m i)) := by
    unfold floatToFloatBits FloatKind.decode
    simp only [h, reduceCtorEq, if_false, hr, Datum.isInfinity, Bool.false_eq_true]
  have e : wide b = FloatKind.f64.encode (.number s m i) := by unfold wide; rw [hff]; rfl
  exact ⟨by rw [hff, e], m', i', by rw [e]; exact hr, h1, h2⟩

theorem isNaN_wide (b : Nat) : isNaN .f64 (wide b) = isNaN .f32 b := by
  cases h : FloatKind.f32.format.read b with
  | number s m i =>
    obtain ⟨_, m', i', hr, _⟩ := wide_number h
    simp [isNaN, h, hr, Datum.isNaN]
  | infinity s => simp [isNaN, h, (wide_inf h).2, Datum.isNaN]
  | nan s t =>
    have : isNaN .f32 b = true := isNaN_iff.2 ⟨s, t, h⟩
    rw [this, (wide_nan this).2]; exact isNaN_nanOf _

/-- Widening keeps the order. -/
theorem order_wide (a b : Nat) : FloatKind.f64.format.order (wide a) (wide b) = FloatKind.f32.format.order a b := by
  cases ha : FloatKind.f32.format.read a with
  | nan s t =>
    have h : isNaN .f32 a = true := isNaN_iff.2 ⟨s, t, ha⟩
    rw [order_nan_l h, order_nan_l (by rw [isNaN_wide]; exact h)]
  | infinity s =>
    cases hb : FloatKind.f32.format.read b with
    | nan s t =>
      have h : isNaN .f32 b = true := isNaN_iff.2 ⟨s, t, hb⟩
      rw [order_nan_r h, order_nan_r (by rw [isNaN_wide]; exact h)]
    | infinity t => simp [Format.order, ha, hb, (wide_inf ha).2, (wide_inf hb).2]
    | number t n j =>
      obtain ⟨_, n', j', hr, _⟩ := wide_number hb
      simp [Format.order, ha, hb, (wide_inf ha).2, hr, Datum.order]
  | number s m i =>
    obtain ⟨_, m', i', hr, h1, h2⟩ := wide_number ha
    obtain ⟨_, hi, _⟩ := read32_bounds ha
    cases hb : FloatKind.f32.format.read b with
    | nan s t =>
      have h : isNaN .f32 b = true := isNaN_iff.2 ⟨s, t, hb⟩
      rw [order_nan_r h, order_nan_r (by rw [isNaN_wide]; exact h)]
    | infinity t => simp [Format.order, ha, hb, (wide_inf hb).2, hr, Datum.order]
    | number t n j =>
      obtain ⟨_, n', j', hr', h1', h2'⟩ := wide_number hb
      obtain ⟨_, hj, _⟩ := read32_bounds hb
      simp only [Format.order, ha, hb, hr, hr']
      rw [order_number (-1074) h1 h1', order_number (-1074) (by omega) (by omega)]
      rw [show i' - -1074 = i' + 1074 by omega, show j' - -1074 = j' + 1074 by omega, show i - -1074 = i + 1074 by omega, show j - -1074 = j + 1074 by omega]
      rw [signed_of h2, signed_of h2']

theorem fEq_wide (a b : Nat) : fEq .f64 (wide a) (wide b) = fEq .f32 a b := by simp [fEq, order_wide]
end Go.Proofs.Ytnahhdnkbbdceaa
