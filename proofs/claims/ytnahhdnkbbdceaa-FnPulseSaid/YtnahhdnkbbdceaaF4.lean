/- Floating point, fourth part: narrowing of what was widened, and of its absolute value; small and finite numbers. -/
import Derived.Test.YtnahhdnkbbdceaaF3
namespace Go.Proofs.Ytnahhdnkbbdceaa
open Ieee

theorem nearest_exact (f : Format) (neg : Bool) {mag : Nat} {place last : Int} {d : Nat} (hm : mag ≠ 0) (hlast : last = max (place + mag.log2 - f.fractionBits) f.leastPlace)
    (hd : d = (last - place).toNat) (hdiv : 2 ^ d ∣ mag) (hfit : (last - f.leastPlace).toNat * f.binade + mag * 2 ^ (place - last).toNat / 2 ^ d < f.infRung) :
    f.nearest neg mag place = f.word neg ((last - f.leastPlace).toNat * f.binade + mag * 2 ^ (place - last).toNat / 2 ^ d) := by
  unfold Format.nearest
  rw [if_neg hm]
  simp only
  rw [← hlast, ← hd, Nat.shiftLeft_eq, cut_exact neg (Nat.mul_ne_zero hm (Nat.pos_iff_ne_zero.1 (Nat.two_pow_pos _))) (Nat.dvd_trans hdiv (Nat.dvd_mul_right _ _)), Nat.min_eq_left (Nat.le_of_lt hfit)]

theorem log2_eq {n k : Nat} (h1 : 2 ^ k ≤ n) (h2 : n < 2 ^ (k + 1)) : n.log2 = k := by
  have hn : n ≠ 0 := fun e => by subst e; have := Nat.two_pow_pos k; omega
  have a := (Nat.le_log2 hn).2 h1
  have b := (Nat.log2_lt hn).2 h2
  omega

/-- a narrow word's number, as `c * 2 ^ e` in units of 2^-149 -/
theorem rung_parts {b : Nat} (hb : b < 2139095040) : ∃ c e, rungVal b = c * 2 ^ e ∧ e * 8388608 + c = b ∧ c < 16777216 ∧ (e = 0 ∨ 8388608 ≤ c) := by
  unfold rungVal
  by_cases h : b < 8388608
  · rw [if_pos h]; exact ⟨b, 0, by simp, by omega, by omega, .inl rfl⟩
  · rw [if_neg h]
    refine ⟨8388608 + b % 8388608, b / 8388608 - 1, rfl, ?_, ?_, .inr (Nat.le_add_right _ _)⟩
    · omega
    · have := Nat.mod_lt b (show 0 < 8388608 by omega); omega

/-- A number of a narrow word is written as that word. -/
theorem near32 {b m : Nat} {i : Int} (s : Bool) (hb : b < 2139095040) {K : Nat} (hK : K = 925) (hi : -1074 ≤ i) (hv : m * 2 ^ (i + 1074).toNat = rungVal b * 2 ^ K) : FloatKind.f32.format.nearest s m i = FloatKind.f32.format.word s b := by
  obtain ⟨c, e, h1, h2, h3, h4⟩ := rung_parts hb
  rw [h1, Nat.mul_assoc, ← Nat.pow_add] at hv
  by_cases hm : m = 0
  · have hc : c = 0 := by
      subst hm
      rw [Nat.zero_mul] at hv
      rcases Nat.mul_eq_zero.1 hv.symm with h | h
      · exact h
      · exact absurd h (Nat.pos_iff_ne_zero.1 (Nat.two_pow_pos _))
    have he : e = 0 := by omega
    subst hm
    unfold Format.nearest
    rw [if_pos rfl]; congr 1; omega
  have hc : c ≠ 0 := fun h0 => by
    subst h0
    rw [Nat.zero_mul] at hv
    rcases Nat.mul_eq_zero.1 hv with h | h
    · exact hm h
    · exact absurd h (Nat.pos_iff_ne_zero.1 (Nat.two_pow_pos _))
  obtain ⟨l1, l2⟩ := log2_bounds hm
  obtain ⟨c1, c2⟩ := log2_bounds hc
  have hlog : m.log2 + (i + 1074).toNat = c.log2 + (e + K) := by
    have a1 : (m * 2 ^ (i + 1074).toNat).log2 = m.log2 + (i + 1074).toNat := log2_eq (by rw [Nat.pow_add]; exact Nat.mul_le_mul_right _ l1) (by
      rw [show m.log2 + (i + 1074).toNat + 1 = (m.log2 + 1) + (i + 1074).toNat by omega, Nat.pow_add]; exact Nat.mul_lt_mul_of_pos_right l2 (Nat.two_pow_pos _))
    have a2 : (c * 2 ^ (e + K)).log2 = c.log2 + (e + K) := log2_eq (by rw [Nat.pow_add]; exact Nat.mul_le_mul_right _ c1) (by
      rw [show c.log2 + (e + K) + 1 = (c.log2 + 1) + (e + K) by omega, Nat.pow_add (n := e + K)]; exact Nat.mul_lt_mul_of_pos_right c2 (Nat.two_pow_pos _))
    rw [← a1, ← a2, hv]
  have clog : c.log2 < 24 := (Nat.pow_lt_pow_iff_right (show 1 < 2 by omega)).1 (Nat.lt_of_le_of_lt c1 (by omega))
  have clog' : 8388608 ≤ c → c.log2 = 23 := fun h => log2_eq h (by omega)
  have hF : FloatKind.f32.format.fractionBits = 23 := rfl
  obtain ⟨last, hlast⟩ : ∃ last : Int, last = max (i + m.log2 - 23) (-149) := ⟨_, rfl⟩
  have hl' : last = (e : Int) - 149 := by
    rcases h4 with h4 | h4
    · subst h4; omega
    · have := clog' h4; omega
  obtain ⟨d, hd⟩ : ∃ d, d = (last - i).toNat := ⟨_, rfl⟩
  have hpos : ∀ k : Nat, 0 < 2 ^ k := Nat.two_pow_pos
  have hk : 2 ^ d ∣ m ∧ m * 2 ^ (i - last).toNat / 2 ^ d = c := by
    rcases Int.le_total i last with c' | c'
    · have e1 : (i - last).toNat = 0 := by omega
      have e2 : e + K = d + (i + 1074).toNat := by omega
      rw [e2, Nat.pow_add, ← Nat.mul_assoc] at hv
      have hm' : m = c * 2 ^ d := Nat.eq_of_mul_eq_mul_right (hpos _) hv
      refine ⟨⟨c, by rw [hm', Nat.mul_comm]⟩, ?_⟩
      rw [e1, Nat.pow_zero, Nat.mul_one, hm', Nat.mul_div_cancel _ (hpos _)]
    · have e1 : d = 0 := by omega
      have e2 : (i + 1074).toNat = (i - last).toNat + (e + K) := by omega
      rw [e2, Nat.pow_add, ← Nat.mul_assoc] at hv
      have hm' := Nat.eq_of_mul_eq_mul_right (hpos _) hv
      subst e1
      exact ⟨⟨m, by simp⟩, by rw [hm']; simp⟩
  have hee : (last - -149).toNat = e := by omega
  have := nearest_exact FloatKind.f32.format s (mag := m) (place := i) (last := last) (d := d) hm (by rw [hF, least32, hlast]; rfl) hd hk.1 (by
    rw [hk.2, least32, bin32, inf32, hee]; omega)
  rw [this, hk.2, least32, bin32, hee, h2]

/-- the absolute value's word -/
def absF (x : Nat) : Nat := x % 2147483648
def absD (x : Nat) : Nat := x % 9223372036854775808

theorem read_absD (x : Nat) : FloatKind.f64.format.read (absD x) = match FloatKind.f64.format.read x with
    | .number _ m i => .number false m i
    | .infinity _ => .infinity false
    | .nan _ t => .nan false t := by
  have hz : x % 9223372036854775808 / 9223372036854775808 = 0 := Nat.div_eq_of_lt (Nat.mod_lt _ (by omega))
  unfold absD Format.read
  simp only [sign64, Nat.mod_mod, hz]
  have : (0 % 2 == 1) = false := rfl
  rw [this]
  split
  · rfl
  · split
    · rfl
    · split <;> rfl

theorem isNaN_absD (x : Nat) : isNaN .f64 (absD x) = isNaN .f64 x := by
  unfold isNaN
  rw [read_absD]
  cases FloatKind.f64.format.read x <;> rfl
theorem isNaN32 (x : Nat) : isNaN .f32 x = decide (2139095040 < x % 2147483648) := by
  rcases read32 x with ⟨hr, hi⟩ | ⟨t, hr⟩ | ⟨m, i, hr, _, _, hlt⟩
  · simp [isNaN, hr, Datum.isNaN, hi]
  · have h1 : isNaN .f32 x = true := by simp [isNaN, hr, Datum.isNaN]
    rw [h1]
    have : 2139095040 < x % 2147483648 := by
      unfold Format.read at hr
      simp only [bin32, least32, inf32, sign32] at hr
      split at hr
      · cases hr
      · split at hr
        · cases hr
        · split at hr
          · cases hr
          · omega
    simp [this]
  · have : ¬ 2139095040 < x % 2147483648 := by omega
    simp [isNaN, hr, Datum.isNaN, this]
theorem isNaN_absF (x : Nat) : isNaN .f32 (absF x) = isNaN .f32 x := by rw [isNaN32, isNaN32]; unfold absF; rw [Nat.mod_mod]

theorem absD_congr {a x : Nat} (h : cn .f64 a = cn .f64 x) : cn .f64 (absD a) = cn .f64 (absD x) := by
  by_cases hn : isNaN .f64 x = true
  · have ha : isNaN .f64 a = true := by rw [← isNaN_cn, h, isNaN_cn]; exact hn
    unfold cn
    rw [isNaN_absD, isNaN_absD, hn, ha]; rfl
  · have hn' : isNaN .f64 x = false := by simpa using hn
    have ha : isNaN .f64 a = false := by rw [← isNaN_cn, h, isNaN_cn]; exact hn'
    rw [cn_of_not hn', cn_of_not ha] at h
    rw [h]
theorem absF_congr {a x : Nat} (h : cn .f32 a = cn .f32 x) : cn .f32 (absF a) = cn .f32 (absF x) := by
  by_cases hn : isNaN .f32 x = true
  · have ha : isNaN .f32 a = true := by rw [← isNaN_cn, h, isNaN_cn]; exact hn
    unfold cn
    rw [isNaN_absF, isNaN_absF, hn, ha]; rfl
  · have hn' : isNaN .f32 x = false := by simpa using hn
    have ha : isNaN .f32 a = false := by rw [← isNaN_cn, h, isNaN_cn]; exact hn'
    rw [cn_of_not hn', cn_of_not ha] at h
    rw [h]

theorem neg32 (b : Nat) : Op.negFloat .f32 b = b ^^^ 2 ^ 31 := rfl
theorem isNaN_neg32 (b : Nat) : isNaN .f32 (Op.negFloat .f32 b) = isNaN .f32 b := by
  rw [isNaN32, isNaN32, neg32]
  have h : (b ^^^ 2 ^ 31) % 2 ^ 31 = b % 2 ^ 31 := by rw [Nat.xor_mod_two_pow, Nat.mod_self, Nat.xor_zero]
  have h' : (b ^^^ 2 ^ 31) % 2147483648 = b % 2147483648 := h
  rw [h']
theorem negf_congr {a x : Nat} (h : cn .f32 a = cn .f32 x) : cn .f32 (Op.negFloat .f32 a) = cn .f32 (Op.negFloat .f32 x) := by
  by_cases hn : isNaN .f32 x = true
  · have ha : isNaN .f32 a = true := by rw [← isNaN_cn, h, isNaN_cn]; exact hn
    unfold cn
    rw [isNaN_neg32, isNaN_neg32, hn, ha]; rfl
  · have hn' : isNaN .f32 x = false := by simpa using hn
    have ha : isNaN .f32 a = false := by rw [← isNaN_cn, h, isNaN_cn]; exact hn'
    rw [cn_of_not hn', cn_of_not ha] at h
    rw [h]

/-- what a narrowing of a wide word leaves, if it is told at all -/
def Narrows (x e : Nat) : Prop := (isNaN .f64 x = true ∧ isNaN .f32 e = true) ∨ floatToFloatBits .f64 x .f32 = some e

theorem narrow_of_read {x m e : Nat} {s : Bool} {i : Int} (h : FloatKind.f64.format.read x = .number s m i) (hs : FloatKind.f32.format.nearest s m i = e) (he : (FloatKind.f32.format.read e).isInfinity = false) : floatToFloatBits .f64 x .f32 = some e := by
  have h1 : FloatKind.f32.encode (.number s m i) = e := hs
  have h2 : (FloatKind.f32.decode e).isInfinity = false := he
  have h3 : FloatKind.f64.decode x = .number s m i := h
  unfold floatToFloatBits
  simp [h3, h1, h2]
theorem narrow_of_inf {x e : Nat} {s : Bool} (h : FloatKind.f64.format.read x = .infinity s) (hs : FloatKind.f32.encode (.infinity s) = e) : floatToFloatBits .f64 x .f32 = some e := by
  have h3 : FloatKind.f64.decode x = .infinity s := h
  unfold floatToFloatBits
  simp [h3, hs]

theorem not_inf {b : Nat} (hb : b % 2147483648 < 2139095040) : (FloatKind.f32.format.read b).isInfinity = false := by
  rcases read32 b with ⟨_, hi⟩ | ⟨t, hr⟩ | ⟨m, i, hr, _⟩
  · omega
  · rw [hr]; rfl
  · rw [hr]; rfl

theorem up_number {a m : Nat} {s : Bool} {i : Int} (h : FloatKind.f32.format.read a = .number s m i) (h2 : -149 ≤ i) (h3 : m * 2 ^ (i + 149).toNat = rungVal (a % 2147483648)) : ∃ m' i', FloatKind.f64.format.read (wide a) = .number s m' i' ∧ -1074 ≤ i' ∧ ∃ K, K = 925 ∧ m' * 2 ^ (i' + 1074).toNat = rungVal (a % 2147483648) * 2 ^ K := by
  obtain ⟨_, m', i', hr, hi, hv⟩ := wide_number h
  refine ⟨m', i', hr, hi, 925, rfl, ?_⟩
  generalize hK : 925 = K
  rw [hv, ← h3, Nat.mul_assoc, ← Nat.pow_add]
  congr 2; omega

/-- The absolute value, taken of the wide word and narrowed. -/
theorem narrow_abs (a : Nat) : Narrows (absD (wide a)) (absF a) := by
  rcases read32 a with ⟨hr, hi⟩ | ⟨t, hr⟩ | ⟨m, i, hr, h1, h2, h3⟩
  · refine .inr (narrow_of_inf (s := false) (by rw [read_absD, (wide_inf hr).2]) ?_)
    show FloatKind.f32.format.word false _ = _
    rw [inf32]; unfold absF Format.word; simp [hi]
  · exact .inl ⟨by rw [isNaN_absD, isNaN_wide]; exact isNaN_iff.2 ⟨_, _, hr⟩, by rw [isNaN_absF]; exact isNaN_iff.2 ⟨_, _, hr⟩⟩
  · obtain ⟨m', i', hr', hi', K, hK, hv⟩ := up_number hr h1 h2
    refine .inr (narrow_of_read (s := false) (by rw [read_absD, hr']) ?_ (not_inf (by unfold absF; rw [Nat.mod_mod]; exact h3)))
    rw [near32 _ h3 hK hi' hv]; rfl

/-! ### Finite and small numbers, as the program tests them -/

def finF (x : Nat) : Bool := fEq .f32 (fop .sub .f32 x x) 0
def smallF (x : Nat) : Bool := fLt .f32 (absF x) 8388608
def flushF (x : Nat) : Nat := if smallF x then 0 else x
def keptF (x : Nat) : Nat := if finF x then flushF x else 0

theorem finF_nan {x : Nat} (h : isNaN .f32 x = true) : finF x = false := by
  unfold finF fop
  rw [floatBits_nan_l h]
  show fEq .f32 (nanOf .f32) 0 = false
  decide +kernel
theorem finF_num {x : Nat} (h : finF x = true) : isNaN .f32 x = false := by
  cases hn : isNaN .f32 x
  · rfl
  · rw [finF_nan hn] at h; cases h
theorem eq_of_cn {k : FloatKind} {a x : Nat} (h : cn k a = cn k x) (hx : isNaN k x = false) : a = x := by
  have ha : isNaN k a = false := by rw [← isNaN_cn, h, isNaN_cn]; exact hx
  rw [cn_of_not hx, cn_of_not ha] at h; exact h
theorem flushF_lt {x : Nat} (h : x < 4294967296) : flushF x < 4294967296 := by unfold flushF; split <;> omega
theorem keptF_wid {a x : Nat} (h : cn .f32 a = cn .f32 x) (ha : a < wid .f32) : keptF x < wid .f32 := by
  rw [wid32] at *
  unfold keptF
  cases hf : finF x
  · rw [if_neg (by simp)]; omega
  · rw [if_pos rfl, ← eq_of_cn h (finF_num hf)]
    exact flushF_lt ha

theorem cn_eq_nan {y : Nat} : (cn .f32 y == nanOf .f32) = isNaN .f32 y := by
  cases h : isNaN .f32 y
  · rw [cn_of_not h]
    have : y ≠ nanOf .f32 := fun e => by rw [e, isNaN_nanOf] at h; cases h
    simpa using this
  · have : cn .f32 y = nanOf .f32 := by rw [cn, if_pos h]
    simp [this]
theorem same_nan_l {x : Nat} (h : isNaN .f32 x = true) (y : Nat) : isNaN .f32 y = (cn .f32 x == cn .f32 y) := by
  have : cn .f32 x = nanOf .f32 := by rw [cn, if_pos h]
  rw [this, Bool.beq_comm, cn_eq_nan]
theorem same_nan_r {x y : Nat} (hx : isNaN .f32 x = false) (h : isNaN .f32 y = true) : false = (cn .f32 x == cn .f32 y) := by
  have : cn .f32 y = nanOf .f32 := by rw [cn, if_pos h]
  rw [this, cn_eq_nan, hx]
theorem same_num {a x b y : Nat} (ha : cn .f32 a = cn .f32 x) (hb : cn .f32 b = cn .f32 y) (hx : isNaN .f32 x = false) (hy : isNaN .f32 y = false) : (((a : Nat) : Int) == ((b : Nat) : Int)) = (cn .f32 x == cn .f32 y) := by
  rw [eq_of_cn ha hx, eq_of_cn hb hy, cn_of_not hx, cn_of_not hy, Bool.eq_iff_iff]
  simp; omega

/-- numbers that are used: finite, and 0 from `k` on -/
def okF (xs : List Nat) (k j : Nat) : Bool := finF (xs.getD j 0) && (decide (j < k) || cn .f32 (xs.getD j 0) == 0)
def usedF (xs : List Nat) (k n : Nat) : Bool := (List.range n).all fun j => okF xs k j
theorem cn_zero : cn .f32 0 = 0 := by decide +kernel
theorem usedF_step {xs : List Nat} {k n : Nat} (h : usedF xs k n = true) (h2 : okF xs k n = true) : usedF xs k (n + 1) = true := by
  unfold usedF at *
  rw [List.range_succ, List.all_append, h]; simp [h2]
theorem usedF_out {xs : List Nat} {k i n : Nat} (hi : i < n) (h2 : okF xs k i = false) : usedF xs k n = false := by
  unfold usedF
  rw [List.all_eq_false]
  exact ⟨i, by simpa using hi, by simp [h2]⟩
end Go.Proofs.Ytnahhdnkbbdceaa
