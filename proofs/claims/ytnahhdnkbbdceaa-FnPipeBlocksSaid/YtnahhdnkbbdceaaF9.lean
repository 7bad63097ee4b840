/- Floating point, eighth part: sums that are at most a number of the format; sizes within powers of two. -/
import Derived.Test.YtnahhdnkbbdceaaF6
set_option linter.unusedVariables false
set_option linter.unusedSimpArgs false
set_option maxRecDepth 10000
namespace Go.Proofs.Ytnahhdnkbbdceaa
open Ieee

theorem add_leS {x y r : Nat} (hx : x % 2147483648 < 2139095040) (hy : y % 2147483648 < 2139095040) (hr : r < 2139095040) (t2 : Bool) (h : rungVal (x % 2147483648) + rungVal (y % 2147483648) ≤ rungVal r) :
    ∃ z b, b ≤ r ∧ ((FloatKind.f32.format.read x).sum (if t2 then (FloatKind.f32.format.read y).opposite else FloatKind.f32.format.read y)).map FloatKind.f32.format.write = some (FloatKind.f32.format.word z b) := by
  obtain ⟨m, i, h1, h2, h3⟩ := read_fin hx
  obtain ⟨n, j, g1, g2, g3⟩ := read_fin hy
  rw [h1, g1]
  generalize (x / 2147483648 % 2 == 1) = s at h1 ⊢
  obtain ⟨t, ht⟩ : ∃ t, (if t2 then (Datum.number (y / 2147483648 % 2 == 1) n j).opposite else Datum.number (y / 2147483648 % 2 == 1) n j) = Datum.number t n j := by
    cases t2
    · exact ⟨_, rfl⟩
    · exact ⟨_, rfl⟩
  rw [ht]
  obtain ⟨p, hp⟩ : ∃ p, p = min i j := ⟨_, rfl⟩
  have hpi : p ≤ i := by rw [hp]; omega
  have hpj : p ≤ j := by rw [hp]; omega
  have hp149 : -149 ≤ p := by rw [hp]; omega
  obtain ⟨sum, hs⟩ : ∃ sum : Int, sum = signed s m (i - p).toNat + signed t n (j - p).toNat := ⟨_, rfl⟩
  have hle : sum.natAbs ≤ m * 2 ^ (i - p).toNat + n * 2 ^ (j - p).toNat := by
    rw [hs]; unfold signed
    rw [Nat.shiftLeft_eq, Nat.shiftLeft_eq]
    generalize m * 2 ^ (i - p).toNat = u
    generalize n * 2 ^ (j - p).toNat = v
    cases s <;> cases t <;> simp <;> omega
  have e : ∃ z, ((Datum.number s m i).sum (Datum.number t n j)).map FloatKind.f32.format.write = some (FloatKind.f32.format.nearest z sum.natAbs p) := by
    refine ⟨if sum = 0 then s && t else sum < 0, ?_⟩
    simp only [Datum.sum, Format.write, ← hp, ← hs, Option.map]
  obtain ⟨z, e⟩ := e
  obtain ⟨b, hb, e2⟩ := nearest_le z hr (K := 925) rfl (m := sum.natAbs) (i := p) (by omega) (by
    have e1 : (p + 1074).toNat = (p + 149).toNat + 925 := by omega
    rw [e1, Nat.pow_add, ← Nat.mul_assoc]
    refine Nat.mul_le_mul_right _ (Nat.le_trans (Nat.mul_le_mul_right _ hle) ?_)
    rw [Nat.add_mul, Nat.mul_assoc, Nat.mul_assoc, ← Nat.pow_add, ← Nat.pow_add, show (i - p).toNat + (p + 149).toNat = (i + 149).toNat by omega, show (j - p).toNat + (p + 149).toNat = (j + 149).toNat by omega, h3, g3]
    exact h)
  exact ⟨z, b, hb, by rw [e, e2]⟩
/-- at most `2 ^ k` in size -/
def Bd (x k : Nat) : Prop := x % 2147483648 ≤ (127 + k) * 8388608
section
variable {x y k l : Nat}
theorem Bd.fin (h : Bd x k) (hk : k ≤ 100) : x % 2147483648 < 2139095040 := by unfold Bd at h; omega
theorem Bd.mono (h : Bd x k) (hl : k ≤ l) : Bd x l := Nat.le_trans h (Nat.mul_le_mul_right _ (by omega))
theorem rungVal_le {a b : Nat} (h : a ≤ b) : rungVal a ≤ rungVal b := by
  rcases Nat.lt_or_eq_of_le h with h | h
  · exact Nat.le_of_lt (rungVal_lt h)
  · rw [h]; exact Nat.le_refl _
theorem rung_two (k : Nat) : rungVal ((127 + k) * 8388608) = 2 ^ (k + 149) := by
  obtain ⟨N, hN⟩ : ∃ N, N = (127 + k) * 8388608 := ⟨_, rfl⟩
  obtain ⟨E, hE⟩ : ∃ E, E = 127 + k - 1 := ⟨_, rfl⟩
  have h1 : N % 8388608 = 0 := by omega
  have h2 : N / 8388608 - 1 = E := by omega
  have h4 : ¬ N < 8388608 := by omega
  have h5 : k + 149 = 23 + E := by omega
  have h3 : (2 : Nat) ^ 23 = 8388608 := by decide
  rw [← hN, h5, Nat.pow_add, h3]
  simp only [rungVal, if_neg h4, h1, h2, Nat.add_zero]
theorem Bd.val (h : Bd x k) : rungVal (x % 2147483648) ≤ 2 ^ (k + 149) := by rw [← rung_two]; exact rungVal_le h
theorem Bd.word {z : Bool} {b : Nat} (h : b ≤ (127 + k) * 8388608) (hk : k ≤ 100) : Bd (FloatKind.f32.format.word z b) k := by
  unfold Bd; rw [word_mod32 z (by omega)]; exact h
theorem Bd.add (hx : Bd x k) (hy : Bd y k) (hk : k ≤ 60) : Bd (fop .add .f32 x y) (k + 1) := by
  obtain ⟨z, b, hb, e⟩ := add_leS (r := (127 + (k + 1)) * 8388608) (hx.fin (by omega)) (hy.fin (by omega)) (by omega) false (by
    rw [rung_two, show k + 1 + 149 = (k + 149) + 1 by omega, Nat.pow_succ]; have := hx.val; have := hy.val; omega)
  have e2 : floatBits .add .f32 x y = some (FloatKind.f32.format.word z b) := e
  unfold fop; rw [e2]; exact Bd.word hb (by omega)
theorem Bd.sub (hx : Bd x k) (hy : Bd y k) (hk : k ≤ 60) : Bd (fop .sub .f32 x y) (k + 1) := by
  obtain ⟨z, b, hb, e⟩ := add_leS (r := (127 + (k + 1)) * 8388608) (hx.fin (by omega)) (hy.fin (by omega)) (by omega) true (by
    rw [rung_two, show k + 1 + 149 = (k + 149) + 1 by omega, Nat.pow_succ]; have := hx.val; have := hy.val; omega)
  have e2 : floatBits .sub .f32 x y = some (FloatKind.f32.format.word z b) := e
  unfold fop; rw [e2]; exact Bd.word hb (by omega)
theorem Bd.mul (hx : Bd x k) (hy : Bd y l) (hk : k ≤ 40) (hl : l ≤ 40) : Bd (fop .mul .f32 x y) (k + l) := by
  obtain ⟨z, b, hb, e⟩ := mul_le (r := (127 + (k + l)) * 8388608) (hx.fin (by omega)) (hy.fin (by omega)) (by omega) (by
    rw [rung_two, ← Nat.pow_add, show k + l + 149 + 149 = (k + 149) + (l + 149) by omega, Nat.pow_add]
    exact Nat.mul_le_mul hx.val hy.val)
  rw [e]; exact Bd.word hb (by omega)
theorem Bd.zero : Bd 0 k := by unfold Bd; omega
theorem Bd.kept (h : Bd x k) : Bd (keptF x) k := by
  unfold keptF flushF
  split
  · split
    · exact Bd.zero
    · exact h
  · exact Bd.zero
end
end Go.Proofs.Ytnahhdnkbbdceaa

/- Floating point, ninth part: zeros; states of which at most three quarters are kept. -/
set_option linter.unusedVariables false
set_option linter.unusedSimpArgs false
set_option maxRecDepth 10000
namespace Go.Proofs.Ytnahhdnkbbdceaa
open Ieee

/-- 0 or -0 -/
def Z0 (z : Nat) : Prop := z % 2147483648 = 0
theorem Z0.fin {z : Nat} (h : Z0 z) : z % 2147483648 < 2139095040 := by unfold Z0 at h; omega
theorem Z0.mul_r {c z : Nat} (hc : finF c = true) (hz : Z0 z) : Z0 (fop .mul .f32 c z) := by
  have e : z % 2147483648 = 0 := hz
  obtain ⟨s, b, hb, e'⟩ := mul_le (r := 0) (of_fin hc) hz.fin (by omega) (by rw [e]; simp [rungVal])
  rw [e']
  unfold Z0
  rw [word_mod32 s (by omega)]; omega
theorem Z0.mul_l {c z : Nat} (hc : finF c = true) (hz : Z0 z) : Z0 (fop .mul .f32 z c) := by
  have e : z % 2147483648 = 0 := hz
  obtain ⟨s, b, hb, e'⟩ := mul_le (r := 0) hz.fin (of_fin hc) (by omega) (by rw [e]; simp [rungVal])
  rw [e']
  unfold Z0
  rw [word_mod32 s (by omega)]; omega
theorem Z0.read {z : Nat} (h : Z0 z) : FloatKind.f32.format.read z = .number (z / 2147483648 % 2 == 1) 0 (-149) := by
  have e : z % 2147483648 = 0 := h
  unfold Format.read
  simp only [bin32, least32, inf32, sign32, e]
  simp
theorem Z0.add {a b : Nat} (ha : Z0 a) (hb : Z0 b) : Z0 (fop .add .f32 a b) := by
  have k : ∃ s, floatBits .add .f32 a b = some (FloatKind.f32.format.word s 0) := by
    refine ⟨(a / 2147483648 % 2 == 1) && (b / 2147483648 % 2 == 1), ?_⟩
    show FloatKind.f32.format.add a b = _
    unfold Format.add
    rw [ha.read, hb.read]
    simp [Datum.sum, signed, Format.write, Format.nearest]
  obtain ⟨s, k⟩ := k
  unfold Z0 fop
  rw [k]
  exact word_mod32 s (by omega)
theorem Z0.sub {a b : Nat} (ha : Z0 a) (hb : Z0 b) : Z0 (fop .sub .f32 a b) := by
  have k : ∃ s, floatBits .sub .f32 a b = some (FloatKind.f32.format.word s 0) := by
    refine ⟨(a / 2147483648 % 2 == 1) && !(b / 2147483648 % 2 == 1), ?_⟩
    show FloatKind.f32.format.sub a b = _
    unfold Format.sub
    rw [ha.read, hb.read]
    simp [Datum.opposite, Datum.sum, signed, Format.write, Format.nearest]
  obtain ⟨s, k⟩ := k
  unfold Z0 fop
  rw [k]
  exact word_mod32 s (by omega)
theorem Z0.kept {a : Nat} (h : Z0 a) : Z0 (keptF a) := by
  have e : a % 2147483648 = 0 := h
  unfold keptF flushF
  rw [if_pos (fin_of h.fin), if_pos (small_of_lt (by omega))]
  rfl
theorem Z0.of {a : Nat} (ha : a < 4294967296) (h : fEq .f32 a 0 = true) : Z0 a := by
  rcases eq_of_fEq32 ha (by omega) h with k | k
  · subst k; rfl
  · exact k.1
theorem Z0.eq {a : Nat} (h : Z0 a) : fEq .f32 a 0 = true := fEq32_zero h 0 rfl

theorem rung_less3 {b : Nat} (h1 : 8388608 ≤ b) (h2 : b < 2139095040) : 3 * rungVal b ≤ 4 * rungVal (b - 2097152) := by
  obtain ⟨c, e, hc1, hc2, hc3, hc4⟩ := rung_parts h2
  obtain ⟨c', e', k1, k2, k3, k4⟩ := rung_parts (b := b - 2097152) (by omega)
  rw [hc1, k1]
  have hc : 8388608 ≤ c := by omega
  have hee : e' = e ∨ e' + 1 = e := by omega
  rcases hee with rfl | rfl
  · rw [← Nat.mul_assoc, ← Nat.mul_assoc]
    exact Nat.mul_le_mul_right _ (by omega)
  · have h14 : 6 * c ≤ 4 * c' := by omega
    rw [Nat.pow_succ]
    generalize 2 ^ e' = P
    have h15 := Nat.mul_le_mul_right P h14
    rw [Nat.mul_assoc, Nat.mul_assoc] at h15
    rw [← Nat.mul_assoc c]
    omega
/-- a step without a sample, of which at most three quarters are kept -/
theorem still_step3 {d s : Nat} (hd : d < 49) (hs : GoodS s) : GoodS (keptF (fop .add .f32 (fop .mul .f32 (lossD d) 0) (fop .mul .f32 (keepD d) s))) ∧
    ((keptF (fop .add .f32 (fop .mul .f32 (lossD d) 0) (fop .mul .f32 (keepD d) s))) % 2147483648 = 0 ∨ (keptF (fop .add .f32 (fop .mul .f32 (lossD d) 0) (fop .mul .f32 (keepD d) s))) % 2147483648 + 2097152 ≤ s % 2147483648) := by
  have ok := OkD.of (d := d) (by omega)
  have hs1 := hs.2.1
  rw [ok.z]
  have hkm : keepD d % 2147483648 = keepD d := Nat.mod_eq_of_lt (by have := ok.k; omega)
  obtain ⟨r, hr1, hr2, hr3⟩ : ∃ r, r < 2139095040 ∧ rungVal (keepD d % 2147483648) * rungVal (s % 2147483648) ≤ rungVal r * 2 ^ 149 ∧ (r = 0 ∨ r + 2097152 ≤ s % 2147483648) := by
    rcases hs.2.2 with h0 | h0
    · refine ⟨0, by omega, ?_, .inl rfl⟩
      rw [h0]; simp [rungVal]
    · refine ⟨s % 2147483648 - 2097152, by omega, ?_, .inr (by omega)⟩
      have h7 := rung_less3 h0 hs.2.1
      rw [hkm]
      have hv := ok.v
      refine Nat.le_of_mul_le_mul_left (c := 64) ?_ (by omega)
      generalize rungVal (s % 2147483648) = S at *
      generalize rungVal (s % 2147483648 - 2097152) = R at *
      have h8 : 48 * S ≤ 64 * R := by omega
      have h9 : d * S ≤ 48 * S := Nat.mul_le_mul_right S (by omega)
      calc 64 * (rungVal (keepD d) * S) = (rungVal (keepD d) * 64) * S := by ac_rfl
        _ = d * S * 2 ^ 149 := by rw [hv]; ac_rfl
        _ ≤ 48 * S * 2 ^ 149 := Nat.mul_le_mul_right (2 ^ 149) h9
        _ ≤ 64 * R * 2 ^ 149 := Nat.mul_le_mul_right (2 ^ 149) h8
        _ = 64 * (R * 2 ^ 149) := by rw [Nat.mul_assoc]
  obtain ⟨z, b, hb, e⟩ := mul_le (by rw [hkm]; exact ok.k) hs.2.1 hr1 hr2
  have hbl : b < 2139095040 := by omega
  have hwm := word_mod32 z hbl
  rw [← e] at hwm
  obtain ⟨z', e'⟩ := add_zero_l (x := fop .mul .f32 (keepD d) s) (by rw [hwm]; exact hbl)
  rw [hwm] at e'
  have hlt := fop_lt .add .f32 0 (fop .mul .f32 (keepD d) s)
  rw [wid32] at hlt
  obtain ⟨g, hk⟩ := GoodS.kept hlt
  refine ⟨g, ?_⟩
  rcases hk with k0 | k0
  · left; rw [k0]
  · rw [k0, e', word_mod32 z' hbl]; omega
end Go.Proofs.Ytnahhdnkbbdceaa
