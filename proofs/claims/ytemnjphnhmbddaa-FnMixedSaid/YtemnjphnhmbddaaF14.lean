/- Floating point, ninth part: zeros; states of which at most three quarters are kept. -/
import Derived.Test.YtemnjphnhmbddaaF8
import Derived.Test.YtemnjphnhmbddaaF13
set_option linter.unusedVariables false
set_option linter.unusedSimpArgs false
set_option maxRecDepth 10000
namespace Go.Proofs.Ytemnjphnhmbddaa
open Ieee

/-- 0 or -0 -/
def Z0 (z : Nat) : Prop := z % 2147483648 = 0
theorem Z0.fin {z : Nat} (h : Z0 z) : z % 2147483648 < 2139095040 := by unfold Z0 at h; omega
theorem Z0.mul_l {c z : Nat} (hc : finF c = true) (hz : Z0 z) : Z0 (fop .mul .f32 z c) := by
  have e : z % 2147483648 = 0 := hz
  obtain ⟨s, b, hb, e'⟩ := mul_le (r := 0) hz.fin (of_fin hc) (by omega) (by rw [e]; simp [rungVal])
  rw [e']
  unfold Z0
  rw [word_mod32 s (by omega)]; omega
theorem Z0.read {z : Nat} (h : Z0 z) : FloatKind.f32.format.read z = .number (z / 2147483648 % 2 == 1) 0 (-149) := by
  have e : z % 2147483648 = 0 := h
  unfold Format.read
  simp only [bin32, least32, inf32, sign32, e]
  simp
theorem Z0.add {a b : Nat} (ha : Z0 a) (hb : Z0 b) : Z0 (fop .add .f32 a b) := by
  have k : ∃ s, floatBits .add .f32 a b = some (FloatKind.f32.format.word s 0) := by
    refine ⟨(a / 2147483648 % 2 == 1) && (b / 2147483648 % 2 == 1), ?_⟩
    show FloatKind.f32.format.add a b = _
    unfold Format.add
    rw [ha.read, hb.read]
    simp [Datum.sum, signed, Format.write, Format.nearest]
  obtain ⟨s, k⟩ := k
  unfold Z0 fop
  rw [k]
  exact word_mod32 s (by omega)
theorem Z0.sub {a b : Nat} (ha : Z0 a) (hb : Z0 b) : Z0 (fop .sub .f32 a b) := by
  have k : ∃ s, floatBits .sub .f32 a b = some (FloatKind.f32.format.word s 0) := by
    refine ⟨(a / 2147483648 % 2 == 1) && !(b / 2147483648 % 2 == 1), ?_⟩
    show FloatKind.f32.format.sub a b = _
    unfold Format.sub
    rw [ha.read, hb.read]
    simp [Datum.opposite, Datum.sum, signed, Format.write, Format.nearest]
  obtain ⟨s, k⟩ := k
  unfold Z0 fop
  rw [k]
  exact word_mod32 s (by omega)
theorem Z0.kept {a : Nat} (h : Z0 a) : Z0 (keptF a) := by
  have e : a % 2147483648 = 0 := h
  unfold keptF flushF
  rw [if_pos (fin_of h.fin), if_pos (small_of_lt (by omega))]
  rfl
theorem Z0.of {a : Nat} (ha : a < 4294967296) (h : fEq .f32 a 0 = true) : Z0 a := by
  rcases eq_of_fEq32 ha (by omega) h with k | k
  · subst k; rfl
  · exact k.1
theorem Z0.eq {a : Nat} (h : Z0 a) : fEq .f32 a 0 = true := fEq32_zero h 0 rfl

end Go.Proofs.Ytemnjphnhmbddaa

/- Floating point, fourteenth part: comparisons by exact values; adding a zero; sizes of greater numbers; what is clamped. -/
set_option linter.unusedVariables false
set_option linter.unusedSimpArgs false
set_option maxRecDepth 10000
namespace Go.Proofs.Ytemnjphnhmbddaa
open Ieee

/-- the exact value, in smallest steps -/
def sV (x : Nat) : Int := if (x / 2147483648 % 2 == 1) = true then -((rungVal (x % 2147483648) : Nat) : Int) else ((rungVal (x % 2147483648) : Nat) : Int)
theorem add_zero_r {x t K : Nat} (hK : K = 925) (hx : x < 4294967296) (hf : x % 2147483648 < 2139095040) (h0 : x % 2147483648 ≠ 0) (ht : Z0 t) : fop .add .f32 x t = x := by
  obtain ⟨n, j, g1, g2, g3⟩ := read_fin hf
  have r2 := ht.read
  generalize (t / 2147483648 % 2 == 1) = u at r2
  have hmin : min j (-149 : Int) = -149 := by omega
  have hp : 0 < rungVal (x % 2147483648) := by
    have := rungVal_lt (show 0 < x % 2147483648 by omega)
    omega
  have hs : signed (x / 2147483648 % 2 == 1) n (j - -149).toNat + signed u 0 ((-149 : Int) - -149).toNat = sV x := by
    unfold signed sV
    rw [Nat.shiftLeft_eq, Nat.shiftLeft_eq, show (j - -149).toNat = (j + 149).toNat by omega, g3]
    cases u <;> simp
  have hv : (sV x).natAbs = rungVal (x % 2147483648) := by unfold sV; split <;> omega
  have hz : (if sV x = 0 then (x / 2147483648 % 2 == 1) && u else decide (sV x < 0)) = (x / 2147483648 % 2 == 1) := by
    rw [if_neg (by omega)]
    unfold sV
    cases hb : (x / 2147483648 % 2 == 1)
    · rw [if_neg (by decide)]; simp
    · rw [if_pos rfl]; simp; omega
  have e2 : floatBits .add .f32 x t = some (FloatKind.f32.format.word (x / 2147483648 % 2 == 1) (x % 2147483648)) := by
    show FloatKind.f32.format.add x t = _
    unfold Format.add
    rw [g1, r2]
    simp only [Datum.sum, hmin, Option.map, Format.write]
    rw [hs, hz, hv, nearest_spec _ _ (by omega), show ((-149 : Int) + 1074).toNat = K by omega, rungOf_rung hf hK]
  unfold fop
  rw [e2]
  show FloatKind.f32.format.word (x / 2147483648 % 2 == 1) (x % 2147483648) = x
  have e3 := word_mod32 (x / 2147483648 % 2 == 1) hf
  cases hb : (x / 2147483648 % 2 == 1)
  · have : ¬ x / 2147483648 % 2 = 1 := by simpa using hb
    rw [word_pos _ hf]; omega
  · have : x / 2147483648 % 2 = 1 := by simpa using hb
    show 2 ^ 31 + x % 2147483648 = x
    omega
section
variable {x y k l : Nat}
theorem Bd.add2 (hx : Bd x k) (hy : Bd y k) (hk : k ≤ 100) : Bd (fop .add .f32 x y) (k + 1) := by
  obtain ⟨z, b, hb, e⟩ := add_leS (r := (127 + (k + 1)) * 8388608) (hx.fin (by omega)) (hy.fin (by omega)) (by omega) false (by
    rw [rung_two, show k + 1 + 149 = (k + 149) + 1 by omega, Nat.pow_succ]; have := hx.val; have := hy.val; omega)
  have e2 : floatBits .add .f32 x y = some (FloatKind.f32.format.word z b) := e
  unfold fop; rw [e2]
  unfold Bd
  show FloatKind.f32.format.word z b % 2147483648 ≤ _
  rw [word_mod32 z (by omega)]; exact hb
theorem Bd.sub2 (hx : Bd x k) (hy : Bd y k) (hk : k ≤ 100) : Bd (fop .sub .f32 x y) (k + 1) := by
  obtain ⟨z, b, hb, e⟩ := add_leS (r := (127 + (k + 1)) * 8388608) (hx.fin (by omega)) (hy.fin (by omega)) (by omega) true (by
    rw [rung_two, show k + 1 + 149 = (k + 149) + 1 by omega, Nat.pow_succ]; have := hx.val; have := hy.val; omega)
  have e2 : floatBits .sub .f32 x y = some (FloatKind.f32.format.word z b) := e
  unfold fop; rw [e2]
  unfold Bd
  show FloatKind.f32.format.word z b % 2147483648 ≤ _
  rw [word_mod32 z (by omega)]; exact hb
theorem Bd.mul2 (hx : Bd x k) (hy : Bd y l) (hk : k + l ≤ 100) : Bd (fop .mul .f32 x y) (k + l) := by
  obtain ⟨z, b, hb, e⟩ := mul_le (r := (127 + (k + l)) * 8388608) (hx.fin (by omega)) (hy.fin (by omega)) (by omega) (by
    rw [rung_two, ← Nat.pow_add, show k + l + 149 + 149 = (k + 149) + (l + 149) by omega, Nat.pow_add]
    exact Nat.mul_le_mul hx.val hy.val)
  rw [e]
  unfold Bd
  rw [word_mod32 z (by omega)]; exact hb
end
end Go.Proofs.Ytemnjphnhmbddaa
