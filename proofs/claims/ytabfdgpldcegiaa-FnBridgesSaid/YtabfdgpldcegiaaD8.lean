/- Silence stays: what a string without a sample in it makes of nothing. -/
import Derived.Test.YtabfdgpldcegiaaD7
import Derived.Test.YtabfdgpldcegiaaG5
set_option linter.unusedVariables false
set_option linter.unusedSimpArgs false
namespace Go.Proofs.Ytabfdgpldcegiaa
open Ieee

/-- 0 or -0 -/
def Z0 (z : Nat) : Prop := z % 2147483648 = 0
theorem Z0.fin {z : Nat} (h : Z0 z) : z % 2147483648 < 2139095040 := by unfold Z0 at h; omega
theorem Z0.mul_r {c z : Nat} (hc : finF c = true) (hz : Z0 z) : Z0 (fop .mul .f32 c z) := by
  have e : z % 2147483648 = 0 := hz
  obtain ⟨s, b, hb, e'⟩ := mul_le (r := 0) (of_fin hc) hz.fin (by omega) (by rw [e]; simp [rungVal])
  rw [e']
  unfold Z0
  rw [word_mod32 s (by omega)]; omega
theorem Z0.mul_l {c z : Nat} (hc : finF c = true) (hz : Z0 z) : Z0 (fop .mul .f32 z c) := by
  have e : z % 2147483648 = 0 := hz
  obtain ⟨s, b, hb, e'⟩ := mul_le (r := 0) hz.fin (of_fin hc) (by omega) (by rw [e]; simp [rungVal])
  rw [e']
  unfold Z0
  rw [word_mod32 s (by omega)]; omega
theorem Z0.read {z : Nat} (h : Z0 z) : FloatKind.f32.format.read z = .number (z / 2147483648 % 2 == 1) 0 (-149) := by
  have e : z % 2147483648 = 0 := h
  unfold Format.read
  simp only [bin32, least32, inf32, sign32, e]
  simp
theorem Z0.add {a b : Nat} (ha : Z0 a) (hb : Z0 b) : Z0 (fop .add .f32 a b) := by
  have k : ∃ s, floatBits .add .f32 a b = some (FloatKind.f32.format.word s 0) := by
    refine ⟨(a / 2147483648 % 2 == 1) && (b / 2147483648 % 2 == 1), ?_⟩
    show FloatKind.f32.format.add a b = _
    unfold Format.add
    rw [ha.read, hb.read]
    simp [Datum.sum, signed, Format.write, Format.nearest]
  obtain ⟨s, k⟩ := k
  unfold Z0 fop
  rw [k]
  exact word_mod32 s (by omega)
theorem Z0.sub {a b : Nat} (ha : Z0 a) (hb : Z0 b) : Z0 (fop .sub .f32 a b) := by
  have k : ∃ s, floatBits .sub .f32 a b = some (FloatKind.f32.format.word s 0) := by
    refine ⟨(a / 2147483648 % 2 == 1) && !(b / 2147483648 % 2 == 1), ?_⟩
    show FloatKind.f32.format.sub a b = _
    unfold Format.sub
    rw [ha.read, hb.read]
    simp [Datum.opposite, Datum.sum, signed, Format.write, Format.nearest]
  obtain ⟨s, k⟩ := k
  unfold Z0 fop
  rw [k]
  exact word_mod32 s (by omega)
theorem Z0.kept {a : Nat} (h : Z0 a) : Z0 (keptF a) := by
  have e : a % 2147483648 = 0 := h
  unfold keptF flushF
  rw [if_pos (fin_of h.fin), if_pos (small_of_lt (by omega))]
  rfl
theorem Z0.of {a : Nat} (ha : a < 4294967296) (h : fEq .f32 a 0 = true) : Z0 a := by
  rcases eq_of_fEq32 ha (by omega) h with k | k
  · subst k; rfl
  · exact k.1
theorem Z0.eq {a : Nat} (h : Z0 a) : fEq .f32 a 0 = true := fEq32_zero h 0 rfl

/-- a string without a sample in it -/
structure SilZ (n : Nat) (z : StrSt) : Prop where
  xs : ∀ j, j < n → Z0 (z.xs.getD j 0)
  t0 : Z0 z.t0
  t1 : Z0 z.t1
  d0 : Z0 z.d0
  d1 : Z0 z.d1
  i : z.i < n
  l : z.xs.length = n
section
variable {n : Nat} {tc0 tc1 tc2 dc0 dc1 dc2 g : Nat} {z : StrSt} {x : Nat}
theorem SilZ.next (h : SilZ n z) (f1 : finF tc0 = true) (f2 : finF dc0 = true) (f3 : finF dc1 = true) (f4 : finF g = true) (hx : Z0 x) : SilZ n (strNext n 3 tc0 tc1 tc2 2 dc0 dc1 dc2 g z x) := by
  have o := h.xs z.i h.i
  have y1 : Z0 (stepY 3 tc0 tc1 tc2 z.t0 z.t1 (z.xs.getD z.i 0)) := by
    simp only [stepY]
    exact Z0.add (Z0.mul_r f1 (Z0.sub o h.t1)) h.t0
  have y2 : Z0 (stepY 2 dc0 dc1 dc2 z.d0 z.d1 (stepY 3 tc0 tc1 tc2 z.t0 z.t1 (z.xs.getD z.i 0))) := by
    rw [show ∀ c0 c1 c2 s0 s1 x, stepY 2 c0 c1 c2 s0 s1 x = fop .add .f32 (fop .mul .f32 c0 x) (fop .mul .f32 c1 s0) from fun _ _ _ _ _ _ => rfl]
    exact Z0.add (Z0.mul_r f2 y1) (Z0.mul_r f3 h.d0)
  have w := Z0.kept (Z0.add (Z0.mul_l f4 y2) hx)
  refine ⟨fun j hj => ?_, ?_, ?_, ?_, ?_, Nat.mod_lt _ (by have := h.i; omega), (List.length_set).trans h.l⟩
  · show Z0 ((z.xs.set z.i _).getD j 0)
    by_cases e : z.i = j
    · subst e
      rw [List.getD_eq_getElem?_getD, List.getElem?_set_self (by rw [h.l]; exact h.i)]
      exact w
    · rw [List.getD_eq_getElem?_getD, List.getElem?_set_ne e, ← List.getD_eq_getElem?_getD]
      exact h.xs j hj
  · exact Z0.kept o
  · exact Z0.kept y1
  · exact Z0.kept y1
  · exact h.d1
theorem SilZ.of (hi : z.i < n) (hl : z.xs.length = n) (wx : W32 z.xs) (w0 : z.t0 < wid .f32) (w1 : z.t1 < wid .f32) (w2 : z.d0 < wid .f32) (w3 : z.d1 < wid .f32) (h : strSilent n z.xs z.t0 z.t1 z.d0 z.d1 = true) : SilZ n z := by
  rw [wid32] at w0 w1 w2 w3
  simp only [strSilent, stillF, Bool.and_eq_true] at h
  refine ⟨fun j hj => Z0.of (by have := wx.get j; rw [wid32] at this; exact this) (zeroF_get h.1 hj), Z0.of w0 h.2.1.1, Z0.of w1 h.2.1.2, Z0.of w2 h.2.2.1, Z0.of w3 h.2.2.2, hi, hl⟩
/-- once silent, a string that is given nothing is silent for ever, and makes nothing -/
theorem SilZ.at {xs : List Nat} {i0 ts0 ts1 ds0 ds1 k : Nat} {f : Nat → Nat} (f1 : finF tc0 = true) (f2 : finF dc0 = true) (f3 : finF dc1 = true) (f4 : finF g = true) (hf : ∀ j, Z0 (f j)) (h : SilZ n (strAt n 3 tc0 tc1 tc2 2 dc0 dc1 dc2 g xs i0 ts0 ts1 ds0 ds1 f k)) (m : Nat) : SilZ n (strAt n 3 tc0 tc1 tc2 2 dc0 dc1 dc2 g xs i0 ts0 ts1 ds0 ds1 f (k + m)) := by
  induction m with
  | zero => exact h
  | succ m ih => rw [← Nat.add_assoc, strAt_succ]; exact ih.next f1 f2 f3 f4 (hf _)
end
end Go.Proofs.Ytabfdgpldcegiaa
