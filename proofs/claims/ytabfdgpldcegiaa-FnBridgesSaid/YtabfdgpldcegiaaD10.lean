/- Strings stay valid: what the law on silence needs of the states on the way. -/
import Derived.Test.YtabfdgpldcegiaaD9
set_option linter.unusedVariables false
set_option linter.unusedSimpArgs false
namespace Go.Proofs.Ytabfdgpldcegiaa

theorem keptF_fin (x : Nat) : finF (keptF x) = true := by
  have z : finF 0 = true := by decide +kernel
  unfold keptF flushF
  split
  · split
    · exact z
    · assumption
  · exact z
theorem used3 {a b c : Nat} (h1 : finF a = true) (h2 : finF b = true) (h3 : finF c = true) {k : Nat} (hb : 1 < k ∨ cn .f32 b = 0) (hc : 2 < k ∨ cn .f32 c = 0) (ha : 0 < k) : usedF [a, b, c] k 3 = true := by
  simp [usedF, List.range_succ, okF, h1, h2, h3, ha]
  exact ⟨hb, hc⟩
theorem used2 {a b : Nat} (h1 : finF a = true) (h2 : finF b = true) {k : Nat} (hb : 1 < k ∨ cn .f32 b = 0) (ha : 0 < k) : usedF [a, b] k 2 = true := by
  simp [usedF, List.range_succ, okF, h1, h2, ha]
  exact hb
/-- the strings of the law -/
theorem vStr_law {n i ta da mw lw a b c : Nat} (h1 : 1 ≤ n) (h2 : n ≤ 1024) (hi : i < n) (f1 : finF ta = true) (f2 : finF da = true) (f3 : finF mw = true) (f4 : finF lw = true) (g1 : finF a = true) (g2 : finF b = true) (g3 : finF c = true) : vStr n ((i : Nat) : Int) 3 ta 0 0 a b 2 da mw 0 c 0 lw = true := by
  have z : finF 0 = true := by decide +kernel
  have v1 : vFil 3 ta 0 0 a b = true := by
    have u1 := used3 f1 z z (k := 1) (.inr cn_zero) (.inr cn_zero) (by omega)
    have u2 := used2 g1 g2 (k := 2) (.inl (by omega)) (by omega)
    simp [vFil, usesC, usesS, u1, u2]
  have v2 : vFil 2 da mw 0 c 0 = true := by
    have u1 := used3 f2 f3 z (k := 2) (.inl (by omega)) (.inr cn_zero) (by omega)
    have u2 := used2 g3 z (k := 1) (.inr cn_zero) (by omega)
    simp [vFil, usesC, usesS, u1, u2]
  have v3 : vRing n ((i : Nat) : Int) = true := by
    simp [vRing, vIn]; omega
  simp [vStr, v1, v2, v3, f4]
/-- what holds of every state on the way -/
structure Way (n : Nat) (z : StrSt) : Prop where
  i : z.i < n
  l : z.xs.length = n
  w : W32 z.xs
  f0 : finF z.t0 = true
  f1 : finF z.t1 = true
  f2 : finF z.d0 = true
  e : z.d1 = 0
  b0 : z.t0 < wid .f32
  b1 : z.t1 < wid .f32
  b2 : z.d0 < wid .f32
theorem keptF_wid' {x : Nat} (h : x < wid .f32) : keptF x < wid .f32 := keptF_wid rfl h
theorem stepY_wid {k : Int} {c0 c1 c2 s0 s1 x : Nat} : stepY k c0 c1 c2 s0 s1 x < wid .f32 := by
  unfold stepY; (repeat' split) <;> exact fop_lt _ _ _ _
section
variable {n : Nat} {tc0 tc1 tc2 dc0 dc1 dc2 g : Nat} {z : StrSt} {x : Nat}
theorem Way.next (h : Way n z) : Way n (strNext n 3 tc0 tc1 tc2 2 dc0 dc1 dc2 g z x) := by
  refine ⟨Nat.mod_lt _ (by have := h.i; omega), (List.length_set).trans h.l, W32.set h.w (keptF_wid' (fop_lt _ _ _ _)), keptF_fin _, keptF_fin _, keptF_fin _, h.e, keptF_wid' (h.w.get _), keptF_wid' stepY_wid, keptF_wid' stepY_wid⟩
theorem Way.at {xs : List Nat} {i0 ts0 ts1 ds0 ds1 : Nat} {f : Nat → Nat} (h : Way n ⟨xs, i0, ts0, ts1, ds0, ds1⟩) (m : Nat) : Way n (strAt n 3 tc0 tc1 tc2 2 dc0 dc1 dc2 g xs i0 ts0 ts1 ds0 ds1 f m) := by
  induction m with
  | zero => rw [strAt_zero]; exact h
  | succ m ih => rw [strAt_succ]; exact ih.next
end
end Go.Proofs.Ytabfdgpldcegiaa
