/- The law on a sample's coming into a ring, for whatever ring comes in. -/
import Derived.Test.YtdjmhecijopfmaaL1
import Derived.Test.YtdjmhecijopfmaaE8
namespace Go.Proofs.Ytdjmhecijopfmaa

theorem law_push (w : World) (cs : Array Value) (v : Value) (h0 : Cells w [isSl [isF .f32], isI .i64] cs.toList) (h1 : Cells w [isF .f32] [v]) :
    Cl Try.prog 3 #[.agg cs, v] w fun v w' => v = .bool true ∧ Mod [] w w' := by
  obtain ⟨v0, r0, e0, hs, k1⟩ := Cells.cons h0
  obtain ⟨v1, r1, rfl, ⟨j, rfl, hj0, hj1⟩, k2⟩ := Cells.cons k1
  obtain rfl := Cells.nil k2
  obtain ⟨⟨a, rfl, ha⟩, _⟩ := h1
  obtain ⟨A, n, c, b, o, xs, rfl, hA, hn, hc, _, hl, hr, hw⟩ := isSl_floats hs
  rw [agg_of e0]
  have hn' : n ≤ 9223372036854775807 := Nat.le_trans hn hc
  cases hv : vRing n j
  · exact law_bad n c A b o xs j a hl hA hw hv (wid_lt ha) hn' w hr
  · obtain ⟨i1, i2, i3, i4⟩ := vRing_t hv
    obtain ⟨i, rfl⟩ := Int.eq_ofNat_of_zero_le i3
    exact law_ok n c A b o xs i a hl hA hw (by omega) i2 (wid_lt ha) w hr

end Go.Proofs.Ytdjmhecijopfmaa
