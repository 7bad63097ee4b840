/- The law on the run of a filter over a block, for whatever comes in. -/
import Derived.Test.YtdjmhecijopfmaaL4
namespace Go.Proofs.Ytdjmhecijopfmaa

theorem lawM_run (w : World) (cs0 cs1 : Array Value) (h0 : Cells w [isI .i64, isF .f32, isF .f32, isF .f32, isF .f32, isF .f32] cs0.toList) (h1 : Cells w (List.replicate 16 (isF .f32)) cs1.toList) :
    Cl Try.prog 7 #[.agg cs0, .agg cs1] w fun v w' => v = .bool true ∧ Mod [] w w' := by
  obtain ⟨u0, r0, e0, ⟨kd, rfl, k0, k1⟩, g0⟩ := Cells.cons h0
  obtain ⟨u1, r1, rfl, ⟨c0, rfl, m0⟩, g1⟩ := Cells.cons g0
  obtain ⟨u2, r2, rfl, ⟨c1, rfl, m1⟩, g2⟩ := Cells.cons g1
  obtain ⟨u3, r3, rfl, ⟨c2, rfl, m2⟩, g3⟩ := Cells.cons g2
  obtain ⟨u4, r4, rfl, ⟨s0, rfl, l0⟩, g4⟩ := Cells.cons g3
  obtain ⟨u5, r5, rfl, ⟨s1, rfl, l1⟩, g5⟩ := Cells.cons g4
  obtain rfl := Cells.nil g5
  obtain ⟨bs, e1, lb, wb⟩ := Cells.floats 16 h1
  rw [agg_of e0, agg_of (l := fl bs) e1]
  exact law_run kd c0 c1 c2 s0 s1 bs l0 l1 lb wb w

end Go.Proofs.Ytdjmhecijopfmaa
