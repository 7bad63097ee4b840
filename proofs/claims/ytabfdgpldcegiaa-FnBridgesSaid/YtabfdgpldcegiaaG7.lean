/- What striking a string does. -/
import Derived.Test.YtabfdgpldcegiaaG6
import Derived.Test.YtabfdgpldcegiaaE24
set_option linter.unusedVariables false
set_option linter.unusedSimpArgs false
namespace Go.Proofs.Ytabfdgpldcegiaa

/-- what a hammer adds to sample number `j` -/
def strikeF (hs : List Nat) (m fr j a : Nat) : Nat := if fr ≤ j ∧ j < fr + m then fop .add .f32 a (hs.getD (j - fr) 0) else a
section
variable {hs xs ys : List Nat} {m fr j a n : Nat}
end
def SpotE (p : Nat) : Prop := ∃ n, n ≤ 1048576 ∧ Spot p n
theorem SpotE.bd {p : Nat} (h : SpotE p) : posF p ≤ 9223372036854775807 := by obtain ⟨n, h1, h2⟩ := h; exact Nat.le_trans h2.le (by omega)
theorem SpotE.toInt32 {a p : Nat} (ha : cn .f32 a = cn .f32 p) (h : SpotE p) : (FloatKind.f32.decode a).toInt .zero = some ((posF p : Nat) : Int) := by obtain ⟨n, h1, h2⟩ := h; exact spot_toInt ha h2
def SpotW (x : Nat) : Prop := ∃ p, x = wide p ∧ SpotE p
/-- the whole number below a wide word's number -/
def floorX (x : Nat) : Nat := FloatKind.f64.encode ((FloatKind.f64.decode x).integral .down)
theorem SpotW.run {P : Program} {a x : Nat} {w : World} (ha : cn .f64 a = cn .f64 x) (h : SpotW x) : (Extern.MathFloor.toIntegral "math.archFloor" .down #[.float .f64 a]).run P w = .ok (.float .f64 (floorX x)) w := by
  obtain ⟨p, rfl, n, h1, h2⟩ := h
  exact floor_run ha h2
end Go.Proofs.Ytabfdgpldcegiaa
