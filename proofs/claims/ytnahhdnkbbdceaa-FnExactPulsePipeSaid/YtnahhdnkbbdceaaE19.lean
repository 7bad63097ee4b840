/- The engine of this claim's walks, nineteenth part: products of floats do not look at the order. -/
import Derived.Test.YtnahhdnkbbdceaaF1
namespace Go.Proofs.Ytnahhdnkbbdceaa
open Ieee
theorem product_comm (x y : Datum) : Datum.product x y = Datum.product y x := by
  cases x <;> cases y <;> simp [Datum.product, Bool.xor_comm, Nat.mul_comm, Int.add_comm]
theorem fop_mul_comm (k : FloatKind) (a b : Nat) : fop .mul k a b = fop .mul k b a := by
  unfold fop floatBits
  simp only [Format.mul]
  rw [product_comm]
end Go.Proofs.Ytnahhdnkbbdceaa
