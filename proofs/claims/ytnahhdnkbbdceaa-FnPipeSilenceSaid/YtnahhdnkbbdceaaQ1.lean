/- What the functions on lists of rings compute: sizes, copies, comparisons and marks. -/
import Derived.Test.YtnahhdnkbbdceaaH0
import Derived.Test.YtnahhdnkbbdceaaE16
set_option linter.unusedVariables false
set_option linter.unusedSimpArgs false
set_option maxRecDepth 100000
set_option maxHeartbeats 8000000
namespace Go.Proofs.Ytnahhdnkbbdceaa

/-- the number of samples of the first `i` rings -/
def sumR (es : List RiR) : Nat → Nat
  | 0 => 0
  | i + 1 => sumR es i + (es.getD i RiR.d).n
theorem rd_small {w : World} {es : List RiR} (h : InF w es) (hz : ∀ i, (es.getD i RiR.d).n ≤ 1048576) (i : Nat) : ((es.map RiR.rd).getD i RD.d).xs.length ≤ 1048576 := by
  rw [InF.rd]; exact Nat.le_trans (Nat.le_of_eq (h.len i)) (hz i)
theorem OF.congr {lo : Nat} {w : World} {D D' : List RD} {P : List BC} (h : OF lo w D P) (e : D = D') : OF lo w D' P := e ▸ h
end Go.Proofs.Ytnahhdnkbbdceaa
