/- The law on tuning: plucks, computed. -/
import Derived.Test.YtabfdgpldcegiaaD7
import Derived.Test.YtabfdgpldcegiaaG6
set_option linter.unusedVariables false
set_option maxRecDepth 100000
namespace Go.Proofs.Ytabfdgpldcegiaa

/-- a pluck of a half at place `k / 16` of a ring of `n`, and one of minus a half -/
def plW (k : Nat) : Nat := fop .quo .f32 (FloatKind.f32.nearest ((k : Nat) : Int)) 1098907648
def plP (n k : Nat) : Nat := fop .mul .f32 (plW k) (FloatKind.f32.nearest ((n : Nat) : Int))
def plY (n k j : Nat) : Nat := pluckF 1056964608 (FloatKind.f32.nearest ((n : Nat) : Int)) (plP n k) j 0
def plB (n k j : Nat) : Bool := !isNaN .f32 (plY n k j) && fEq .f32 (pluckF 3204448256 (FloatKind.f32.nearest ((n : Nat) : Int)) (plP n k) j (plY n k j)) 0 && (!fGt .f32 (plY n k j) 1056966286 && !fLt .f32 (plY n k j) 0)
def plTab (n : Nat) : Bool := (List.range 16).all fun k => decide (posF (plP n k) < n) && (List.range n).all fun j => plB n k j
def placeTab : Bool := (List.range 16).all fun k => placeF (plW k) && !isNaN .f32 (plW k)
end Go.Proofs.Ytabfdgpldcegiaa
