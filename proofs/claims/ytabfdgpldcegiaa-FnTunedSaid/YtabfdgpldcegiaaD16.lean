/- The law on tuning: plucks, computed. -/
import Derived.Test.YtabfdgpldcegiaaD7
import Derived.Test.YtabfdgpldcegiaaG6
set_option linter.unusedVariables false
set_option maxRecDepth 100000
namespace Go.Proofs.Ytabfdgpldcegiaa

/-- a pluck of a half at place `k / 16` of a ring of `n`, and one of minus a half -/
def plW (k : Nat) : Nat := fop .quo .f32 (FloatKind.f32.nearest ((k : Nat) : Int)) 1098907648
def plP (n k : Nat) : Nat := fop .mul .f32 (plW k) (FloatKind.f32.nearest ((n : Nat) : Int))
def plY (n k j : Nat) : Nat := pluckF 1056964608 (FloatKind.f32.nearest ((n : Nat) : Int)) (plP n k) j 0
def plB (n k j : Nat) : Bool := !isNaN .f32 (plY n k j) && fEq .f32 (pluckF 3204448256 (FloatKind.f32.nearest ((n : Nat) : Int)) (plP n k) j (plY n k j)) 0 && (!fGt .f32 (plY n k j) 1056966286 && !fLt .f32 (plY n k j) 0)
def plTab (n : Nat) : Bool := (List.range 16).all fun k => decide (posF (plP n k) < n) && (List.range n).all fun j => plB n k j
def placeTab : Bool := (List.range 16).all fun k => placeF (plW k) && !isNaN .f32 (plW k)
theorem placeTab_ok : placeTab = true := by decide +kernel
theorem plTab2 : plTab 2 = true := by decide +kernel
theorem plTab3 : plTab 3 = true := by decide +kernel
theorem plTab4 : plTab 4 = true := by decide +kernel
theorem plTab5 : plTab 5 = true := by decide +kernel
theorem plTab6 : plTab 6 = true := by decide +kernel
theorem plTab7 : plTab 7 = true := by decide +kernel
theorem plTab8 : plTab 8 = true := by decide +kernel
theorem plTab9 : plTab 9 = true := by decide +kernel
theorem plTab10 : plTab 10 = true := by decide +kernel
theorem plTab11 : plTab 11 = true := by decide +kernel
theorem plTab12 : plTab 12 = true := by decide +kernel
theorem plTab13 : plTab 13 = true := by decide +kernel
theorem plTab14 : plTab 14 = true := by decide +kernel
theorem plTab15 : plTab 15 = true := by decide +kernel
theorem plTab16 : plTab 16 = true := by decide +kernel
theorem plTab17 : plTab 17 = true := by decide +kernel
theorem plTab18 : plTab 18 = true := by decide +kernel
theorem plTab19 : plTab 19 = true := by decide +kernel
theorem plTab20 : plTab 20 = true := by decide +kernel
theorem plTab21 : plTab 21 = true := by decide +kernel
theorem plTab22 : plTab 22 = true := by decide +kernel
theorem plTab23 : plTab 23 = true := by decide +kernel
theorem plTab24 : plTab 24 = true := by decide +kernel
theorem plTab25 : plTab 25 = true := by decide +kernel
theorem plTab26 : plTab 26 = true := by decide +kernel
theorem plTab27 : plTab 27 = true := by decide +kernel
theorem plTab28 : plTab 28 = true := by decide +kernel
theorem plTab29 : plTab 29 = true := by decide +kernel
theorem plTab30 : plTab 30 = true := by decide +kernel
theorem plTab31 : plTab 31 = true := by decide +kernel
theorem plTab32 : plTab 32 = true := by decide +kernel
theorem plTab33 : plTab 33 = true := by decide +kernel
theorem plTab34 : plTab 34 = true := by decide +kernel
theorem pl_all {n : Nat} (h : 2 ≤ n) (h2 : n ≤ 34) : plTab n = true := by
  have e : n = 2 ∨ n = 3 ∨ n = 4 ∨ n = 5 ∨ n = 6 ∨ n = 7 ∨ n = 8 ∨ n = 9 ∨ n = 10 ∨ n = 11 ∨ n = 12 ∨ n = 13 ∨ n = 14 ∨ n = 15 ∨ n = 16 ∨ n = 17 ∨ n = 18 ∨ n = 19 ∨ n = 20 ∨ n = 21 ∨ n = 22 ∨ n = 23 ∨ n = 24 ∨ n = 25 ∨ n = 26 ∨ n = 27 ∨ n = 28 ∨ n = 29 ∨ n = 30 ∨ n = 31 ∨ n = 32 ∨ n = 33 ∨ n = 34 := by omega
  rcases e with rfl | rfl | rfl | rfl | rfl | rfl | rfl | rfl | rfl | rfl | rfl | rfl | rfl | rfl | rfl | rfl | rfl | rfl | rfl | rfl | rfl | rfl | rfl | rfl | rfl | rfl | rfl | rfl | rfl | rfl | rfl | rfl | rfl
  · exact plTab2
  · exact plTab3
  · exact plTab4
  · exact plTab5
  · exact plTab6
  · exact plTab7
  · exact plTab8
  · exact plTab9
  · exact plTab10
  · exact plTab11
  · exact plTab12
  · exact plTab13
  · exact plTab14
  · exact plTab15
  · exact plTab16
  · exact plTab17
  · exact plTab18
  · exact plTab19
  · exact plTab20
  · exact plTab21
  · exact plTab22
  · exact plTab23
  · exact plTab24
  · exact plTab25
  · exact plTab26
  · exact plTab27
  · exact plTab28
  · exact plTab29
  · exact plTab30
  · exact plTab31
  · exact plTab32
  · exact plTab33
  · exact plTab34
end Go.Proofs.Ytabfdgpldcegiaa
