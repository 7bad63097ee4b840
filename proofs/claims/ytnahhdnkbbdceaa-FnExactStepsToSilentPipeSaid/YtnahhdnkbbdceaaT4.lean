/- What playing a pipe does. -/
import Derived.Test.YtnahhdnkbbdceaaT2
import Derived.Test.YtnahhdnkbbdceaaE11
set_option linter.unusedVariables false
set_option linter.unusedSimpArgs false
set_option maxRecDepth 100000
set_option maxHeartbeats 8000000
namespace Go.Proofs.Ytnahhdnkbbdceaa

structure PipeSt where
  R : List RD
  L : List RD
  s0 : Nat
  s1 : Nat
/-- a pipe behind a step that is given `x` -/
def pipeNext (n m : Nat) (xS : List Nat) (k : Int) (kc0 kc1 kc2 : Nat) (op : Bool) (lo re sl : Nat) (z : PipeSt) (x : Nat) : PipeSt :=
  ⟨stR z.R z.L xS re sl x m, endL z.R z.L xS op lo (stepY k kc0 kc1 kc2 z.s0 z.s1 (oldD z.R (n - 1))) n m, stepS k kc0 kc1 kc2 z.s0 z.s1 (oldD z.R (n - 1)), stepT k kc0 kc1 kc2 z.s0 z.s1 (oldD z.R (n - 1))⟩
/-- the same before step number `q`, where step `j` is given `f j` -/
def pipeAt (n m : Nat) (xS : List Nat) (k : Int) (kc0 kc1 kc2 : Nat) (op : Bool) (lo re sl : Nat) (z : PipeSt) (f : Nat → Nat) (q : Nat) : PipeSt :=
  if h : q = 0 then z else pipeNext n m xS k kc0 kc1 kc2 op lo re sl (pipeAt n m xS k kc0 kc1 kc2 op lo re sl z f (q - 1)) (f (q - 1))
termination_by q
decreasing_by omega
/-- what step number `q` makes -/
def pipeOut (n m : Nat) (xS : List Nat) (k : Int) (kc0 kc1 kc2 : Nat) (op : Bool) (lo re sl : Nat) (z : PipeSt) (f : Nat → Nat) (q : Nat) : Nat :=
  stepY k kc0 kc1 kc2 (pipeAt n m xS k kc0 kc1 kc2 op lo re sl z f q).s0 (pipeAt n m xS k kc0 kc1 kc2 op lo re sl z f q).s1 (oldD (pipeAt n m xS k kc0 kc1 kc2 op lo re sl z f q).R (n - 1))
section
variable {n m : Nat} {xS : List Nat} {k : Int} {kc0 kc1 kc2 : Nat} {op : Bool} {lo re sl : Nat} {z : PipeSt} {f : Nat → Nat} {q : Nat}
theorem pipeAt_zero : pipeAt n m xS k kc0 kc1 kc2 op lo re sl z f 0 = z := by rw [pipeAt]; simp
theorem pipeAt_succ : pipeAt n m xS k kc0 kc1 kc2 op lo re sl z f (q + 1) = pipeNext n m xS k kc0 kc1 kc2 op lo re sl (pipeAt n m xS k kc0 kc1 kc2 op lo re sl z f q) (f q) := by rw [pipeAt]; simp
theorem pipeAt_lens (j : Nat) : ∀ q, (((pipeAt n m xS k kc0 kc1 kc2 op lo re sl z f q).R.getD j RD.d).xs.length = (z.R.getD j RD.d).xs.length) ∧ (((pipeAt n m xS k kc0 kc1 kc2 op lo re sl z f q).L.getD j RD.d).xs.length = (z.L.getD j RD.d).xs.length)
  | 0 => by rw [pipeAt_zero]; exact ⟨rfl, rfl⟩
  | q + 1 => by rw [pipeAt_succ]; exact ⟨(stR_lens j m).trans (pipeAt_lens j q).1, (endL_lens j).trans (pipeAt_lens j q).2⟩
end
end Go.Proofs.Ytnahhdnkbbdceaa
