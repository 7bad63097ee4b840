/- What a string makes of a block. -/
import Derived.Test.YtabfdgpldcegiaaB4
import Derived.Test.YtabfdgpldcegiaaG3
set_option linter.unusedVariables false
set_option linter.unusedSimpArgs false
namespace Go.Proofs.Ytabfdgpldcegiaa

structure StrSt where
  xs : List Nat
  i : Nat
  t0 : Nat
  t1 : Nat
  d0 : Nat
  d1 : Nat
/-- a string's samples, place and states behind a step that is given `x` -/
def strNext (n : Nat) (tk : Int) (tc0 tc1 tc2 : Nat) (dk : Int) (dc0 dc1 dc2 g : Nat) (z : StrSt) (x : Nat) : StrSt :=
  ⟨z.xs.set z.i (keptF (fop .add .f32 (fop .mul .f32 (stepY dk dc0 dc1 dc2 z.d0 z.d1 (stepY tk tc0 tc1 tc2 z.t0 z.t1 (z.xs.getD z.i 0))) g) x)), (z.i + 1) % n,
    stepS tk tc0 tc1 tc2 z.t0 z.t1 (z.xs.getD z.i 0), stepT tk tc0 tc1 tc2 z.t0 z.t1 (z.xs.getD z.i 0),
    stepS dk dc0 dc1 dc2 z.d0 z.d1 (stepY tk tc0 tc1 tc2 z.t0 z.t1 (z.xs.getD z.i 0)), stepT dk dc0 dc1 dc2 z.d0 z.d1 (stepY tk tc0 tc1 tc2 z.t0 z.t1 (z.xs.getD z.i 0))⟩
/-- the same before step number `m`, where step `j` is given `f j` -/
def strAt (n : Nat) (tk : Int) (tc0 tc1 tc2 : Nat) (dk : Int) (dc0 dc1 dc2 g : Nat) (xs : List Nat) (i0 ts0 ts1 ds0 ds1 : Nat) (f : Nat → Nat) (m : Nat) : StrSt :=
  if h : m = 0 then ⟨xs, i0, ts0, ts1, ds0, ds1⟩ else strNext n tk tc0 tc1 tc2 dk dc0 dc1 dc2 g (strAt n tk tc0 tc1 tc2 dk dc0 dc1 dc2 g xs i0 ts0 ts1 ds0 ds1 f (m - 1)) (f (m - 1))
termination_by m
decreasing_by omega
section
variable {n : Nat} {tk : Int} {tc0 tc1 tc2 : Nat} {dk : Int} {dc0 dc1 dc2 g : Nat} {xs : List Nat} {i0 ts0 ts1 ds0 ds1 : Nat} {f : Nat → Nat} {m : Nat}
theorem strAt_zero : strAt n tk tc0 tc1 tc2 dk dc0 dc1 dc2 g xs i0 ts0 ts1 ds0 ds1 f 0 = ⟨xs, i0, ts0, ts1, ds0, ds1⟩ := by rw [strAt]; simp
theorem strAt_succ : strAt n tk tc0 tc1 tc2 dk dc0 dc1 dc2 g xs i0 ts0 ts1 ds0 ds1 f (m + 1) = strNext n tk tc0 tc1 tc2 dk dc0 dc1 dc2 g (strAt n tk tc0 tc1 tc2 dk dc0 dc1 dc2 g xs i0 ts0 ts1 ds0 ds1 f m) (f m) := by rw [strAt]; simp
end
def strOut (n : Nat) (tk : Int) (tc0 tc1 tc2 : Nat) (dk : Int) (dc0 dc1 dc2 g : Nat) (xs : List Nat) (i0 ts0 ts1 ds0 ds1 : Nat) (f : Nat → Nat) (m : Nat) : Nat :=
  (strAt n tk tc0 tc1 tc2 dk dc0 dc1 dc2 g xs i0 ts0 ts1 ds0 ds1 f m).xs.getD (strAt n tk tc0 tc1 tc2 dk dc0 dc1 dc2 g xs i0 ts0 ts1 ds0 ds1 f m).i 0

end Go.Proofs.Ytabfdgpldcegiaa
