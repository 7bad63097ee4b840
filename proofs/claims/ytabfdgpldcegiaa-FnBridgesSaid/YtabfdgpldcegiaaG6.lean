/- What changing the samples of a string does: plucks and noise. -/
import Derived.Test.YtabfdgpldcegiaaG3
set_option linter.unusedVariables false
set_option linter.unusedSimpArgs false
namespace Go.Proofs.Ytabfdgpldcegiaa

theorem Cn.eq2 {xs ys L : List Nat} (h : Cn xs L) (k : Cn ys L) : Cn xs ys := h.trans k.symm
def chg (f : Nat → Nat → Nat) (n a : Nat) (xs : List Nat) : Nat → List Nat
  | 0 => xs
  | i + 1 => (chg f n a xs i).set ((a + i) % n) (f i ((chg f n a xs i).getD ((a + i) % n) 0))
def mulN (s : Nat) : Nat := (1974033781 * s) % 4294967296
def nextN (s : Nat) : Nat := (mulN s + 907633385) % 4294967296
def sdAt (s : Nat) : Nat → Nat
  | 0 => s
  | i + 1 => nextN (sdAt s i)
def noiseF (s : Nat) : Nat := fop .quo .f32 (FloatKind.f32.nearest (((nextN s / 256 : Nat) : Int) - 8388608)) 1258291200
def noiseG (fo s j a : Nat) : Nat := fop .add .f32 a (fop .mul .f32 fo (noiseF (sdAt s j)))
def pluckF (fo nf pe j a : Nat) : Nat :=
  if fLt .f32 (FloatKind.f32.nearest ((j : Nat) : Int)) pe then fop .add .f32 a (fop .mul .f32 fo (fop .quo .f32 (FloatKind.f32.nearest ((j : Nat) : Int)) pe))
  else fop .add .f32 a (fop .mul .f32 fo (fop .quo .f32 (fop .sub .f32 nf (FloatKind.f32.nearest ((j : Nat) : Int))) (fop .sub .f32 nf pe)))
def placeF (a : Nat) : Bool := fGe .f32 a 0 && fLt .f32 a 1065353216
end Go.Proofs.Ytabfdgpldcegiaa
