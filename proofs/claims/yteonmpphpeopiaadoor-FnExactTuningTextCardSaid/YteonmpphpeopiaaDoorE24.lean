/- Operations: floats to whole numbers; the whole number below. -/
import Derived.Test.YteonmpphpeopiaaDoorE9
import Derived.Test.YteonmpphpeopiaaDoorF7
set_option linter.unusedVariables false
set_option linter.unusedSimpArgs false
namespace Go.Proofs.YteonmpphpeopiaaDoor
open Ieee
section
variable {P : Program} {n : Nat} {ρ : Env} {w : World} {dst : Option Tmp} {ty : TypeId} {pos : String} {af : Array Edge} {g : Option (Nat × Bool)}
theorem op_ftoi {s d : Nat} {x : Operand} {k : FloatKind} {a q : Nat} {du : TypeDesc} (hx : ev ρ x = some (.float k a)) (hs : ∀ w, (underlying s).run P w = .ok du w) (hd : ∀ w, (underlying d).run P w = .ok (.int .i64) w) (h : (k.decode a).toInt .zero = some ((q : Nat) : Int)) (hq : q ≤ 9223372036854775807) :
    Op1 P n ⟨dst, .convert s d x, ty, pos, af, g⟩ ρ w (Det (.int .i64 ((q : Nat) : Int)) w) := by
  have h1 : IntKind.min .i64 ≤ ((q : Nat) : Int) ∧ ((q : Nat) : Int) ≤ IntKind.max .i64 := by
    have e1 : IntKind.min .i64 = -9223372036854775808 := by decide +kernel
    have e2 : IntKind.max .i64 = 9223372036854775807 := by decide +kernel
    rw [e1, e2]; omega
  exact op_run (fun a ha => by cases du <;> simp [execOp, ha.ev hx, convert, hs, hd, Conv.floatToInt, h, h1.1, h1.2] <;> (intro hc; omega)) ⟨rfl, rfl⟩
end
theorem spot_num {p n : Nat} (h : Spot p n) : isNaN .f32 p = false := by
  rw [isNaN32]; have := h.fin; simp; omega
theorem spot_toInt {a p n : Nat} (ha : cn .f32 a = cn .f32 p) (h : Spot p n) : (FloatKind.f32.decode a).toInt .zero = some ((posF p : Nat) : Int) := by
  rw [eq_of_cn ha (spot_num h)]; exact h.toInt
theorem floor_num {x m : Nat} {s : Bool} {i : Int} (hd : FloatKind.f64.decode x = .number s m i) : Extern.MathFloor.toIntegral "math.archFloor" .down #[.float .f64 x] = pure (.float .f64 (FloatKind.f64.encode ((Datum.number s m i).integral .down))) := by
  conv => lhs; whnf
  rw [hd]
theorem floor_run {P : Program} {a p n : Nat} {w : World} (ha : cn .f64 a = cn .f64 (wide p)) (h : Spot p n) : (Extern.MathFloor.toIntegral "math.archFloor" .down #[.float .f64 a]).run P w = .ok (.float .f64 (floorW p)) w := by
  have hn : isNaN .f64 (wide p) = false := by rw [isNaN_wide]; exact spot_num h
  rw [eq_of_cn ha hn]
  obtain ⟨s, m, i, h1, h2, h3, h4⟩ := h.read
  obtain ⟨m', i', hr, hi, K, hK, hv⟩ := up_number h1 h2 h3
  have hd : FloatKind.f64.decode (wide p) = .number s m' i' := hr
  rw [floor_num hd]
  unfold floorW
  rw [hd]
  rfl
end Go.Proofs.YteonmpphpeopiaaDoor
