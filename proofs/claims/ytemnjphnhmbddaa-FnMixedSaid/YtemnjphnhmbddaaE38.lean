/- The engine of this claim's walks: an element of an array that is a value. -/
import Derived.Test.YtemnjphnhmbddaaE3
namespace Go.Proofs.Ytemnjphnhmbddaa
section
variable {P : Program} {n : Nat} {ρ : Env} {w : World} {dst : Option Tmp} {ty : TypeId} {pos : String} {af : Array Edge} {g : Option (Nat × Bool)}
theorem op_idxA1 {t e N m : Nat} {x y : Operand} {k : IntKind} {i : Int} {vs : List Value} {v : Value} (hx : ev ρ x = some (.agg vs.toArray)) (hy : ev ρ y = some (.int k i))
    (hu : ∀ w, (underlying t).run P w = .ok (.array N e) w) (hs : ∀ w, (sizeOf e).run P w = .ok m w) (hg : ∀ w, (isAgg e).run P w = .ok false w) (h0 : 0 ≤ i) (h1 : i < N) (hv : vs[i.toNat * m]? = some v) :
    Op1 P n ⟨dst, .index t x y, ty, pos, af, g⟩ ρ w (Det v w) := by
  refine op_run (fun a ha => ?_) ⟨rfl, rfl⟩
  simp [execOp, ha.ev hx, ha.ev hy, Instr.index, hu, asIntOf, h0, h1, hs, part, hg, hv]
theorem op_idxA {t e N m : Nat} {x y : Operand} {k : IntKind} {i : Int} {vs cs : List Value} (hx : ev ρ x = some (.agg vs.toArray)) (hy : ev ρ y = some (.int k i))
    (hu : ∀ w, (underlying t).run P w = .ok (.array N e) w) (hs : ∀ w, (sizeOf e).run P w = .ok m w) (hg : ∀ w, (isAgg e).run P w = .ok true w) (h0 : 0 ≤ i) (h1 : i < N) (hc : (vs.drop (i.toNat * m)).take m = cs) :
    Op1 P n ⟨dst, .index t x y, ty, pos, af, g⟩ ρ w (Det (.agg cs.toArray) w) := by
  refine op_run (fun a ha => ?_) ⟨rfl, rfl⟩
  subst hc
  have e : vs.toArray.extract (i.toNat * m) (i.toNat * m + m) = ((vs.drop (i.toNat * m)).take m).toArray := by
    rw [List.extract_toArray, List.extract_eq_take_drop, Nat.add_sub_cancel_left]
  simp [execOp, ha.ev hx, ha.ev hy, Instr.index, hu, asIntOf, h0, h1, hs, part, hg, -List.extract_toArray, e]
end
end Go.Proofs.Ytemnjphnhmbddaa
