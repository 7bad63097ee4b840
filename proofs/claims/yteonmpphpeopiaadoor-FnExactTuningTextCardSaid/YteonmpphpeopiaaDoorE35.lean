/- Texts that are cut. -/
import Derived.Test.YteonmpphpeopiaaDoorE27
import Derived.Stop.IfaceNil
set_option linter.unusedVariables false
namespace Go.Proofs.YteonmpphpeopiaaDoor

section
variable {P : Program} {n : Nat} {ρ : Env} {w : World} {dst : Option Tmp} {ty : TypeId} {pos : String} {af : Array Edge} {g : Option (Nat × Bool)}
theorem op_strLo {t i : Nat} {x y : Operand} {k : IntKind} {q : Int} {s : ByteArray} (hx : ev ρ x = some (.string s)) (hy : ev ρ y = some (.int k q)) (hq : q = (i : Int)) (hu : ∀ w, (underlying t).run P w = .ok .string w) (hi : i ≤ s.size) :
    Op1 P n ⟨dst, .slice t x (some y) none none, ty, pos, af, g⟩ ρ w (Det (.string (s.extract i s.size)) w) := by
  subst hq
  refine op_run (fun a ha => ?_) ⟨rfl, rfl⟩
  have e2 : (0 : Int) ≤ (i : Int) ∧ (i : Int) ≤ (s.size : Int) := by omega
  simp [execOp, ha.ev hx, ha.ev hy, Instr.sliceAt, Instr.slice, hu, Instr.sliceBounds, Instr.sliceBound, asIntOf, e2]
  exact fun h => absurd h (by omega)
theorem op_strLH {t i j : Nat} {x y z : Operand} {k k' : IntKind} {q r : Int} {s : ByteArray} (hx : ev ρ x = some (.string s)) (hy : ev ρ y = some (.int k q)) (hz : ev ρ z = some (.int k' r)) (hq : q = (i : Int)) (hr : r = (j : Int)) (hu : ∀ w, (underlying t).run P w = .ok .string w) (hi : i ≤ j) (hj : j ≤ s.size) :
    Op1 P n ⟨dst, .slice t x (some y) (some z) none, ty, pos, af, g⟩ ρ w (Det (.string (s.extract i j)) w) := by
  subst hq hr
  refine op_run (fun a ha => ?_) ⟨rfl, rfl⟩
  have e2 : (0 : Int) ≤ (i : Int) ∧ (i : Int) ≤ (j : Int) := by omega
  have e3 : (0 : Int) ≤ (j : Int) ∧ (j : Int) ≤ (s.size : Int) := by omega
  simp [execOp, ha.ev hx, ha.ev hy, ha.ev hz, Instr.sliceAt, Instr.slice, hu, Instr.sliceBounds, Instr.sliceBound, asIntOf, e2, e3]
  rw [if_pos hj, if_pos hi]
theorem isIf {t : Nat} {ms} (ht : P.underlying t = some (.interface ms)) : P.isIface t = true := by unfold Program.isIface; rw [ht]
theorem op_eq_if {t u tp : Nat} {x : Operand} {p : Value} {ms} (hx : ev ρ x = some (.iface tp p)) (ht : P.underlying t = some (.interface ms)) :
    Op1 P n ⟨dst, .binOp .eql t x (.const .nilIface) u, ty, pos, af, g⟩ ρ w (Det (.bool false) w) :=
  op_bin hx rfl (fun w => by rw [eqGuard_at_iface]; rfl) (run_eql_iface_nil w t (isIf ht) tp p)
theorem op_eq_nilif {t u : Nat} {x : Operand} {ms} (hx : ev ρ x = some .nilIface) (ht : P.underlying t = some (.interface ms)) :
    Op1 P n ⟨dst, .binOp .eql t x (.const .nilIface) u, ty, pos, af, g⟩ ρ w (Det (.bool true) w) :=
  op_bin hx rfl (fun w => by rw [eqGuard_nil_constR]; rfl) (run_eql_nil_nil_at w t (isIf ht))
end
theorem size_ext (s : ByteArray) (i j : Nat) (h : j ≤ s.size) : (s.extract i j).size = j - i := by
  rw [ByteArray.size_extract]; omega
theorem byt_ext (s : ByteArray) (i j k : Nat) (h : k < j - i) (hj : j ≤ s.size) : byt (s.extract i j) k = byt s (i + k) := by
  unfold byt
  rw [ByteArray.data_extract, Array.toList_extract, List.getD_eq_getElem?_getD, List.getD_eq_getElem?_getD]
  show (((List.take (j - i) (List.drop i s.data.toList))[k]?).getD 0).toNat = _
  rw [List.getElem?_take, if_pos h, List.getElem?_drop]
end Go.Proofs.YteonmpphpeopiaaDoor
