/- Bytes of texts. -/
import Derived.Test.YtpjjnopjpgnlaaaDoorE32
import Derived.Stop.IfaceNil
set_option linter.unusedVariables false
namespace Go.Proofs.YtpjjnopjpgnlaaaDoor

/-- byte `i` of a text -/
def byt (s : ByteArray) (i : Nat) : Nat := (s.data.toList.getD i 0).toNat
theorem byt_lt (s : ByteArray) (i : Nat) : byt s i < 256 := (s.data.toList.getD i 0).toNat_lt
section
variable {P : Program} {n : Nat} {ρ : Env} {w : World} {dst : Option Tmp} {ty : TypeId} {pos : String} {af : Array Edge} {g : Option (Nat × Bool)}
theorem op_byte {t i : Nat} {x y : Operand} {k : IntKind} {q : Int} {s : ByteArray} (hx : ev ρ x = some (.string s)) (hy : ev ρ y = some (.int k q)) (hq : q = (i : Int)) (hu : ∀ w, (underlying t).run P w = .ok .string w) (hi : i < s.size) :
    Op1 P n ⟨dst, .index t x y, ty, pos, af, g⟩ ρ w (Det (.int .u8 ((byt s i : Nat) : Int)) w) := by
  subst hq
  have hs : i < s.data.size := hi
  have e : s[i]? = some (s.data.toList.getD i 0) := by
    rw [getElem?_pos s i hi, List.getD_eq_getElem?_getD, List.getElem?_eq_getElem (show i < s.data.toList.length by simpa using hs)]
    rfl
  refine op_run (fun a ha => ?_) ⟨rfl, rfl⟩
  simp [execOp, ha.ev hx, ha.ev hy, Instr.index, hu, asIntOf, e, byt]
end
end Go.Proofs.YtpjjnopjpgnlaaaDoor

/- Texts that are cut. -/
set_option linter.unusedVariables false
namespace Go.Proofs.YtpjjnopjpgnlaaaDoor

section
variable {P : Program} {n : Nat} {ρ : Env} {w : World} {dst : Option Tmp} {ty : TypeId} {pos : String} {af : Array Edge} {g : Option (Nat × Bool)}
theorem op_strLo {t i : Nat} {x y : Operand} {k : IntKind} {q : Int} {s : ByteArray} (hx : ev ρ x = some (.string s)) (hy : ev ρ y = some (.int k q)) (hq : q = (i : Int)) (hu : ∀ w, (underlying t).run P w = .ok .string w) (hi : i ≤ s.size) :
    Op1 P n ⟨dst, .slice t x (some y) none none, ty, pos, af, g⟩ ρ w (Det (.string (s.extract i s.size)) w) := by
  subst hq
  refine op_run (fun a ha => ?_) ⟨rfl, rfl⟩
  have e2 : (0 : Int) ≤ (i : Int) ∧ (i : Int) ≤ (s.size : Int) := by omega
  simp [execOp, ha.ev hx, ha.ev hy, Instr.sliceAt, Instr.slice, hu, Instr.sliceBounds, Instr.sliceBound, asIntOf, e2]
  exact fun h => absurd h (by omega)
theorem op_strLH {t i j : Nat} {x y z : Operand} {k k' : IntKind} {q r : Int} {s : ByteArray} (hx : ev ρ x = some (.string s)) (hy : ev ρ y = some (.int k q)) (hz : ev ρ z = some (.int k' r)) (hq : q = (i : Int)) (hr : r = (j : Int)) (hu : ∀ w, (underlying t).run P w = .ok .string w) (hi : i ≤ j) (hj : j ≤ s.size) :
    Op1 P n ⟨dst, .slice t x (some y) (some z) none, ty, pos, af, g⟩ ρ w (Det (.string (s.extract i j)) w) := by
  subst hq hr
  refine op_run (fun a ha => ?_) ⟨rfl, rfl⟩
  have e2 : (0 : Int) ≤ (i : Int) ∧ (i : Int) ≤ (j : Int) := by omega
  have e3 : (0 : Int) ≤ (j : Int) ∧ (j : Int) ≤ (s.size : Int) := by omega
  simp [execOp, ha.ev hx, ha.ev hy, ha.ev hz, Instr.sliceAt, Instr.slice, hu, Instr.sliceBounds, Instr.sliceBound, asIntOf, e2, e3]
  rw [if_pos hj, if_pos hi]
theorem isIf {t : Nat} {ms} (ht : P.underlying t = some (.interface ms)) : P.isIface t = true := by unfold Program.isIface; rw [ht]
end
end Go.Proofs.YtpjjnopjpgnlaaaDoor
