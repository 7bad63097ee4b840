/- Bytes of texts. -/
import Derived.Test.YteonmpphpeopiaaDoorE12
set_option linter.unusedVariables false
namespace Go.Proofs.YteonmpphpeopiaaDoor

/-- byte `i` of a text -/
def byt (s : ByteArray) (i : Nat) : Nat := (s.data.toList.getD i 0).toNat
theorem byt_lt (s : ByteArray) (i : Nat) : byt s i < 256 := (s.data.toList.getD i 0).toNat_lt
section
variable {P : Program} {n : Nat} {ρ : Env} {w : World} {dst : Option Tmp} {ty : TypeId} {pos : String} {af : Array Edge} {g : Option (Nat × Bool)}
theorem op_byte {t i : Nat} {x y : Operand} {k : IntKind} {q : Int} {s : ByteArray} (hx : ev ρ x = some (.string s)) (hy : ev ρ y = some (.int k q)) (hq : q = (i : Int)) (hu : ∀ w, (underlying t).run P w = .ok .string w) (hi : i < s.size) :
    Op1 P n ⟨dst, .index t x y, ty, pos, af, g⟩ ρ w (Det (.int .u8 ((byt s i : Nat) : Int)) w) := by
  subst hq
  have hs : i < s.data.size := hi
  have e : s[i]? = some (s.data.toList.getD i 0) := by
    rw [getElem?_pos s i hi, List.getD_eq_getElem?_getD, List.getElem?_eq_getElem (show i < s.data.toList.length by simpa using hs)]
    rfl
  refine op_run (fun a ha => ?_) ⟨rfl, rfl⟩
  simp [execOp, ha.ev hx, ha.ev hy, Instr.index, hu, asIntOf, e, byt]
end
end Go.Proofs.YteonmpphpeopiaaDoor
