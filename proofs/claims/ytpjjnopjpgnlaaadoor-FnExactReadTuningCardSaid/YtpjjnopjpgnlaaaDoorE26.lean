/- Operations: floats to whole numbers; the whole number below. -/
import Derived.Test.YtpjjnopjpgnlaaaDoorE9
import Derived.Test.YtpjjnopjpgnlaaaDoorF7
import Derived.Test.YtpjjnopjpgnlaaaDoorE11
import Derived.Lib.AppendZeros
set_option linter.unusedVariables false
set_option linter.unusedSimpArgs false
namespace Go.Proofs.YtpjjnopjpgnlaaaDoor
open Ieee
section
variable {P : Program} {n : Nat} {ρ : Env} {w : World} {dst : Option Tmp} {ty : TypeId} {pos : String} {af : Array Edge} {g : Option (Nat × Bool)}
end
end Go.Proofs.YtpjjnopjpgnlaaaDoor

/- What a ring holds behind some samples; an append of many cells to a slice of one's own; slices of slices. -/
set_option linter.unusedVariables false
namespace Go.Proofs.YtpjjnopjpgnlaaaDoor

/-- a ring of `n` behind `i` samples -/
def rgF (n : Nat) (L : List Nat) : Nat → List Nat
  | 0 => List.replicate n 0
  | i + 1 => (rgF n L i).set (i % n) (L.getD i 0)
/-- the sample that came `k` samples ago, when `i` have come -/
def dueF (L : List Nat) (i k : Nat) : Nat := if k ≤ i then L.getD (i - k) 0 else 0
section
variable {n : Nat} {L : List Nat}
end

section
variable {P : Program} {n : Nat} {ρ : Env} {w : World} {dst : Option Tmp} {ty : TypeId} {pos : String} {af : Array Edge} {g : Option (Nat × Bool)}
end
end Go.Proofs.YtpjjnopjpgnlaaaDoor

/- Slices of slices; the append of a made slice; capacities. -/
set_option linter.unusedVariables false
namespace Go.Proofs.YtpjjnopjpgnlaaaDoor

section
variable {e : TypeId} {m lo : Nat} {w : World} {b n c : Nat} {xs : List Value}
/-- a slice of one's own without cells, with room -/
def Room (e : TypeId) (lo : Nat) (w : World) (b c : Nat) : Prop := 0 < c ∧ Own e 1 lo w (some ⟨b, 0, none⟩) 0 c []
end
theorem fl_app (xs ys : List Nat) : fl xs ++ fl ys = fl (xs ++ ys) := by simp [fl]
theorem app_len {xs ys : List Nat} {a b : Nat} (h : xs.length = a) (k : ys.length = b) : (xs ++ ys).length = a + b := by rw [List.length_append, h, k]
section
variable {P : Program} {n : Nat} {ρ : Env} {w : World} {dst : Option Tmp} {ty : TypeId} {pos : String} {af : Array Edge} {g : Option (Nat × Bool)}
theorem op_slLo {t e b o m c i : Nat} {x y : Operand} {k : IntKind} {q : Int} (hx : ev ρ x = some (.slice (some ⟨b, o, none⟩) m c)) (hy : ev ρ y = some (.int k q)) (hq : q = (i : Int)) (hu : ∀ w, (underlying t).run P w = .ok (.slice e) w) (hs : ∀ w, (sizeOf e).run P w = .ok 1 w) (h1 : i ≤ m) (h2 : i < c) :
    Op1 P n ⟨dst, .slice t x (some y) none none, ty, pos, af, g⟩ ρ w (Det (.slice (some ⟨b, o + i, none⟩) (m - i) (c - i)) w) := by
  subst hq
  refine op_run (fun a ha => ?_) ⟨rfl, rfl⟩
  have e1 : ¬ (c = i) := by omega
  have e2 : (0 : Int) ≤ (i : Int) ∧ (i : Int) ≤ (m : Int) := by omega
  simp [execOp, ha.ev hx, ha.ev hy, Instr.sliceAt, Instr.slice, hu, Instr.sliceBounds, Instr.sliceBound, asIntOf, hs, e1, e2, addr_add]
  exact fun h => absurd h (by omega)
end
end Go.Proofs.YtpjjnopjpgnlaaaDoor
