/- The engine of this claim's walks, twelfth part: lists of records, whose cells lie one behind the other. -/
import Derived.Test.YtpjjnopjpgnlaaaDoorE11
import Derived.Laws.BytesArg
set_option linter.unusedVariables false
namespace Go.Proofs.YtpjjnopjpgnlaaaDoor

section
variable {α : Type} {f : α → List Value} {m : Nat} {es : List α} {d : α} {i k : Nat}

/-- the cells of a list of records -/
def cat (f : α → List Value) : List α → List Value
  | [] => []
  | e :: es => f e ++ cat f es

theorem cat_len (hf : ∀ a, (f a).length = m) : ∀ es : List α, (cat f es).length = es.length * m
  | [] => by simp [cat]
  | e :: es => by simp only [cat, List.length_append, hf, cat_len hf es, List.length_cons, Nat.add_mul, Nat.one_mul]; omega

theorem cat_drop (hf : ∀ a, (f a).length = m) : ∀ (i : Nat) (es : List α), (cat f es).drop (i * m) = cat f (es.drop i)
  | 0, es => by simp
  | i + 1, [] => by simp [cat]
  | i + 1, e :: es => by
    rw [List.drop_succ_cons, cat, Nat.add_mul, Nat.one_mul, Nat.add_comm, ← List.drop_drop, List.drop_left' (hf e)]
    exact cat_drop hf i es

theorem cat_head (hf : ∀ a, (f a).length = m) (hi : i < es.length) : cat f (es.drop i) = f (es.getD i d) ++ cat f (es.drop (i + 1)) := by
  rw [List.drop_eq_getElem_cons hi, cat]
  congr 2
  simp [hi]

theorem cat_get (hf : ∀ a, (f a).length = m) (hi : i < es.length) {v : Value} (hv : (f (es.getD i d))[k]? = some v) : (cat f es)[i * m + k]? = some v := by
  have h1 : k < m := by rw [← hf (es.getD i d)]; exact (List.getElem?_eq_some_iff.1 hv).1
  rw [← List.getElem?_drop, cat_drop hf, cat_head (d := d) hf hi, List.getElem?_append_left (by rw [hf]; exact h1)]
  exact hv
theorem cat_get0 (hf : ∀ a, (f a).length = m) (hi : i < es.length) {v : Value} (hv : (f (es.getD i d))[0]? = some v) : (cat f es)[i * m]? = some v := cat_get (k := 0) hf hi hv

theorem cat_app : ∀ (xs ys : List α), cat f (xs ++ ys) = cat f xs ++ cat f ys
  | [], ys => rfl
  | x :: xs, ys => by rw [List.cons_append, cat, cat, cat_app xs ys, List.append_assoc]

/-- the first `i` records of a list, then `d` -/
def fillR (d : α) (xs : List α) (i : Nat) : List α := xs.take i ++ List.replicate (xs.length - i) d
end

/-- two texts are the same -/
def sEq (a b : ByteArray) : Bool := a.toList == b.toList
section
variable {P : Program} {n : Nat} {ρ : Env} {w : World} {dst : Option Tmp} {ty : TypeId} {pos : String} {af : Array Edge} {g : Option (Nat × Bool)}

theorem run_eq_string (w : World) (t : TypeId) (a b : ByteArray) : (binOp .eql t (.string a) (.string b)).run P w = .ok (.bool (sEq a b)) w := by
  simp [binOp, Op.stringOp, sEq]
theorem run_ne_string (w : World) (t : TypeId) (a b : ByteArray) : (binOp .neq t (.string a) (.string b)).run P w = .ok (.bool (!(sEq a b))) w := by
  simp [binOp, Op.stringOp, sEq]
theorem op_eqs {t u : Nat} {x y : Operand} {a b : ByteArray} (hx : ev ρ x = some (.string a)) (hy : ev ρ y = some (.string b)) : Op1 P n ⟨dst, .binOp .eql t x y u, ty, pos, af, g⟩ ρ w (Det (.bool (sEq a b)) w) :=
  op_bin hx hy guard_string (run_eq_string w t a b)
theorem op_nes {t u : Nat} {x y : Operand} {a b : ByteArray} (hx : ev ρ x = some (.string a)) (hy : ev ρ y = some (.string b)) : Op1 P n ⟨dst, .binOp .neq t x y u, ty, pos, af, g⟩ ρ w (Det (.bool (!(sEq a b))) w) :=
  op_bin hx hy guard_string (run_ne_string w t a b)
end
end Go.Proofs.YtpjjnopjpgnlaaaDoor

/- The engine of this claim's walks, thirty-second part: texts that are put together; own slices beside younger memory. -/
set_option linter.unusedVariables false
set_option linter.unusedSimpArgs false
namespace Go.Proofs.YtpjjnopjpgnlaaaDoor
section
variable {P : Program} {n : Nat} {ρ : Env} {w : World} {dst : Option Tmp} {ty : TypeId} {pos : String} {af : Array Edge} {g : Option (Nat × Bool)}
theorem op_strAdd {t u : Nat} {x y : Operand} {a b : ByteArray} (hx : ev ρ x = some (.string a)) (hy : ev ρ y = some (.string b)) (h : a.size + b.size ≤ 9223372036854775807) : Op1 P n ⟨dst, .binOp .add t x y u, ty, pos, af, g⟩ ρ w (Det (.string (a ++ b)) w) := by
  refine op_bin hx hy guard_string ?_
  have k : ¬ ((a.size + b.size : Nat) : Int) > IntKind.i64.max := by
    have e : IntKind.i64.max = 9223372036854775807 := rfl
    omega
  simp only [binOp, Op.stringOp, if_neg k]; rfl
end
theorem w_u8 {i : Int} (h0 : 0 ≤ i) (h1 : i ≤ 255) : IntKind.u8.wrap i = i := by
  have a : IntKind.u8.wrap i = i % 256 := rfl
  rw [a]; omega
end Go.Proofs.YtpjjnopjpgnlaaaDoor
