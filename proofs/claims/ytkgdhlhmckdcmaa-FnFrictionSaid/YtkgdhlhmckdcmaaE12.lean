/- The engine of this claim's walks, twelfth part: lists of records, whose cells lie one behind the other. -/
import Derived.Test.YtkgdhlhmckdcmaaE11
set_option linter.unusedVariables false
namespace Go.Proofs.Ytkgdhlhmckdcmaa

section
variable {α : Type} {f : α → List Value} {m : Nat} {es : List α} {d : α} {i k : Nat}

/-- the cells of a list of records -/
def cat (f : α → List Value) : List α → List Value
  | [] => []
  | e :: es => f e ++ cat f es

theorem cat_drop (hf : ∀ a, (f a).length = m) : ∀ (i : Nat) (es : List α), (cat f es).drop (i * m) = cat f (es.drop i)
  | 0, es => by simp
  | i + 1, [] => by simp [cat]
  | i + 1, e :: es => by
    rw [List.drop_succ_cons, cat, Nat.add_mul, Nat.one_mul, Nat.add_comm, ← List.drop_drop, List.drop_left' (hf e)]
    exact cat_drop hf i es

theorem cat_head (hf : ∀ a, (f a).length = m) (hi : i < es.length) : cat f (es.drop i) = f (es.getD i d) ++ cat f (es.drop (i + 1)) := by
  rw [List.drop_eq_getElem_cons hi, cat]
  congr 2
  simp [hi]

theorem cat_get (hf : ∀ a, (f a).length = m) (hi : i < es.length) {v : Value} (hv : (f (es.getD i d))[k]? = some v) : (cat f es)[i * m + k]? = some v := by
  have h1 : k < m := by rw [← hf (es.getD i d)]; exact (List.getElem?_eq_some_iff.1 hv).1
  rw [← List.getElem?_drop, cat_drop hf, cat_head (d := d) hf hi, List.getElem?_append_left (by rw [hf]; exact h1)]
  exact hv
theorem cat_get0 (hf : ∀ a, (f a).length = m) (hi : i < es.length) {v : Value} (hv : (f (es.getD i d))[0]? = some v) : (cat f es)[i * m]? = some v := cat_get (k := 0) hf hi hv

/-- the first `i` records of a list, then `d` -/
def fillR (d : α) (xs : List α) (i : Nat) : List α := xs.take i ++ List.replicate (xs.length - i) d
end

/-- two texts are the same -/
def sEq (a b : ByteArray) : Bool := a.toList == b.toList
section
variable {P : Program} {n : Nat} {ρ : Env} {w : World} {dst : Option Tmp} {ty : TypeId} {pos : String} {af : Array Edge} {g : Option (Nat × Bool)}

end
end Go.Proofs.Ytkgdhlhmckdcmaa
