/- The engine of this claim's walks, eleventh part: slices that are appended to. -/
import Derived.Test.YtkgdhlhmckdcmaaE10
namespace Go.Proofs.Ytkgdhlhmckdcmaa

/-- A slice that is appended to: still without room, or at the front of a block that is younger than `lo`. -/
structure Own (e : TypeId) (m lo : Nat) (w : World) (A : Option Addr) (n c : Nat) (xs : List Value) : Prop where
  len : xs.length = n * m
  own : (n = 0 ∧ c = 0 ∧ (A = none ∨ ∃ g, A = some ⟨g, 0, none⟩)) ∨ ∃ g cur, A = some ⟨g, 0, none⟩ ∧ lo ≤ g ∧ w.heap[g]? = some (.cells cur e (0, 0)) ∧ n ≤ c ∧ c ≤ maxLen ∧ cur.size = c * m ∧ cur.toList.take (n * m) = xs

section
variable {e : TypeId} {m lo : Nat} {w w' : World} {A : Option Addr} {n c : Nat} {xs : List Value}

theorem Own.nil : Own e m lo w none 0 0 [] := ⟨by simp, .inl ⟨rfl, rfl, .inl rfl⟩⟩
theorem Own.congr {ys : List Value} (h : Own e m lo w A n c xs) (he : xs = ys) : Own e m lo w A n c ys := he ▸ h

theorem Own.mod {S : List Nat} (h : Own e m lo w A n c xs) (k : Mod S w w') (hS : ∀ x, x ∈ S → x < lo) : Own e m lo w' A n c xs := by
  refine ⟨h.len, ?_⟩
  rcases h.own with h1 | ⟨g, cur, h1, h2, h3, h4⟩
  · exact .inl h1
  · refine .inr ⟨g, cur, h1, h2, ?_, h4⟩
    rw [k.block g (Array.getElem?_eq_some_iff.1 h3).1 fun hm => absurd (hS g hm) (Nat.not_lt.2 h2)]
    exact h3
theorem Own.ext (h : Own e m lo w A n c xs) (k : Mod [] w w') : Own e m lo w' A n c xs := h.mod k fun x hx => by cases hx

end

section
variable {P : Program} {n : Nat} {ρ : Env} {w : World} {dst : Option Tmp} {ty : TypeId} {pos : String} {af : Array Edge} {g : Option (Nat × Bool)}

end

section
variable {P : Program} {n : Nat} {ρ : Env} {w : World} {dst : Option Tmp} {ty : TypeId} {pos : String} {af : Array Edge} {g : Option (Nat × Bool)}
end

/-! ### What is made one by one -/
def outs (f : Nat → Nat) (n : Nat) : List Nat := (List.range n).map f
end Go.Proofs.Ytkgdhlhmckdcmaa
