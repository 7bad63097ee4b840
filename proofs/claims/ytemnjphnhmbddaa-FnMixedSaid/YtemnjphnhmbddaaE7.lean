/- The engine of this claim's walks, seventh part: comparisons whose answer is known, lists of words that are equal but for the payloads of NaNs, filling of lists. -/
import Derived.Test.YtemnjphnhmbddaaE6
namespace Go.Proofs.Ytemnjphnhmbddaa

theorem bnot_t {b : Bool} (h : b = true) : (!b) = false := by rw [h]; rfl
theorem bnot_f {b : Bool} (h : b = false) : (!b) = true := by rw [h]; rfl

section
variable {P : Program} {n : Nat} {ρ : Env} {w : World} {dst : Option Tmp} {ty : TypeId} {pos : String} {af : Array Edge} {g : Option (Nat × Bool)}
variable {t u : Nat} {x y : Operand} {k : IntKind} {i j r : Int}
end

/-! ### Lists of words -/

/-- the same words, but for the payloads of NaNs -/
def Cn (xs ys : List Nat) : Prop := xs.map (cn .f32) = ys.map (cn .f32)

theorem Cn.refl (xs : List Nat) : Cn xs xs := rfl
theorem Cn.symm {xs ys : List Nat} (h : Cn xs ys) : Cn ys xs := Eq.symm h
theorem Cn.trans {xs ys zs : List Nat} (h : Cn xs ys) (k : Cn ys zs) : Cn xs zs := Eq.trans h k
theorem Cn.len {xs ys : List Nat} (h : Cn xs ys) : xs.length = ys.length := by have := congrArg List.length h; simpa using this
theorem Cn.get {xs ys : List Nat} (h : Cn xs ys) (i : Nat) : cn .f32 (xs.getD i 0) = cn .f32 (ys.getD i 0) := by
  have h1 := congrArg (fun l => l.getD i (cn .f32 0)) h
  simpa [List.getD_eq_getElem?_getD, List.getElem?_map, Option.getD_map] using h1
theorem Cn.set {xs ys : List Nat} (h : Cn xs ys) {a b : Nat} (hab : cn .f32 a = cn .f32 b) (i : Nat) : Cn (xs.set i a) (ys.set i b) := by
  unfold Cn at *
  rw [List.map_set, List.map_set, h, hab]
theorem Cn.same {xs ys : List Nat} (h : Cn xs ys) (hx : W32 xs) (hy : W32 ys) (i : Nat) : sameF (wide (xs.getD i 0)) (wide (ys.getD i 0)) = true := by
  rw [sameF_wide (wid_lt (hx.get i)) (wid_lt (hy.get i)), h.get i]; simp
/-- the first `i` words of a list, then zeros -/
def fill (xs : List Nat) (i : Nat) : List Nat := xs.take i ++ List.replicate (xs.length - i) 0
/-- the first `i` words of a list are `k`, `k + 1`, ..., as words -/
def marks (xs : List Nat) (k i : Nat) : List Nat := (List.range i).map (fun j => FloatKind.f32.nearest ((k + j : Nat) : Int)) ++ xs.drop i
def Held (hs : List Nat) (k n : Nat) : Prop := ∀ i, i < n → hs.getD i 0 = FloatKind.f32.nearest ((k + i : Nat) : Int)
theorem isNaN_near (k : FloatKind) (i : Int) : isNaN k (k.nearest i) = false := by
  unfold isNaN FloatKind.nearest FloatKind.encode
  exact read_write_noNaN k.format rfl
theorem Held.eq {hs : List Nat} {k n i : Nat} (h : Held hs k n) (hi : i < n) : fEq .f32 (hs.getD i 0) (FloatKind.f32.nearest ((k + i : Nat) : Int)) = true := by
  rw [h i hi, fEq_self, isNaN_near]; rfl

/-! ### Ranges of whole numbers -/
def vIn (a b c : Int) : Bool := decide (b ≤ a) && decide (a ≤ c)
theorem vIn_t (a b c : Int) : vIn a b c = true ↔ b ≤ a ∧ a ≤ c := by simp [vIn]
theorem vIn_f (a b c : Int) : vIn a b c = false ↔ ¬ (b ≤ a ∧ a ≤ c) := by rw [← vIn_t]; simp

end Go.Proofs.Ytemnjphnhmbddaa
