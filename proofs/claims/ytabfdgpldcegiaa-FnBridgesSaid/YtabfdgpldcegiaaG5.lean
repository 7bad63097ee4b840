/- What playing a string does; when a string is silent. -/
import Derived.Test.YtabfdgpldcegiaaG4
import Derived.Test.YtabfdgpldcegiaaE11
set_option linter.unusedVariables false
set_option linter.unusedSimpArgs false
namespace Go.Proofs.Ytabfdgpldcegiaa

/-- the first `n` words are 0 -/
def zeroF (xs : List Nat) (n : Nat) : Bool := (List.range n).all fun j => fEq .f32 (xs.getD j 0) 0
theorem zeroF_out {xs : List Nat} {i n : Nat} (hi : i < n) (h2 : fEq .f32 (xs.getD i 0) 0 = false) : zeroF xs n = false := by
  unfold zeroF
  rw [List.all_eq_false]
  exact ⟨i, by simpa using hi, by simpa using h2⟩
theorem zeroF_get {xs : List Nat} {i n : Nat} (h : zeroF xs n = true) (hi : i < n) : fEq .f32 (xs.getD i 0) 0 = true := List.all_eq_true.1 h i (by simpa using hi)
/-- the newest `r` samples of a ring are 0, and the one before them is not -/
structure QI (n : Nat) (xs : List Nat) (i r : Nat) : Prop where
  zero : ∀ j, 1 ≤ j → j ≤ r → j ≤ n → fEq .f32 (xs.getD ((i + n - j) % n) 0) 0 = true
  last : r < n → fEq .f32 (xs.getD ((i + n - (r + 1)) % n) 0) 0 = false
theorem QI.step {n : Nat} {xs : List Nat} {i e : Nat} (h : ∀ j, 1 ≤ j → j ≤ e → fEq .f32 (xs.getD ((i + n - j) % n) 0) 0 = true) (h' : fEq .f32 (xs.getD ((i + n - (e + 1)) % n) 0) 0 = true) : ∀ j, 1 ≤ j → j ≤ e + 1 → fEq .f32 (xs.getD ((i + n - j) % n) 0) 0 = true := fun j h1 h2 => by
  rcases Nat.lt_or_ge e j with c | c
  · obtain rfl : j = e + 1 := by omega
    exact h'
  · exact h j h1 c
theorem QI.of {n : Nat} {xs : List Nat} {i r : Nat} (h : ∀ j, 1 ≤ j → j ≤ r → fEq .f32 (xs.getD ((i + n - j) % n) 0) 0 = true) (k : r < n → fEq .f32 (xs.getD ((i + n - (r + 1)) % n) 0) 0 = false) : QI n xs i r := ⟨fun j a b _ => h j a b, k⟩
theorem back_ne {n i j : Nat} (hi : i < n) (h1 : 1 ≤ j) (h2 : j < n) : (i + n - j) % n ≠ i := by
  intro h
  rcases Nat.lt_or_ge i j with c | c
  · rw [Nat.mod_eq_of_lt (by omega)] at h; omega
  · rw [show i + n - j = (i - j) + n by omega, Nat.add_mod_right, Nat.mod_eq_of_lt (by omega)] at h; omega
theorem back_next {n i j : Nat} (hi : i < n) (h1 : 1 ≤ j) (h2 : j ≤ n) : ((i + 1) % n + n - (j + 1)) % n = (i + n - j) % n ∨ j = n := by
  rcases Nat.lt_or_ge (i + 1) n with c | c
  · rw [Nat.mod_eq_of_lt c]
    by_cases e : j = n
    · exact .inr e
    · left; congr 1; omega
  · have e : i + 1 = n := by omega
    rw [e, Nat.mod_self]
    by_cases e' : j = n
    · exact .inr e'
    · left
      rw [show i + n - j = (0 + n - (j + 1)) + n by omega, Nat.add_mod_right]
theorem QI.down {n : Nat} {xs : List Nat} {i : Nat} (h : fEq .f32 (xs.getD ((i + n - 1) % n) 0) 0 = false) : QI n xs i 0 := ⟨fun j a b => absurd b (by omega), fun _ => h⟩
theorem QI.up {n : Nat} {xs : List Nat} {i r a : Nat} (h : QI n xs i r) (hi : i < n) (hl : xs.length = n) (h0 : fEq .f32 ((xs.set i a).getD (((i + 1) % n + n - 1) % n) 0) 0 = true) : QI n (xs.set i a) ((i + 1) % n) (r + 1) := by
  have other : ∀ j, 1 ≤ j → j < n → (xs.set i a).getD (((i + 1) % n + n - (j + 1)) % n) 0 = xs.getD ((i + n - j) % n) 0 := fun j h1 h2 => by
    rcases back_next hi h1 (Nat.le_of_lt h2) with e | e
    · rw [e, List.getD_eq_getElem?_getD, List.getElem?_set_ne (Ne.symm (back_ne hi h1 h2)), List.getD_eq_getElem?_getD]
    · omega
  refine ⟨fun j a1 a2 a3 => ?_, fun hr => ?_⟩
  · rcases Nat.lt_or_ge 1 j with c | c
    · obtain ⟨j, rfl⟩ : ∃ k, j = k + 1 := ⟨j - 1, by omega⟩
      rw [other j (by omega) (by omega)]
      exact h.zero j (by omega) (by omega) (by omega)
    · obtain rfl : j = 1 := by omega
      exact h0
  · rw [other (r + 1) (by omega) (by omega)]
    exact h.last (by omega)
theorem QI.all {n : Nat} {xs : List Nat} {i r : Nat} (h : QI n xs i r) (hi : i < n) : zeroF xs n = decide (((n : Nat) : Int) ≤ ((r : Nat) : Int)) := by
  by_cases c : n ≤ r
  · have : decide (((n : Nat) : Int) ≤ ((r : Nat) : Int)) = true := by simpa using c
    rw [this]
    unfold zeroF
    rw [List.all_eq_true]
    intro m hm
    have hm' : m < n := by simpa using hm
    rcases Nat.lt_or_ge m i with d | d
    · have := h.zero (i - m) (by omega) (by omega) (by omega)
      rwa [show i + n - (i - m) = m + n by omega, Nat.add_mod_right, Nat.mod_eq_of_lt hm'] at this
    · have := h.zero (i + n - m) (by omega) (by omega) (by omega)
      rwa [show i + n - (i + n - m) = m by omega, Nat.mod_eq_of_lt hm'] at this
  · have : decide (((n : Nat) : Int) ≤ ((r : Nat) : Int)) = false := by simpa using c
    rw [this]
    exact zeroF_out (Nat.mod_lt _ (by omega)) (h.last (by omega))
def strSilent (n : Nat) (xs : List Nat) (a b c d : Nat) : Bool := zeroF xs n && (stillF a b && stillF c d)
/-- behind how many steps a string is silent, and the code of the answer -/
def silF (n : Nat) (Z : Nat → StrSt) : Nat → Nat → Int × Int
  | 0, _ => (0, 7)
  | k + 1, i => if strSilent n (Z i).xs (Z i).t0 (Z i).t1 (Z i).d0 (Z i).d1 then ((i : Int), 0) else silF n Z k (i + 1)
section
variable {n k k' i : Nat} {Z : Nat → StrSt} {R : Int × Int}
end

end Go.Proofs.Ytabfdgpldcegiaa
