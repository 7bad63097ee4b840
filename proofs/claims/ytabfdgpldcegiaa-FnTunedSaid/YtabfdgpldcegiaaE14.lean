/- The engine of this claim's walks, fourteenth part: bytes, and the numbers that are drawn of them. -/
import Derived.Test.YtabfdgpldcegiaaE13
namespace Go.Proofs.Ytabfdgpldcegiaa

/-- cells of bytes -/
def bys (xs : List Nat) : List Value := cat (fun x : Nat => [Value.int .u8 ((x : Nat) : Int)]) xs
theorem bys_get {xs : List Nat} {i : Nat} (h : i < xs.length) : (bys xs)[i]? = some (.int .u8 ((xs.getD i 0 : Nat) : Int)) := by
  have := cat_get0 (f := fun x : Nat => [Value.int .u8 ((x : Nat) : Int)]) (m := 1) (d := 0) (fun _ => rfl) h (v := .int .u8 ((xs.getD i 0 : Nat) : Int)) rfl
  rwa [Nat.mul_one] at this
theorem bys_of {w : World} (cs : List Value) (h : Cells w [isI .u8] cs) : ∃ a : Nat, cs = (fun x : Nat => [Value.int .u8 ((x : Nat) : Int)]) a ∧ a < 256 := by
  obtain ⟨u0, r0, rfl, ⟨i, rfl, h0, h1⟩, h2⟩ := Cells.cons h
  obtain rfl := Cells.nil h2
  have e0 : IntKind.u8.min = 0 := by decide
  have e1 : IntKind.u8.max = 255 := by decide
  rw [e0] at h0; rw [e1] at h1
  obtain ⟨a, rfl⟩ := Int.eq_ofNat_of_zero_le h0
  exact ⟨a, rfl, by omega⟩
theorem bytes_lt {xs : List Nat} (h : ∀ x ∈ xs, x < 256) (i : Nat) : xs.getD i 0 < 256 := getD_all (Pr := fun x : Nat => x < 256) h (by decide) i
theorem isSl_bytes {w : World} {v : Value} (h : isSl [isI .u8] w v) :
    ∃ A n c b o xs, v = .slice A n c ∧ (0 < n → A = some ⟨b, o, none⟩) ∧ n ≤ c ∧ c ≤ maxLen ∧ (A = none → c = 0) ∧ xs.length = n ∧ Rng w b o (bys xs) ∧ ∀ i, xs.getD i 0 < 256 := by
  obtain ⟨A, n, c, b, o, xs, h1, h2, h3, h4, h5, h6, h7, h8⟩ := isSl_recs bys_of h
  exact ⟨A, n, c, b, o, xs, h1, h2, h3, h4, h5, h6, h7, bytes_lt h8⟩

/-! ### The next seed -/
def mulL (s : Nat) : Nat := (s * 6364136223846793005) % 18446744073709551616
def addL (s v : Nat) : Nat := (mulL s + v) % 18446744073709551616
def sdL (s v : Nat) : Nat := (addL s v + 1442695040888963407) % 18446744073709551616
section
variable {P : Program} {n : Nat} {ρ : Env} {w : World} {dst : Option Tmp} {ty : TypeId} {pos : String} {af : Array Edge} {g : Option (Nat × Bool)}
end
end Go.Proofs.Ytabfdgpldcegiaa
