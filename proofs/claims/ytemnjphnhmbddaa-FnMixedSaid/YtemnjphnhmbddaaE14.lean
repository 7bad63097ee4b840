/- The engine of this claim's walks, fourteenth part: bytes, and the numbers that are drawn of them. -/
import Derived.Test.YtemnjphnhmbddaaE13
namespace Go.Proofs.Ytemnjphnhmbddaa

/-- cells of bytes -/
def bys (xs : List Nat) : List Value := cat (fun x : Nat => [Value.int .u8 ((x : Nat) : Int)]) xs
theorem bys_get {xs : List Nat} {i : Nat} (h : i < xs.length) : (bys xs)[i]? = some (.int .u8 ((xs.getD i 0 : Nat) : Int)) := by
  have := cat_get0 (f := fun x : Nat => [Value.int .u8 ((x : Nat) : Int)]) (m := 1) (d := 0) (fun _ => rfl) h (v := .int .u8 ((xs.getD i 0 : Nat) : Int)) rfl
  rwa [Nat.mul_one] at this
theorem bys_of {w : World} (cs : List Value) (h : Cells w [isI .u8] cs) : ∃ a : Nat, cs = (fun x : Nat => [Value.int .u8 ((x : Nat) : Int)]) a ∧ a < 256 := by
  obtain ⟨u0, r0, rfl, ⟨i, rfl, h0, h1⟩, h2⟩ := Cells.cons h
  obtain rfl := Cells.nil h2
  have e0 : IntKind.u8.min = 0 := by decide
  have e1 : IntKind.u8.max = 255 := by decide
  rw [e0] at h0; rw [e1] at h1
  obtain ⟨a, rfl⟩ := Int.eq_ofNat_of_zero_le h0
  exact ⟨a, rfl, by omega⟩
theorem bytes_lt {xs : List Nat} (h : ∀ x ∈ xs, x < 256) (i : Nat) : xs.getD i 0 < 256 := getD_all (Pr := fun x : Nat => x < 256) h (by decide) i
theorem isSl_bytes {w : World} {v : Value} (h : isSl [isI .u8] w v) :
    ∃ A n c b o xs, v = .slice A n c ∧ (0 < n → A = some ⟨b, o, none⟩) ∧ n ≤ c ∧ c ≤ maxLen ∧ (A = none → c = 0) ∧ xs.length = n ∧ Rng w b o (bys xs) ∧ ∀ i, xs.getD i 0 < 256 := by
  obtain ⟨A, n, c, b, o, xs, h1, h2, h3, h4, h5, h6, h7, h8⟩ := isSl_recs bys_of h
  exact ⟨A, n, c, b, o, xs, h1, h2, h3, h4, h5, h6, h7, bytes_lt h8⟩

theorem w_u64 {i : Int} (h0 : 0 ≤ i) (h1 : i ≤ 18446744073709551615) : IntKind.u64.wrap i = i := by
  have e : IntKind.u64.wrap i = i % 18446744073709551616 := by rfl
  rw [e]; omega

/-! ### The next seed -/
def mulL (s : Nat) : Nat := (s * 6364136223846793005) % 18446744073709551616
def addL (s v : Nat) : Nat := (mulL s + v) % 18446744073709551616
def sdL (s v : Nat) : Nat := (addL s v + 1442695040888963407) % 18446744073709551616
theorem sdL_lt (s v : Nat) : sdL s v < 18446744073709551616 := Nat.mod_lt _ (by decide)
theorem wrapUL (x : Nat) : IntKind.u64.wrap (x : Int) = ((x % 18446744073709551616 : Nat) : Int) := by
  have : IntKind.u64.wrap (x : Int) = (x : Int) % 18446744073709551616 := by rfl
  rw [this]; rfl
theorem wrapL1 (s : Nat) : IntKind.u64.wrap (((s : Nat) : Int) * 6364136223846793005) = ((mulL s : Nat) : Int) := wrapUL (s * 6364136223846793005)
theorem wrapL2 (s v : Nat) : IntKind.u64.wrap (((mulL s : Nat) : Int) + ((v : Nat) : Int)) = ((addL s v : Nat) : Int) := wrapUL (mulL s + v)
theorem wrapL3 (s v : Nat) : IntKind.u64.wrap (((addL s v : Nat) : Int) + 1442695040888963407) = ((sdL s v : Nat) : Int) := wrapUL (addL s v + 1442695040888963407)

section
variable {P : Program} {n : Nat} {ρ : Env} {w : World} {dst : Option Tmp} {ty : TypeId} {pos : String} {af : Array Edge} {g : Option (Nat × Bool)}
theorem op_shrN {t u c : Nat} {x y : Operand} {k k' : IntKind} {a : Nat} (hx : ev ρ x = some (.int k ((a : Nat) : Int))) (hy : ev ρ y = some (.int k' ((c : Nat) : Int))) (hc : c ≤ k.bits) :
    Op1 P n ⟨dst, .binOp .shr t x y u, ty, pos, af, g⟩ ρ w (Det (.int k ((a / 2 ^ c : Nat) : Int)) w) :=
  op_bin hx hy guard_int (by
    rw [binOp_shr, shift_shr_any _ _ _ _ (by omega)]
    simp only [Sem.run_pure, Int.toNat_natCast, Nat.min_eq_left hc]
    congr 3)
theorem op_and255 {t u : Nat} {x y : Operand} {a : Nat} (hx : ev ρ x = some (.int .u64 ((a : Nat) : Int))) (hy : ev ρ y = some (.int .u64 255)) (ha : a < 18446744073709551616) :
    Op1 P n ⟨dst, .binOp .and t x y u, ty, pos, af, g⟩ ρ w (Det (.int .u64 ((a % 256 : Nat) : Int)) w) := by
  have h := op_and (P := P) (n := n) (w := w) (dst := dst) (ty := ty) (pos := pos) (af := af) (g := g) (t := t) (u := u) hx hy
  have e : bits .and .u64 ((a : Nat) : Int) 255 = ((a % 256 : Nat) : Int) := by
    have h1 := u64_and_nat a 255 ha (by decide)
    have h2 : a &&& 255 = a % 256 := Nat.and_two_pow_sub_one_eq_mod a 8
    rw [h2] at h1
    exact h1
  rw [e] at h
  exact h
end
end Go.Proofs.Ytemnjphnhmbddaa
