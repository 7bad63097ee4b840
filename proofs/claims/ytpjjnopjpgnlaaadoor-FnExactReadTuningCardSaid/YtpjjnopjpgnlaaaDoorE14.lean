/- The engine of this claim's walks, thirteenth part: slices of records that come in. -/
import Derived.Test.YtpjjnopjpgnlaaaDoorE8
import Derived.Test.YtpjjnopjpgnlaaaDoorE32
namespace Go.Proofs.YtpjjnopjpgnlaaaDoor

theorem getD_all {α : Type} {Pr : α → Prop} {d : α} {xs : List α} (h : ∀ x ∈ xs, Pr x) (hd : Pr d) (i : Nat) : Pr (xs.getD i d) := by
  by_cases hi : i < xs.length
  · rw [List.getD_eq_getElem?_getD, List.getElem?_eq_getElem hi]; exact h _ (List.getElem_mem _)
  · rw [List.getD_eq_getElem?_getD, List.getElem?_eq_none (by omega)]; exact hd

end Go.Proofs.YtpjjnopjpgnlaaaDoor

/- The engine of this claim's walks, twenty-third part: records at places that are sums. -/
set_option linter.unusedVariables false
namespace Go.Proofs.YtpjjnopjpgnlaaaDoor

section
variable {P : Program} {n : Nat} {ρ : Env} {w : World} {dst : Option Tmp} {ty : TypeId} {pos : String} {af : Array Edge} {g : Option (Nat × Bool)}
end
end Go.Proofs.YtpjjnopjpgnlaaaDoor

/- The engine of this claim's walks, fourteenth part: bytes, and the numbers that are drawn of them. -/
namespace Go.Proofs.YtpjjnopjpgnlaaaDoor

/-- cells of bytes -/
def bys (xs : List Nat) : List Value := cat (fun x : Nat => [Value.int .u8 ((x : Nat) : Int)]) xs
theorem bys_get {xs : List Nat} {i : Nat} (h : i < xs.length) : (bys xs)[i]? = some (.int .u8 ((xs.getD i 0 : Nat) : Int)) := by
  have := cat_get0 (f := fun x : Nat => [Value.int .u8 ((x : Nat) : Int)]) (m := 1) (d := 0) (fun _ => rfl) h (v := .int .u8 ((xs.getD i 0 : Nat) : Int)) rfl
  rwa [Nat.mul_one] at this
theorem w_u64 {i : Int} (h0 : 0 ≤ i) (h1 : i ≤ 18446744073709551615) : IntKind.u64.wrap i = i := by
  have e : IntKind.u64.wrap i = i % 18446744073709551616 := by rfl
  rw [e]; omega

/-! ### The next seed -/
def mulL (s : Nat) : Nat := (s * 6364136223846793005) % 18446744073709551616
def addL (s v : Nat) : Nat := (mulL s + v) % 18446744073709551616
def sdL (s v : Nat) : Nat := (addL s v + 1442695040888963407) % 18446744073709551616
section
variable {P : Program} {n : Nat} {ρ : Env} {w : World} {dst : Option Tmp} {ty : TypeId} {pos : String} {af : Array Edge} {g : Option (Nat × Bool)}
theorem op_shrN {t u c : Nat} {x y : Operand} {k k' : IntKind} {a : Nat} (hx : ev ρ x = some (.int k ((a : Nat) : Int))) (hy : ev ρ y = some (.int k' ((c : Nat) : Int))) (hc : c ≤ k.bits) :
    Op1 P n ⟨dst, .binOp .shr t x y u, ty, pos, af, g⟩ ρ w (Det (.int k ((a / 2 ^ c : Nat) : Int)) w) :=
  op_bin hx hy guard_int (by
    rw [binOp_shr, shift_shr_any _ _ _ _ (by omega)]
    simp only [Sem.run_pure, Int.toNat_natCast, Nat.min_eq_left hc]
    congr 3)
end
end Go.Proofs.YtpjjnopjpgnlaaaDoor
