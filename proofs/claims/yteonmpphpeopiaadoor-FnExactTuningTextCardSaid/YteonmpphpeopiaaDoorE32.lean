/- The engine of this claim's walks, thirty-second part: texts that are put together; own slices beside younger memory. -/
import Derived.Test.YteonmpphpeopiaaDoorE11
import Derived.Test.YteonmpphpeopiaaDoorE12
import Derived.Laws.BytesArg
set_option linter.unusedVariables false
set_option linter.unusedSimpArgs false
namespace Go.Proofs.YteonmpphpeopiaaDoor
section
variable {P : Program} {n : Nat} {ρ : Env} {w : World} {dst : Option Tmp} {ty : TypeId} {pos : String} {af : Array Edge} {g : Option (Nat × Bool)}
theorem op_strAdd {t u : Nat} {x y : Operand} {a b : ByteArray} (hx : ev ρ x = some (.string a)) (hy : ev ρ y = some (.string b)) (h : a.size + b.size ≤ 9223372036854775807) : Op1 P n ⟨dst, .binOp .add t x y u, ty, pos, af, g⟩ ρ w (Det (.string (a ++ b)) w) := by
  refine op_bin hx hy guard_string ?_
  have k : ¬ ((a.size + b.size : Nat) : Int) > IntKind.i64.max := by
    have e : IntKind.i64.max = 9223372036854775807 := rfl
    omega
  simp only [binOp, Op.stringOp, if_neg k]; rfl
theorem op_byteStr {s d e b c : Nat} {x : Operand} {z : Int} (hx : ev ρ x = some (.slice (some ⟨b, 0, none⟩) 1 c)) (hs : P.underlying s = some (.slice e)) (he : P.underlying e = some (.int .u8)) (hd : P.underlying d = some .string) (hr : Rng w b 0 [.int .u8 z]) :
    Op1 P n ⟨dst, .convert s d x, ty, pos, af, g⟩ ρ w (Det (.string (strOfNums [z])) w) := by
  have hrun := run_convert_bytes_arg (P := P) w s e hs he b 0 1 c [z] rfl (fun i hi => by
    obtain rfl : i = 0 := by omega
    exact hr 0 _ rfl) d hd
  exact op_run (fun a ha => by simp [execOp, ha.ev hx, hrun, Sem.run_bind, Result.andThen]) ⟨rfl, rfl⟩
end
theorem Own.mod2 {e : TypeId} {m lo : Nat} {w0 w w' : World} {A : Option Addr} {n c : Nat} {xs : List Value} {S : List Nat} (h0 : Own e m lo w0 A n c xs) (h : Own e m lo w A n c xs) (k : Mod S w w') (hS : ∀ x, x ∈ S → x < lo ∨ w0.heap.size ≤ x) : Own e m lo w' A n c xs := by
  refine ⟨h.len, ?_⟩
  rcases h0.own with h1 | ⟨g', cur', k1, k2, k3, k4⟩
  · exact .inl h1
  · rcases h.own with h1 | ⟨g, cur, h1, h2, h3, h4⟩
    · exact .inl h1
    · obtain rfl : g' = g := by rw [h1] at k1; simpa using k1.symm
      have lt := (Array.getElem?_eq_some_iff.1 k3).1
      refine .inr ⟨g', cur, h1, h2, ?_, h4⟩
      rw [k.block g' (Array.getElem?_eq_some_iff.1 h3).1 fun hm => by rcases hS g' hm with c | c <;> omega]
      exact h3
theorem aoN2 {lo z : Nat} : ∀ x, x ∈ ([] : List Nat) → x < lo ∨ z ≤ x := fun x hx => by cases hx
theorem aoC2 {lo z b : Nat} {S : List Nat} (h : b < lo ∨ z ≤ b) (hs : ∀ x, x ∈ S → x < lo ∨ z ≤ x) : ∀ x, x ∈ b :: S → x < lo ∨ z ≤ x := fun x hx => by
  rcases List.mem_cons.1 hx with rfl | hx
  · exact h
  · exact hs x hx
theorem w_u8 {i : Int} (h0 : 0 ≤ i) (h1 : i ≤ 255) : IntKind.u8.wrap i = i := by
  have a : IntKind.u8.wrap i = i % 256 := rfl
  rw [a]; omega
theorem str_size (a b : ByteArray) : (a ++ b).size = a.size + b.size := ByteArray.size_append
theorem nums_size (z : Int) : (strOfNums [z]).size = 1 := rfl
end Go.Proofs.YteonmpphpeopiaaDoor
