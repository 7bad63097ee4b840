/- The engine of this claim's walks, thirty-first part: the greater of two whole numbers. -/
import Derived.Test.YtdopidalhkcefaaDoorE12
import Derived.Laws.BytesArg
set_option linter.unusedVariables false
set_option linter.unusedSimpArgs false
namespace Go.Proofs.YtdopidalhkcefaaDoor
section
variable {P : Program} {n : Nat} {ρ : Env} {w : World} {dst : Option Tmp} {ty : TypeId} {pos : String} {af : Array Edge} {g : Option (Nat × Bool)}
theorem op_maxI {ts : Array TypeId} {x y : Operand} {k : IntKind} {a b : Int} (hx : ev ρ x = some (.int k a)) (hy : ev ρ y = some (.int k b)) :
    Op1 P n ⟨dst, .call { callee := .builtin .max, args := #[x, y], argTypes := ts }, ty, pos, af, g⟩ ρ w (Det (.int k (max a b)) w) := by
  have hrun : (Builtin.max_ ts ty #[.int k a, .int k b]).run P w = .ok (.int k (max a b)) w := by
    simp [Builtin.max_, Builtin.max2]
    omega
  exact op_run (fun c hc => by simp only [execOp, resolve, invoke, builtin, List.map_toArray, List.map_cons, List.map_nil, hc.ev hx, hc.ev hy, Sem.run_bind, Sem.run_pure, Result.andThen_ok, hrun]) ⟨rfl, rfl⟩
theorem op_strAdd {t u : Nat} {x y : Operand} {a b : ByteArray} (hx : ev ρ x = some (.string a)) (hy : ev ρ y = some (.string b)) (h : a.size + b.size ≤ 9223372036854775807) : Op1 P n ⟨dst, .binOp .add t x y u, ty, pos, af, g⟩ ρ w (Det (.string (a ++ b)) w) := by
  refine op_bin hx hy guard_string ?_
  have k : ¬ ((a.size + b.size : Nat) : Int) > IntKind.i64.max := by
    have e : IntKind.i64.max = 9223372036854775807 := rfl
    omega
  simp only [binOp, Op.stringOp, if_neg k]; rfl
theorem op_byteStr {s d e b c : Nat} {x : Operand} {z : Int} (hx : ev ρ x = some (.slice (some ⟨b, 0, none⟩) 1 c)) (hs : P.underlying s = some (.slice e)) (he : P.underlying e = some (.int .u8)) (hd : P.underlying d = some .string) (hr : Rng w b 0 [.int .u8 z]) :
    Op1 P n ⟨dst, .convert s d x, ty, pos, af, g⟩ ρ w (Det (.string (strOfNums [z])) w) := by
  have hrun := run_convert_bytes_arg (P := P) w s e hs he b 0 1 c [z] rfl (fun i hi => by
    obtain rfl : i = 0 := by omega
    exact hr 0 _ rfl) d hd
  exact op_run (fun a ha => by simp [execOp, ha.ev hx, hrun, Sem.run_bind, Result.andThen]) ⟨rfl, rfl⟩
end
theorem str_size (a b : ByteArray) : (a ++ b).size = a.size + b.size := ByteArray.size_append
theorem nums_size (z : Int) : (strOfNums [z]).size = 1 := rfl
end Go.Proofs.YtdopidalhkcefaaDoor
