/- Arrays of floats that are compared. -/
import Derived.Test.YtemnjphnhmbddaaE4
import Derived.Laws.StructEq
set_option linter.unusedVariables false
set_option linter.unusedSimpArgs false
namespace Go.Proofs.Ytemnjphnhmbddaa

/-- the first `n` words of two lists are equal as numbers -/
def allEq (xs ys : List Nat) (n : Nat) : Bool := (List.range n).all fun i => fEq .f32 (xs.getD i 0) (ys.getD i 0)
section
variable {P : Program} (w : World)
theorem run_equalIn_f32 (d : Nat) (e : TypeId) (a b : Nat) (he : P.underlying e = some (.float .f32)) : (Op.equalIn (d + 1) e (.float .f32 a) (.float .f32 b)).run P w = .ok (fEq .f32 a b) w := by
  simp [Op.equalIn, run_underlying he, Op.floatEq, fEq]
theorem run_equalIn_floats (d : Nat) (t e : TypeId) (n : Nat) (ht : P.underlying t = some (.array n e)) (he : P.underlying e = some (.float .f32)) (hsz : ∀ w, (sizeOf e).run P w = .ok 1 w)
    (xs ys : List Nat) (hx : xs.length = n) (hy : ys.length = n) :
    (Op.equalIn (d + 2) t (.agg (fl xs).toArray) (.agg (fl ys).toArray)).run P w = .ok (allEq xs ys n) w := by
  unfold allEq
  rw [List.range_eq_range', Op.equalIn]
  simp only [Sem.run_bind, run_underlying ht, Result.andThen_ok, hsz, Std.Legacy.Range.forIn_eq_forIn_range', Std.Legacy.Range.size, Nat.sub_zero, Nat.add_sub_cancel, Nat.div_one]
  have hl : ∀ i ∈ List.range' 0 n 1, i < n := fun i hi => by simpa using (List.mem_range'_1.1 hi).2
  generalize List.range' 0 n 1 = l at hl ⊢
  induction l with
  | nil => simp
  | cons i l ih =>
    have hi : i < n := hl i (by simp)
    have px : (part e (fl xs).toArray (i * 1)).run P w = .ok (.float .f32 (xs.getD i 0)) w := by
      simp [part, isAgg, run_underlying he, fl, List.getD, List.getElem?_eq_getElem (show i < xs.length by omega)]
    have py : (part e (fl ys).toArray (i * 1)).run P w = .ok (.float .f32 (ys.getD i 0)) w := by
      simp [part, isAgg, run_underlying he, fl, List.getD, List.getElem?_eq_getElem (show i < ys.length by omega)]
    simp only [List.forIn_cons, Sem.run_bind, px, py, run_equalIn_f32 w d e _ _ he, Result.andThen_ok, List.all_cons]
    cases hb : fEq .f32 (xs.getD i 0) (ys.getD i 0)
    · simp
    · simp only [Bool.not_true, Bool.false_eq_true, if_false, Sem.run_pure, Result.andThen_ok, Bool.true_and]
      exact ih fun j hj => hl j (by simp [hj])
end
section
variable {P : Program} {n : Nat} {ρ : Env} {w : World} {dst : Option Tmp} {ty : TypeId} {pos : String} {af : Array Edge} {g : Option (Nat × Bool)}
theorem op_neA {t e u m : Nat} {x y : Operand} {xs ys : List Nat} {c : Bool} (hx : ev ρ x = some (.agg (fl xs).toArray)) (hy : ev ρ y = some (.agg (fl ys).toArray)) (hg : P.eqGuardType P.depth t = false) (ht : P.underlying t = some (.array m e)) (he : P.underlying e = some (.float .f32)) (hsz : ∀ w, (sizeOf e).run P w = .ok 1 w) (lx : xs.length = m) (ly : ys.length = m) (hc : allEq xs ys m = c) :
    Op1 P n ⟨dst, .binOp .neq t x y u, ty, pos, af, g⟩ ρ w (Det (.bool (!c)) w) :=
  op_bin hx hy (fun w => run_eqGuard_agg w _ _ _ _ _ _ hg) (by rw [run_neq_struct, run_equalIn_floats w 9998 t e m ht he hsz xs ys lx ly, hc]; rfl)
end
theorem allEq_of {xs ys : List Nat} {n : Nat} (h : ∀ i, i < n → fEq .f32 (xs.getD i 0) (ys.getD i 0) = true) : allEq xs ys n = true := List.all_eq_true.2 fun i hi => h i (by simpa using hi)
end Go.Proofs.Ytemnjphnhmbddaa
