/- The engine of this claim's walks, twelfth part: lists of records, whose cells lie one behind the other. -/
import Derived.Test.YteonmpphpeopiaaDoorE11
set_option linter.unusedVariables false
namespace Go.Proofs.YteonmpphpeopiaaDoor

section
variable {α : Type} {f : α → List Value} {m : Nat} {es : List α} {d : α} {i k : Nat}

/-- the cells of a list of records -/
def cat (f : α → List Value) : List α → List Value
  | [] => []
  | e :: es => f e ++ cat f es

theorem cat_len (hf : ∀ a, (f a).length = m) : ∀ es : List α, (cat f es).length = es.length * m
  | [] => by simp [cat]
  | e :: es => by simp only [cat, List.length_append, hf, cat_len hf es, List.length_cons, Nat.add_mul, Nat.one_mul]; omega

theorem cat_drop (hf : ∀ a, (f a).length = m) : ∀ (i : Nat) (es : List α), (cat f es).drop (i * m) = cat f (es.drop i)
  | 0, es => by simp
  | i + 1, [] => by simp [cat]
  | i + 1, e :: es => by
    rw [List.drop_succ_cons, cat, Nat.add_mul, Nat.one_mul, Nat.add_comm, ← List.drop_drop, List.drop_left' (hf e)]
    exact cat_drop hf i es

theorem cat_head (hf : ∀ a, (f a).length = m) (hi : i < es.length) : cat f (es.drop i) = f (es.getD i d) ++ cat f (es.drop (i + 1)) := by
  rw [List.drop_eq_getElem_cons hi, cat]
  congr 2
  simp [hi]

theorem cat_at (hf : ∀ a, (f a).length = m) (hi : i < es.length) : ((cat f es).drop (i * m)).take m = f (es.getD i d) := by
  rw [cat_drop hf, cat_head hf hi]
  exact List.take_left' (hf _)

theorem cat_get (hf : ∀ a, (f a).length = m) (hi : i < es.length) {v : Value} (hv : (f (es.getD i d))[k]? = some v) : (cat f es)[i * m + k]? = some v := by
  have h1 : k < m := by rw [← hf (es.getD i d)]; exact (List.getElem?_eq_some_iff.1 hv).1
  rw [← List.getElem?_drop, cat_drop hf, cat_head (d := d) hf hi, List.getElem?_append_left (by rw [hf]; exact h1)]
  exact hv
theorem cat_get0 (hf : ∀ a, (f a).length = m) (hi : i < es.length) {v : Value} (hv : (f (es.getD i d))[0]? = some v) : (cat f es)[i * m]? = some v := cat_get (k := 0) hf hi hv

theorem cat_fit (hf : ∀ a, (f a).length = m) {n : Nat} (hl : es.length = n) (hi : i < n) : i * m + m ≤ (cat f es).length := by
  rw [cat_len hf, hl]
  calc i * m + m = (i + 1) * m := by rw [Nat.add_mul, Nat.one_mul]
    _ ≤ n * m := Nat.mul_le_mul_right _ (by omega)

theorem cat_app : ∀ (xs ys : List α), cat f (xs ++ ys) = cat f xs ++ cat f ys
  | [], ys => rfl
  | x :: xs, ys => by rw [List.cons_append, cat, cat, cat_app xs ys, List.append_assoc]

theorem cat_take (hf : ∀ a, (f a).length = m) : ∀ (i : Nat) (es : List α), (cat f es).take (i * m) = cat f (es.take i)
  | 0, es => by simp [cat]
  | i + 1, [] => by simp [cat]
  | i + 1, e :: es => by
    rw [List.take_succ_cons, cat, cat, Nat.add_mul, Nat.one_mul, Nat.add_comm, ← cat_take hf i es]
    rw [List.take_append, hf, List.take_of_length_le (by rw [hf]; omega)]
    congr 2; omega

/-- a record is overwritten -/
theorem cat_set (hf : ∀ a, (f a).length = m) {n : Nat} (hl : es.length = n) (hi : i < n) (a : α) : splice (cat f es) (i * m) (f a) = cat f (es.set i a) := by
  have hi' : i < es.length := by omega
  unfold splice
  rw [hf, cat_take hf, show i * m + m = (i + 1) * m by rw [Nat.add_mul, Nat.one_mul], cat_drop hf, List.set_eq_take_append_cons_drop, if_pos hi', cat_app, List.append_assoc]
  rfl

/-- a record as a part of the block -/
theorem cat_part (hf : ∀ a, (f a).length = m) {n : Nat} (hl : es.length = n) (hi : i < n) : cat f es = splice (cat f es) (i * m) (f (es.getD i d)) := by
  rw [cat_set hf hl hi]
  congr 1
  apply List.ext_getElem?
  intro j
  by_cases e : i = j
  · subst e; simp [hl, hi]
  · rw [List.getElem?_set_ne e]

theorem cat_rep (n : Nat) : cat f (List.replicate n d) = (List.replicate n (f d)).flatten := by
  induction n with
  | zero => rfl
  | succ n ih => rw [List.replicate_succ, List.replicate_succ, List.flatten_cons, cat, ih]

/-- the first `i` records of a list, then `d` -/
def fillR (d : α) (xs : List α) (i : Nat) : List α := xs.take i ++ List.replicate (xs.length - i) d
theorem fillR_len {xs : List α} {n : Nat} (hl : xs.length = n) (h : i ≤ n) : (fillR d xs i).length = n := by simp [fillR]; omega
theorem fillR_zero {xs : List α} {n : Nat} (hl : xs.length = n) : cat f (List.replicate n d) = cat f (fillR d xs 0) := by subst hl; simp [fillR]
theorem fillR_done {xs : List α} {n : Nat} (hl : xs.length = n) (h : n ≤ i) : cat f (fillR d xs i) = cat f xs := by
  subst hl
  unfold fillR
  rw [List.take_of_length_le h, show xs.length - i = 0 by omega]
  simp
theorem fillR_set {xs : List α} {n : Nat} (hl : xs.length = n) (hi : i < n) : cat f ((fillR d xs i).set i (xs.getD i d)) = cat f (fillR d xs (i + 1)) := by
  subst hl
  congr 1
  unfold fillR
  have h1 : (xs.take i).length = i := by simp; omega
  rw [List.set_append_right _ _ (by omega), h1, Nat.sub_self, show xs.length - i = (xs.length - (i + 1)) + 1 by omega, List.replicate_succ, List.set_cons_zero]
  rw [List.take_add_one]
  have : xs[i]? = some (xs.getD i d) := by simp [hi]
  rw [this]
  simp
end

/-- two texts are the same -/
def sEq (a b : ByteArray) : Bool := a.toList == b.toList
theorem sEq_self (a : ByteArray) : sEq a a = true := by simp [sEq]

section
variable {P : Program} {n : Nat} {ρ : Env} {w : World} {dst : Option Tmp} {ty : TypeId} {pos : String} {af : Array Edge} {g : Option (Nat × Bool)}

theorem madeRecs {α : Type} (f : α → List Value) (d : α) (z : Value) (hz : z.cells.toList = f d) (h0 : 0 < (f d).length) (m : Nat) : (madeCells z.cells (m * (f d).length)).toList = cat f (List.replicate m d) := by
  have hs : z.cells.size = (f d).length := by rw [← hz]; simp
  apply List.ext_getElem?
  intro i
  unfold madeCells
  rw [hs]
  by_cases h : i < m * (f d).length
  · have hm : 0 < (f d).length := h0
    have h1 : i / (f d).length < m := Nat.div_lt_of_lt_mul (by rwa [Nat.mul_comm])
    have h2 : i % (f d).length < (f d).length := Nat.mod_lt _ hm
    have key : ∀ (m q r : Nat), q < m → r < (f d).length → (cat f (List.replicate m d))[q * (f d).length + r]? = (f d)[r]? := by
      intro m q r hq hr
      induction m generalizing q with
      | zero => omega
      | succ m ih =>
        rw [List.replicate_succ, cat]
        cases q with
        | zero => rw [Nat.zero_mul, Nat.zero_add, List.getElem?_append_left hr]
        | succ q =>
          rw [List.getElem?_append_right (by rw [Nat.add_mul]; omega), Nat.add_mul, Nat.one_mul]
          rw [show q * (f d).length + (f d).length + r - (f d).length = q * (f d).length + r by omega]
          exact ih q (by omega)
    have hi : i = i / (f d).length * (f d).length + i % (f d).length := by rw [Nat.mul_comm]; exact (Nat.div_add_mod i _).symm
    rw [show (cat f (List.replicate m d))[i]? = (f d)[i % (f d).length]? by conv => lhs; rw [hi]
                                                                            exact key m _ _ h1 h2]
    simp only [Array.toList_map, Array.toList_range, List.getElem?_map, List.getElem?_range h, Option.map_some]
    rw [← hz]
    have h3 : i % z.cells.size < z.cells.size := Nat.mod_lt _ (by omega)
    have h4 : i % z.cells.toList.length < z.cells.size := by simpa using h3
    simp only [Array.getElem?_toList, getElem!_pos, h4, Array.getElem?_eq_getElem]
  · have hl : (cat f (List.replicate m d)).length ≤ i := by
      have : ∀ m, (cat f (List.replicate m d)).length = m * (f d).length := by
        intro m
        induction m with
        | zero => simp [cat]
        | succ m ih => rw [List.replicate_succ, cat, List.length_append, ih, Nat.add_mul, Nat.one_mul]; omega
      rw [this]; omega
    rw [List.getElem?_eq_none hl]
    simp [h]

/-- 'make([]T, n)' of records -/
theorem op_makeR {α : Type} {f : α → List Value} {d : α} {t e m sz bt : Nat} {x y : Operand} {i : TypeInfo} {z : Value} {k k' : IntKind} {a b : Int} (hx : ev ρ x = some (.int k a)) (hy : ev ρ y = some (.int k' b)) (ha : a = (m : Int)) (hb : b = (m : Int))
    (ht : P.underlying t = some (.slice e)) (hi : P.info? e = some i) (hz : i.zero = some z) (hzc : z.cells.toList = f d) (hsz : (f d).length = sz) (h0 : 0 < sz) (hs : i.size = sz) (hby : i.bytes = bt) (hbt : bt ≤ 4096) (hm : m ≤ 16777216) :
    Op1 P n ⟨dst, .makeSlice t x y, ty, pos, af, g⟩ ρ w (fun u w' => u = .slice (some ⟨w.heap.size, 0, none⟩) m m ∧ Row w' w.heap.size 0 (cat f (List.replicate m d)) ∧ Mod [] w w' ∧ w.heap.size < w'.heap.size) := by
  subst ha hb
  have hmb : m * bt ≤ 16777216 * 4096 := Nat.mul_le_mul hm hbt
  have hr := run_make (P := P) w t e i _ ht hi hz k k' m m (by omega) (by omega) (by rw [hby, ← Int.natCast_mul, Nat.mul_comm]; omega) (by omega)
  rw [Int.toNat_natCast, hs] at hr
  refine op_run (v := .slice (some ⟨w.heap.size, 0, none⟩) m m) (w' := w.alloc (.cells (madeCells z.cells (m * sz)) e)) (fun a ha => ?_) ⟨rfl, ?_, Mod.alloc _ _, by simp⟩
  · simp only [execOp, ha.ev hx, ha.ev hy, Sem.run_bind, hr, Result.andThen_ok, Sem.run_pure]
  · rw [← madeRecs f d z hzc (by omega), hsz]; exact Row.new w _ e

theorem run_eq_string (w : World) (t : TypeId) (a b : ByteArray) : (binOp .eql t (.string a) (.string b)).run P w = .ok (.bool (sEq a b)) w := by
  simp [binOp, Op.stringOp, sEq]
theorem run_ne_string (w : World) (t : TypeId) (a b : ByteArray) : (binOp .neq t (.string a) (.string b)).run P w = .ok (.bool (!(sEq a b))) w := by
  simp [binOp, Op.stringOp, sEq]
theorem op_eqs {t u : Nat} {x y : Operand} {a b : ByteArray} (hx : ev ρ x = some (.string a)) (hy : ev ρ y = some (.string b)) : Op1 P n ⟨dst, .binOp .eql t x y u, ty, pos, af, g⟩ ρ w (Det (.bool (sEq a b)) w) :=
  op_bin hx hy guard_string (run_eq_string w t a b)
theorem op_nes {t u : Nat} {x y : Operand} {a b : ByteArray} (hx : ev ρ x = some (.string a)) (hy : ev ρ y = some (.string b)) : Op1 P n ⟨dst, .binOp .neq t x y u, ty, pos, af, g⟩ ρ w (Det (.bool (!(sEq a b))) w) :=
  op_bin hx hy guard_string (run_ne_string w t a b)
end
end Go.Proofs.YteonmpphpeopiaaDoor
