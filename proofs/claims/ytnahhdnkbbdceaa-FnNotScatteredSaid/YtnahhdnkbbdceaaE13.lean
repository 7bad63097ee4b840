/- The engine of this claim's walks, twelfth part: lists of records, whose cells lie one behind the other. -/
import Derived.Test.YtnahhdnkbbdceaaE11
import Derived.Test.YtnahhdnkbbdceaaE8
set_option linter.unusedVariables false
namespace Go.Proofs.Ytnahhdnkbbdceaa

section
variable {α : Type} {f : α → List Value} {m : Nat} {es : List α} {d : α} {i k : Nat}

/-- the cells of a list of records -/
def cat (f : α → List Value) : List α → List Value
  | [] => []
  | e :: es => f e ++ cat f es

theorem cat_len (hf : ∀ a, (f a).length = m) : ∀ es : List α, (cat f es).length = es.length * m
  | [] => by simp [cat]
  | e :: es => by simp only [cat, List.length_append, hf, cat_len hf es, List.length_cons, Nat.add_mul, Nat.one_mul]; omega

theorem cat_drop (hf : ∀ a, (f a).length = m) : ∀ (i : Nat) (es : List α), (cat f es).drop (i * m) = cat f (es.drop i)
  | 0, es => by simp
  | i + 1, [] => by simp [cat]
  | i + 1, e :: es => by
    rw [List.drop_succ_cons, cat, Nat.add_mul, Nat.one_mul, Nat.add_comm, ← List.drop_drop, List.drop_left' (hf e)]
    exact cat_drop hf i es

theorem cat_head (hf : ∀ a, (f a).length = m) (hi : i < es.length) : cat f (es.drop i) = f (es.getD i d) ++ cat f (es.drop (i + 1)) := by
  rw [List.drop_eq_getElem_cons hi, cat]
  congr 2
  simp [hi]

theorem cat_at (hf : ∀ a, (f a).length = m) (hi : i < es.length) : ((cat f es).drop (i * m)).take m = f (es.getD i d) := by
  rw [cat_drop hf, cat_head hf hi]
  exact List.take_left' (hf _)

theorem cat_get (hf : ∀ a, (f a).length = m) (hi : i < es.length) {v : Value} (hv : (f (es.getD i d))[k]? = some v) : (cat f es)[i * m + k]? = some v := by
  have h1 : k < m := by rw [← hf (es.getD i d)]; exact (List.getElem?_eq_some_iff.1 hv).1
  rw [← List.getElem?_drop, cat_drop hf, cat_head (d := d) hf hi, List.getElem?_append_left (by rw [hf]; exact h1)]
  exact hv
theorem cat_get0 (hf : ∀ a, (f a).length = m) (hi : i < es.length) {v : Value} (hv : (f (es.getD i d))[0]? = some v) : (cat f es)[i * m]? = some v := cat_get (k := 0) hf hi hv

theorem cat_fit (hf : ∀ a, (f a).length = m) {n : Nat} (hl : es.length = n) (hi : i < n) : i * m + m ≤ (cat f es).length := by
  rw [cat_len hf, hl]
  calc i * m + m = (i + 1) * m := by rw [Nat.add_mul, Nat.one_mul]
    _ ≤ n * m := Nat.mul_le_mul_right _ (by omega)

theorem cat_app : ∀ (xs ys : List α), cat f (xs ++ ys) = cat f xs ++ cat f ys
  | [], ys => rfl
  | x :: xs, ys => by rw [List.cons_append, cat, cat, cat_app xs ys, List.append_assoc]

theorem cat_take (hf : ∀ a, (f a).length = m) : ∀ (i : Nat) (es : List α), (cat f es).take (i * m) = cat f (es.take i)
  | 0, es => by simp [cat]
  | i + 1, [] => by simp [cat]
  | i + 1, e :: es => by
    rw [List.take_succ_cons, cat, cat, Nat.add_mul, Nat.one_mul, Nat.add_comm, ← cat_take hf i es]
    rw [List.take_append, hf, List.take_of_length_le (by rw [hf]; omega)]
    congr 2; omega

/-- a record is overwritten -/
theorem cat_set (hf : ∀ a, (f a).length = m) {n : Nat} (hl : es.length = n) (hi : i < n) (a : α) : splice (cat f es) (i * m) (f a) = cat f (es.set i a) := by
  have hi' : i < es.length := by omega
  unfold splice
  rw [hf, cat_take hf, show i * m + m = (i + 1) * m by rw [Nat.add_mul, Nat.one_mul], cat_drop hf, List.set_eq_take_append_cons_drop, if_pos hi', cat_app, List.append_assoc]
  rfl

/-- a record as a part of the block -/
theorem cat_part (hf : ∀ a, (f a).length = m) {n : Nat} (hl : es.length = n) (hi : i < n) : cat f es = splice (cat f es) (i * m) (f (es.getD i d)) := by
  rw [cat_set hf hl hi]
  congr 1
  apply List.ext_getElem?
  intro j
  by_cases e : i = j
  · subst e; simp [hl, hi]
  · rw [List.getElem?_set_ne e]

/-- the first `i` records of a list, then `d` -/
def fillR (d : α) (xs : List α) (i : Nat) : List α := xs.take i ++ List.replicate (xs.length - i) d
end

/-- two texts are the same -/
def sEq (a b : ByteArray) : Bool := a.toList == b.toList
section
variable {P : Program} {n : Nat} {ρ : Env} {w : World} {dst : Option Tmp} {ty : TypeId} {pos : String} {af : Array Edge} {g : Option (Nat × Bool)}

end
end Go.Proofs.Ytnahhdnkbbdceaa

/- The engine of this claim's walks, thirteenth part: slices of records that come in. -/
namespace Go.Proofs.Ytnahhdnkbbdceaa

theorem isSl_recs {α : Type} {f : α → List Value} {es : List Lf} {Pr : α → Prop} {w : World} {v : Value} (hmk : ∀ cs, Cells w es cs → ∃ a, cs = f a ∧ Pr a) (h : isSl es w v) :
    ∃ A n c b o xs, v = .slice A n c ∧ (0 < n → A = some ⟨b, o, none⟩) ∧ n ≤ c ∧ c ≤ maxLen ∧ (A = none → c = 0) ∧ xs.length = n ∧ Rng w b o (cat f xs) ∧ ∀ x ∈ xs, Pr x := by
  obtain ⟨A, n, c, b, o, vs, rfl, hA, hn, hc, hz, hl, hr, hcell⟩ := h
  have key : ∀ (n : Nat) (vs : List Value), vs.length = n * es.length → (∀ i, i < n → Cells w es ((vs.drop (i * es.length)).take es.length)) → ∃ xs : List α, vs = cat f xs ∧ xs.length = n ∧ ∀ x ∈ xs, Pr x := by
    intro n
    induction n with
    | zero => intro vs hl _; exact ⟨[], List.eq_nil_of_length_eq_zero (by simpa using hl), rfl, by simp⟩
    | succ n ih =>
      intro vs hl hc
      obtain ⟨a, ha, hp⟩ := hmk _ (by simpa using hc 0 (by omega))
      obtain ⟨xs, hxs, hn, hP⟩ := ih (vs.drop es.length) (by rw [List.length_drop, hl, Nat.add_mul]; omega) (fun i hi => by
        have := hc (i + 1) (by omega)
        rwa [Nat.add_mul, Nat.one_mul, Nat.add_comm, ← List.drop_drop] at this)
      refine ⟨a :: xs, ?_, by simp [hn], fun x hx => ?_⟩
      · rw [cat, ← ha, ← hxs, List.take_append_drop]
      · rcases List.mem_cons.1 hx with rfl | h
        · exact hp
        · exact hP x h
  obtain ⟨xs, rfl, h1, h2⟩ := key n vs hl hcell
  exact ⟨A, n, c, b, o, xs, rfl, hA, hn, hc, hz, h1, hr, h2⟩

theorem getD_all {α : Type} {Pr : α → Prop} {d : α} {xs : List α} (h : ∀ x ∈ xs, Pr x) (hd : Pr d) (i : Nat) : Pr (xs.getD i d) := by
  by_cases hi : i < xs.length
  · rw [List.getD_eq_getElem?_getD, List.getElem?_eq_getElem hi]; exact h _ (List.getElem_mem _)
  · rw [List.getD_eq_getElem?_getD, List.getElem?_eq_none (by omega)]; exact hd

end Go.Proofs.Ytnahhdnkbbdceaa
