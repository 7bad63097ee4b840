/- The engine of this claim's walks, twelfth part: lists of records, whose cells lie one behind the other. -/
import Derived.Test.YtemnjphnhmbddaaE11
import Derived.Test.YtemnjphnhmbddaaE8
set_option linter.unusedVariables false
namespace Go.Proofs.Ytemnjphnhmbddaa

section
variable {α : Type} {f : α → List Value} {m : Nat} {es : List α} {d : α} {i k : Nat}

/-- the cells of a list of records -/
def cat (f : α → List Value) : List α → List Value
  | [] => []
  | e :: es => f e ++ cat f es

theorem cat_drop (hf : ∀ a, (f a).length = m) : ∀ (i : Nat) (es : List α), (cat f es).drop (i * m) = cat f (es.drop i)
  | 0, es => by simp
  | i + 1, [] => by simp [cat]
  | i + 1, e :: es => by
    rw [List.drop_succ_cons, cat, Nat.add_mul, Nat.one_mul, Nat.add_comm, ← List.drop_drop, List.drop_left' (hf e)]
    exact cat_drop hf i es

theorem cat_head (hf : ∀ a, (f a).length = m) (hi : i < es.length) : cat f (es.drop i) = f (es.getD i d) ++ cat f (es.drop (i + 1)) := by
  rw [List.drop_eq_getElem_cons hi, cat]
  congr 2
  simp [hi]

theorem cat_get (hf : ∀ a, (f a).length = m) (hi : i < es.length) {v : Value} (hv : (f (es.getD i d))[k]? = some v) : (cat f es)[i * m + k]? = some v := by
  have h1 : k < m := by rw [← hf (es.getD i d)]; exact (List.getElem?_eq_some_iff.1 hv).1
  rw [← List.getElem?_drop, cat_drop hf, cat_head (d := d) hf hi, List.getElem?_append_left (by rw [hf]; exact h1)]
  exact hv
theorem cat_get0 (hf : ∀ a, (f a).length = m) (hi : i < es.length) {v : Value} (hv : (f (es.getD i d))[0]? = some v) : (cat f es)[i * m]? = some v := cat_get (k := 0) hf hi hv

/-- the first `i` records of a list, then `d` -/
def fillR (d : α) (xs : List α) (i : Nat) : List α := xs.take i ++ List.replicate (xs.length - i) d
end

/-- two texts are the same -/
def sEq (a b : ByteArray) : Bool := a.toList == b.toList
section
variable {P : Program} {n : Nat} {ρ : Env} {w : World} {dst : Option Tmp} {ty : TypeId} {pos : String} {af : Array Edge} {g : Option (Nat × Bool)}

end
end Go.Proofs.Ytemnjphnhmbddaa

/- The engine of this claim's walks, thirteenth part: slices of records that come in. -/
namespace Go.Proofs.Ytemnjphnhmbddaa

theorem isSl_recs {α : Type} {f : α → List Value} {es : List Lf} {Pr : α → Prop} {w : World} {v : Value} (hmk : ∀ cs, Cells w es cs → ∃ a, cs = f a ∧ Pr a) (h : isSl es w v) :
    ∃ A n c b o xs, v = .slice A n c ∧ (0 < n → A = some ⟨b, o, none⟩) ∧ n ≤ c ∧ c ≤ maxLen ∧ (A = none → c = 0) ∧ xs.length = n ∧ Rng w b o (cat f xs) ∧ ∀ x ∈ xs, Pr x := by
  obtain ⟨A, n, c, b, o, vs, rfl, hA, hn, hc, hz, hl, hr, hcell⟩ := h
  have key : ∀ (n : Nat) (vs : List Value), vs.length = n * es.length → (∀ i, i < n → Cells w es ((vs.drop (i * es.length)).take es.length)) → ∃ xs : List α, vs = cat f xs ∧ xs.length = n ∧ ∀ x ∈ xs, Pr x := by
    intro n
    induction n with
    | zero => intro vs hl _; exact ⟨[], List.eq_nil_of_length_eq_zero (by simpa using hl), rfl, by simp⟩
    | succ n ih =>
      intro vs hl hc
      obtain ⟨a, ha, hp⟩ := hmk _ (by simpa using hc 0 (by omega))
      obtain ⟨xs, hxs, hn, hP⟩ := ih (vs.drop es.length) (by rw [List.length_drop, hl, Nat.add_mul]; omega) (fun i hi => by
        have := hc (i + 1) (by omega)
        rwa [Nat.add_mul, Nat.one_mul, Nat.add_comm, ← List.drop_drop] at this)
      refine ⟨a :: xs, ?_, by simp [hn], fun x hx => ?_⟩
      · rw [cat, ← ha, ← hxs, List.take_append_drop]
      · rcases List.mem_cons.1 hx with rfl | h
        · exact hp
        · exact hP x h
  obtain ⟨xs, rfl, h1, h2⟩ := key n vs hl hcell
  exact ⟨A, n, c, b, o, xs, rfl, hA, hn, hc, hz, h1, hr, h2⟩

theorem getD_all {α : Type} {Pr : α → Prop} {d : α} {xs : List α} (h : ∀ x ∈ xs, Pr x) (hd : Pr d) (i : Nat) : Pr (xs.getD i d) := by
  by_cases hi : i < xs.length
  · rw [List.getD_eq_getElem?_getD, List.getElem?_eq_getElem hi]; exact h _ (List.getElem_mem _)
  · rw [List.getD_eq_getElem?_getD, List.getElem?_eq_none (by omega)]; exact hd

end Go.Proofs.Ytemnjphnhmbddaa
