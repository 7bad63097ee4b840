/- The engine of this claim's walks, thirteenth part: slices of records that come in. -/
import Derived.Test.YteonmpphpeopiaaDoorE8
import Derived.Test.YteonmpphpeopiaaDoorE12
namespace Go.Proofs.YteonmpphpeopiaaDoor

theorem isSl_recs {α : Type} {f : α → List Value} {es : List Lf} {Pr : α → Prop} {w : World} {v : Value} (hmk : ∀ cs, Cells w es cs → ∃ a, cs = f a ∧ Pr a) (h : isSl es w v) :
    ∃ A n c b o xs, v = .slice A n c ∧ (0 < n → A = some ⟨b, o, none⟩) ∧ n ≤ c ∧ c ≤ maxLen ∧ (A = none → c = 0) ∧ xs.length = n ∧ Rng w b o (cat f xs) ∧ ∀ x ∈ xs, Pr x := by
  obtain ⟨A, n, c, b, o, vs, rfl, hA, hn, hc, hz, hl, hr, hcell⟩ := h
  have key : ∀ (n : Nat) (vs : List Value), vs.length = n * es.length → (∀ i, i < n → Cells w es ((vs.drop (i * es.length)).take es.length)) → ∃ xs : List α, vs = cat f xs ∧ xs.length = n ∧ ∀ x ∈ xs, Pr x := by
    intro n
    induction n with
    | zero => intro vs hl _; exact ⟨[], List.eq_nil_of_length_eq_zero (by simpa using hl), rfl, by simp⟩
    | succ n ih =>
      intro vs hl hc
      obtain ⟨a, ha, hp⟩ := hmk _ (by simpa using hc 0 (by omega))
      obtain ⟨xs, hxs, hn, hP⟩ := ih (vs.drop es.length) (by rw [List.length_drop, hl, Nat.add_mul]; omega) (fun i hi => by
        have := hc (i + 1) (by omega)
        rwa [Nat.add_mul, Nat.one_mul, Nat.add_comm, ← List.drop_drop] at this)
      refine ⟨a :: xs, ?_, by simp [hn], fun x hx => ?_⟩
      · rw [cat, ← ha, ← hxs, List.take_append_drop]
      · rcases List.mem_cons.1 hx with rfl | h
        · exact hp
        · exact hP x h
  obtain ⟨xs, rfl, h1, h2⟩ := key n vs hl hcell
  exact ⟨A, n, c, b, o, xs, rfl, hA, hn, hc, hz, h1, hr, h2⟩

theorem getD_all {α : Type} {Pr : α → Prop} {d : α} {xs : List α} (h : ∀ x ∈ xs, Pr x) (hd : Pr d) (i : Nat) : Pr (xs.getD i d) := by
  by_cases hi : i < xs.length
  · rw [List.getD_eq_getElem?_getD, List.getElem?_eq_getElem hi]; exact h _ (List.getElem_mem _)
  · rw [List.getD_eq_getElem?_getD, List.getElem?_eq_none (by omega)]; exact hd

end Go.Proofs.YteonmpphpeopiaaDoor
