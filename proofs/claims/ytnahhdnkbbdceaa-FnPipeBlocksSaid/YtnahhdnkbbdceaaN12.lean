/- What the law on the blocks of pipes takes. -/
import Derived.Test.YtnahhdnkbbdceaaN9
import Derived.Test.YtnahhdnkbbdceaaN11
set_option linter.unusedVariables false
set_option linter.unusedSimpArgs false
set_option maxRecDepth 100000
set_option maxHeartbeats 8000000
namespace Go.Proofs.Ytnahhdnkbbdceaa

theorem over_w {ss : List Nat} (h : W32 ss) (i : Nat) : W32 (over (fun j => ss.getD j 0) (List.replicate 16 0) i) := fun x hx => by
  unfold over at hx
  rcases List.mem_append.1 hx with hx | hx
  · obtain ⟨j, _, rfl⟩ := List.mem_map.1 hx
    exact h.get j
  · exact W32.zeros 16 x (List.mem_of_mem_drop hx)

theorem c_P6PlainsV (n : Nat) (c : Nat) (A : Option Addr) (b : Nat) (o : Nat) (xs : List Nat) (ln : xs.length = n) (hA : 0 < n → A = some ⟨b, o, none⟩) (hB : ∀ i, xs.getD i 0 < 256) (hn : n ≤ 4611686018427387904) (w : World) (r : Rng w b o (bys xs)) : Cl Try.prog 18 #[.slice A n c, vI 16] w fun v w' => ∃ (Lq : List Nat) (b' : Nat) (c' : Nat), v = vS b' 0 16 c' ∧ (Lq.length = 16) ∧ (W32 Lq) ∧ (∀ j, Bd (Lq.getD j 0) 2) ∧ (16 ≤ c') ∧ Row w' b' 0 (fl Lq) ∧ w.heap.size ≤ b' ∧ Mod [] w w' := by
  refine (c_P6Plains16 n c A b o xs ln hA hB hn w r).mono ?_
  rintro v w' ⟨Lq, b', c', A', hv, p0, p1, p2, p3, p4, hr⟩
  obtain rfl := p2 (by omega)
  exact ⟨Lq, b', c', hv, p0, p1, p3, p4, hr⟩

end Go.Proofs.Ytnahhdnkbbdceaa
