/- What the functions on blocks, and the search for stillness, compute. -/
import Derived.Test.YtnahhdnkbbdceaaB3
set_option linter.unusedVariables false
set_option linter.unusedSimpArgs false
set_option maxRecDepth 100000
set_option maxHeartbeats 8000000
namespace Go.Proofs.Ytnahhdnkbbdceaa

def stillF (s t : Nat) : Bool := fEq .f32 s 0 && fEq .f32 t 0
/-- behind how many samples 0 the state is 0, and the code of the answer -/
def stepsF (kd : Int) (c0 c1 c2 : Nat) : Nat → Nat → Nat → Nat → Int × Int
  | 0, _, _, _ => (0, 7)
  | k + 1, i, s, t => if stillF s t then ((i : Int), 0) else stepsF kd c0 c1 c2 k (i + 1) (stepS kd c0 c1 c2 s t 0) (stepT kd c0 c1 c2 s t 0)
/-- the state before sample number `i` of a block -/
def stAt (kd : Int) (c0 c1 c2 s0 s1 : Nat) (bs : List Nat) : Nat → Nat × Nat
  | 0 => (s0, s1)
  | i + 1 => (stepS kd c0 c1 c2 (stAt kd c0 c1 c2 s0 s1 bs i).1 (stAt kd c0 c1 c2 s0 s1 bs i).2 (bs.getD i 0), stepT kd c0 c1 c2 (stAt kd c0 c1 c2 s0 s1 bs i).1 (stAt kd c0 c1 c2 s0 s1 bs i).2 (bs.getD i 0))
def yAt (kd : Int) (c0 c1 c2 s0 s1 : Nat) (bs : List Nat) (i : Nat) : Nat := stepY kd c0 c1 c2 (stAt kd c0 c1 c2 s0 s1 bs i).1 (stAt kd c0 c1 c2 s0 s1 bs i).2 (bs.getD i 0)
theorem yAt_lt (kd : Int) (c0 c1 c2 s0 s1 : Nat) (bs : List Nat) (i : Nat) : yAt kd c0 c1 c2 s0 s1 bs i < wid .f32 := by
  unfold yAt stepY; (repeat' split) <;> exact fop_lt _ _ _ _
/-- the block holds what the filter makes, up to the payloads of NaNs, in its first `n` places -/
def Outs (kd : Int) (c0 c1 c2 s0 s1 : Nat) (bs : List Nat) (n : Nat) (ys : List Nat) : Prop := ys.length = 16 ∧ W32 ys ∧ ∀ j, j < n → cn .f32 (ys.getD j 0) = cn .f32 (yAt kd c0 c1 c2 s0 s1 bs j)
def Rest (bs : List Nat) (n : Nat) (ys : List Nat) : Prop := ∀ j, n ≤ j → j < 16 → ys.getD j 0 = bs.getD j 0
section
variable {kd : Int} {c0 c1 c2 s0 s1 : Nat} {bs ys zs : List Nat} {n : Nat}
theorem Outs.zero (h : ys.length = 16) (hw : W32 ys) : Outs kd c0 c1 c2 s0 s1 bs 0 ys := ⟨h, hw, fun j hj => absurd hj (Nat.not_lt_zero _)⟩
theorem getD_set_eq {xs : List Nat} {i x : Nat} (h : i < xs.length) : (xs.set i x).getD i 0 = x := by simp [h]
theorem getD_set_neq {xs : List Nat} {i j x : Nat} (h : i ≠ j) : (xs.set i x).getD j 0 = xs.getD j 0 := by simp [h]
theorem Outs.next {y : Nat} (h : Outs kd c0 c1 c2 s0 s1 bs n ys) (hn : n < 16) (hy : cn .f32 y = cn .f32 (yAt kd c0 c1 c2 s0 s1 bs n)) (hw : y < wid .f32) : Outs kd c0 c1 c2 s0 s1 bs (n + 1) (ys.set n y) :=
  ⟨by rw [List.length_set]; exact h.1, h.2.1.set hw, fun j hj => by
    by_cases e : n = j
    · subst e; rw [getD_set_eq (by rw [h.1]; exact hn)]; exact hy
    · rw [getD_set_neq e]; exact h.2.2 j (by omega)⟩
theorem Rest.zero : Rest bs n bs := fun _ _ _ => rfl
theorem Rest.next {y : Nat} (h : Rest bs n ys) : Rest bs (n + 1) (ys.set n y) := fun j hj hj' => by rw [getD_set_neq (by omega)]; exact h j (by omega) hj'
theorem Outs.same (h : Outs kd c0 c1 c2 s0 s1 bs 16 ys) (h2 : Outs kd c0 c1 c2 s0 s1 bs 16 zs) : ∀ j, j < 16 → cn .f32 (ys.getD j 0) = cn .f32 (zs.getD j 0) := fun j hj => (h.2.2 j hj).trans (h2.2.2 j hj).symm
theorem Outs.some (kd : Int) (c0 c1 c2 s0 s1 : Nat) (bs : List Nat) : ∃ ys, Outs kd c0 c1 c2 s0 s1 bs 16 ys :=
  ⟨(List.range 16).map (yAt kd c0 c1 c2 s0 s1 bs), by simp, fun x hx => by
    obtain ⟨j, _, rfl⟩ := List.mem_map.1 hx; exact yAt_lt _ _ _ _ _ _ _ _, fun j hj => by simp [hj]⟩
end

end Go.Proofs.Ytnahhdnkbbdceaa
