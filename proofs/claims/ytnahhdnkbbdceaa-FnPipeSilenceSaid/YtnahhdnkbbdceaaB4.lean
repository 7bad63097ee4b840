/- What the functions on blocks, and the search for stillness, compute. -/
import Derived.Test.YtnahhdnkbbdceaaB3
set_option linter.unusedVariables false
set_option linter.unusedSimpArgs false
set_option maxRecDepth 100000
set_option maxHeartbeats 8000000
namespace Go.Proofs.Ytnahhdnkbbdceaa

def stillF (s t : Nat) : Bool := fEq .f32 s 0 && fEq .f32 t 0
/-- behind how many samples 0 the state is 0, and the code of the answer -/
def stepsF (kd : Int) (c0 c1 c2 : Nat) : Nat → Nat → Nat → Nat → Int × Int
  | 0, _, _, _ => (0, 7)
  | k + 1, i, s, t => if stillF s t then ((i : Int), 0) else stepsF kd c0 c1 c2 k (i + 1) (stepS kd c0 c1 c2 s t 0) (stepT kd c0 c1 c2 s t 0)
/-- the state before sample number `i` of a block -/
def stAt (kd : Int) (c0 c1 c2 s0 s1 : Nat) (bs : List Nat) : Nat → Nat × Nat
  | 0 => (s0, s1)
  | i + 1 => (stepS kd c0 c1 c2 (stAt kd c0 c1 c2 s0 s1 bs i).1 (stAt kd c0 c1 c2 s0 s1 bs i).2 (bs.getD i 0), stepT kd c0 c1 c2 (stAt kd c0 c1 c2 s0 s1 bs i).1 (stAt kd c0 c1 c2 s0 s1 bs i).2 (bs.getD i 0))
def yAt (kd : Int) (c0 c1 c2 s0 s1 : Nat) (bs : List Nat) (i : Nat) : Nat := stepY kd c0 c1 c2 (stAt kd c0 c1 c2 s0 s1 bs i).1 (stAt kd c0 c1 c2 s0 s1 bs i).2 (bs.getD i 0)
theorem yAt_lt (kd : Int) (c0 c1 c2 s0 s1 : Nat) (bs : List Nat) (i : Nat) : yAt kd c0 c1 c2 s0 s1 bs i < wid .f32 := by
  unfold yAt stepY; (repeat' split) <;> exact fop_lt _ _ _ _
/-- the block holds what the filter makes, up to the payloads of NaNs, in its first `n` places -/
def Outs (kd : Int) (c0 c1 c2 s0 s1 : Nat) (bs : List Nat) (n : Nat) (ys : List Nat) : Prop := ys.length = 16 ∧ W32 ys ∧ ∀ j, j < n → cn .f32 (ys.getD j 0) = cn .f32 (yAt kd c0 c1 c2 s0 s1 bs j)
def Rest (bs : List Nat) (n : Nat) (ys : List Nat) : Prop := ∀ j, n ≤ j → j < 16 → ys.getD j 0 = bs.getD j 0
section
variable {kd : Int} {c0 c1 c2 s0 s1 : Nat} {bs ys zs : List Nat} {n : Nat}
theorem Outs.zero (h : ys.length = 16) (hw : W32 ys) : Outs kd c0 c1 c2 s0 s1 bs 0 ys := ⟨h, hw, fun j hj => absurd hj (Nat.not_lt_zero _)⟩
theorem getD_set_eq {xs : List Nat} {i x : Nat} (h : i < xs.length) : (xs.set i x).getD i 0 = x := by simp [h]
theorem getD_set_neq {xs : List Nat} {i j x : Nat} (h : i ≠ j) : (xs.set i x).getD j 0 = xs.getD j 0 := by simp [h]
theorem Outs.next {y : Nat} (h : Outs kd c0 c1 c2 s0 s1 bs n ys) (hn : n < 16) (hy : cn .f32 y = cn .f32 (yAt kd c0 c1 c2 s0 s1 bs n)) (hw : y < wid .f32) : Outs kd c0 c1 c2 s0 s1 bs (n + 1) (ys.set n y) :=
  ⟨by rw [List.length_set]; exact h.1, h.2.1.set hw, fun j hj => by
    by_cases e : n = j
    · subst e; rw [getD_set_eq (by rw [h.1]; exact hn)]; exact hy
    · rw [getD_set_neq e]; exact h.2.2 j (by omega)⟩
theorem Rest.zero : Rest bs n bs := fun _ _ _ => rfl
theorem Rest.next {y : Nat} (h : Rest bs n ys) : Rest bs (n + 1) (ys.set n y) := fun j hj hj' => by rw [getD_set_neq (by omega)]; exact h j (by omega) hj'
theorem Outs.some (kd : Int) (c0 c1 c2 s0 s1 : Nat) (bs : List Nat) : ∃ ys, Outs kd c0 c1 c2 s0 s1 bs 16 ys :=
  ⟨(List.range 16).map (yAt kd c0 c1 c2 s0 s1 bs), by simp, fun x hx => by
    obtain ⟨j, _, rfl⟩ := List.mem_map.1 hx; exact yAt_lt _ _ _ _ _ _ _ _, fun j hj => by simp [hj]⟩
end

theorem c_isStill (kd : Int) (c0 : Nat) (c1 : Nat) (c2 : Nat) (s0 : Nat) (s1 : Nat) (w : World) : Cl Try.prog 67 #[.agg #[vI kd, vF c0, vF c1, vF c2, vF s0, vF s1]] w fun v w' => v = .bool (stillF s0 s1) ∧ Mod [] w w' := by
 refine Cl.of Try.func67 Try.ntmps67 rfl rfl (ρ := [(0, .agg #[vI kd, vF c0, vF c1, vF c2, vF s0, vF s1])]) rfl ?_
 refine CE.seq (CE.region ?_)
 refine WL.op (op_box (cs := [vI kd, vF c0, vF c1, vF c2, vF s0, vF s1]) rfl rfl) rfl rfl (ltb rfl) ?_
 rintro _ w1 ⟨rfl, r1, m1, z1⟩
 refine WL.det (op_assign rfl) rfl rfl rfl ?_
 refine WL.end (NE.code (CE.seq (CE.region ?_)))
 refine WL.det (op_fieldAddr (off' := 4) rfl Try.runUnderlying31 rfl rfl Try.sizeOf29 rfl) rfl rfl rfl ?_
 refine WL.det (op_indexArr (off' := 4) rfl rfl Try.runUnderlying29 Try.sizeOf27 (by decide) (by decide) rfl) rfl rfl rfl ?_
 refine WL.det (op_load1 (i := 4) rfl Try.isAgg27 r1.rng rfl rfl) rfl rfl rfl ?_
 refine WL.det (op_feq (c := fEq .f32 s0 0) rfl rfl rfl rfl rfl) rfl rfl rfl ?_
 refine WL.det (op_move rfl) rfl rfl rfl ?_
 rcases Bool.eq_false_or_eq_true (fEq .f32 s0 0) with hb1 | hb1
 ·refine WL.yes rfl rfl rfl (ltb rfl) rfl hb1 ?_
  refine WL.det (op_fieldAddr (off' := 4) rfl Try.runUnderlying31 rfl rfl Try.sizeOf29 rfl) rfl rfl rfl ?_
  refine WL.yes rfl rfl rfl (ltb rfl) rfl hb1 ?_
  refine WL.det (op_indexArr (off' := 5) rfl rfl Try.runUnderlying29 Try.sizeOf27 (by decide) (by decide) rfl) rfl rfl rfl ?_
  refine WL.yes rfl rfl rfl (ltb rfl) rfl hb1 ?_
  refine WL.det (op_load1 (i := 5) rfl Try.isAgg27 r1.rng rfl rfl) rfl rfl rfl ?_
  refine WL.yes rfl rfl rfl (ltb rfl) rfl hb1 ?_
  refine WL.det (op_feq (c := fEq .f32 s1 0) rfl rfl rfl rfl rfl) rfl rfl rfl ?_
  refine WL.det (op_pick_t rfl hb1 rfl) rfl rfl rfl ?_
  refine WL.det (op_assign rfl) rfl rfl rfl ?_
  refine WL.end (NE.code (CE.ret' ?_))
  refine XE.leave1 Try.results67 rfl ?_
  refine ⟨?_, ((Mod.refl [] w).nt m1)⟩
  all_goals simp_all [stillF]
 ·refine WL.no rfl rfl rfl (ltb rfl) rfl hb1 rfl (ltb rfl) ?_
  iterate 3 refine WL.no rfl rfl rfl (ltb rfl) rfl hb1 rfl (ltb rfl) ?_
  refine WL.det (op_pick_f rfl hb1 rfl) rfl rfl rfl ?_
  refine WL.det (op_assign rfl) rfl rfl rfl ?_
  refine WL.end (NE.code (CE.ret' ?_))
  refine XE.leave1 Try.results67 rfl ?_
  refine ⟨?_, ((Mod.refl [] w).nt m1)⟩
  all_goals simp_all [stillF]

theorem c_l02Still (kd : Int) (c0 : Nat) (c1 : Nat) (c2 : Nat) (s0 : Nat) (s1 : Nat) (p : Nat) (k : Nat) (vs : List Value) (hk : k + 6 ≤ vs.length) (w : World) (r : Rng w p 0 (splice vs k [vI kd, vF c0, vF c1, vF c2, vF s0, vF s1])) : Cl Try.prog 124 #[vP p k] w fun v w' => v = .bool (stillF s0 s1) ∧ w = w' := by
 refine Cl.of Try.func124 Try.ntmps124 rfl rfl (ρ := [(0, vP p k)]) rfl ?_
 refine CE.seq (CE.region ?_)
 refine WL.det (op_assign rfl) rfl rfl rfl ?_
 refine WL.end (NE.code (CE.seq (CE.region ?_)))
 refine WL.det (op_move rfl) rfl rfl rfl ?_
 refine WL.det (op_nilCheck rfl) rfl rfl rfl ?_
 refine WL.det (op_fieldAddr (off' := k + 4) rfl Try.runUnderlying31 rfl rfl Try.sizeOf29 rfl) rfl rfl rfl ?_
 refine WL.det (op_indexArr (off' := k + 4) rfl rfl Try.runUnderlying29 Try.sizeOf27 (by decide) (by decide) rfl) rfl rfl rfl ?_
 refine WL.det (op_load1 (i := k + 4) rfl Try.isAgg27 r (Nat.zero_add _) (sub_get (i := 4) hk rfl)) rfl rfl rfl ?_
 refine WL.det (op_feq (c := fEq .f32 s0 0) rfl rfl rfl rfl rfl) rfl rfl rfl ?_
 refine WL.det (op_move rfl) rfl rfl rfl ?_
 rcases Bool.eq_false_or_eq_true (fEq .f32 s0 0) with hb1 | hb1
 ·refine WL.yes rfl rfl rfl (ltb rfl) rfl hb1 ?_
  refine WL.det (op_move rfl) rfl rfl rfl ?_
  refine WL.yes rfl rfl rfl (ltb rfl) rfl hb1 ?_
  refine WL.det (op_nilCheck rfl) rfl rfl rfl ?_
  refine WL.yes rfl rfl rfl (ltb rfl) rfl hb1 ?_
  refine WL.det (op_fieldAddr (off' := k + 4) rfl Try.runUnderlying31 rfl rfl Try.sizeOf29 rfl) rfl rfl rfl ?_
  refine WL.yes rfl rfl rfl (ltb rfl) rfl hb1 ?_
  refine WL.det (op_indexArr (off' := k + 5) rfl rfl Try.runUnderlying29 Try.sizeOf27 (by decide) (by decide) rfl) rfl rfl rfl ?_
  refine WL.yes rfl rfl rfl (ltb rfl) rfl hb1 ?_
  refine WL.det (op_load1 (i := k + 5) rfl Try.isAgg27 r (Nat.zero_add _) (sub_get (i := 5) hk rfl)) rfl rfl rfl ?_
  refine WL.yes rfl rfl rfl (ltb rfl) rfl hb1 ?_
  refine WL.det (op_feq (c := fEq .f32 s1 0) rfl rfl rfl rfl rfl) rfl rfl rfl ?_
  refine WL.det (op_pick_t rfl hb1 rfl) rfl rfl rfl ?_
  refine WL.det (op_assign rfl) rfl rfl rfl ?_
  refine WL.end (NE.code (CE.ret' ?_))
  refine XE.leave1 Try.results124 rfl ?_
  refine ⟨?_, rfl⟩
  all_goals simp_all [stillF]
 ·refine WL.no rfl rfl rfl (ltb rfl) rfl hb1 rfl (ltb rfl) ?_
  iterate 5 refine WL.no rfl rfl rfl (ltb rfl) rfl hb1 rfl (ltb rfl) ?_
  refine WL.det (op_pick_f rfl hb1 rfl) rfl rfl rfl ?_
  refine WL.det (op_assign rfl) rfl rfl rfl ?_
  refine WL.end (NE.code (CE.ret' ?_))
  refine XE.leave1 Try.results124 rfl ?_
  refine ⟨?_, rfl⟩
  all_goals simp_all [stillF]

end Go.Proofs.Ytnahhdnkbbdceaa
