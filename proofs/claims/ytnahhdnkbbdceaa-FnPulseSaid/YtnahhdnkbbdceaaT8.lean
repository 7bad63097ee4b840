/- What the functions on blocks, and the search for stillness, compute. -/
import Derived.Test.YtnahhdnkbbdceaaB3
import Derived.Test.YtnahhdnkbbdceaaT2
import Derived.Test.YtnahhdnkbbdceaaE11
import Derived.Test.YtnahhdnkbbdceaaE7
import Derived.Test.YtnahhdnkbbdceaaE17
set_option linter.unusedVariables false
set_option linter.unusedSimpArgs false
set_option maxRecDepth 100000
set_option maxHeartbeats 8000000
namespace Go.Proofs.Ytnahhdnkbbdceaa

def stillF (s t : Nat) : Bool := fEq .f32 s 0 && fEq .f32 t 0
/-- behind how many samples 0 the state is 0, and the code of the answer -/
def stepsF (kd : Int) (c0 c1 c2 : Nat) : Nat → Nat → Nat → Nat → Int × Int
  | 0, _, _, _ => (0, 7)
  | k + 1, i, s, t => if stillF s t then ((i : Int), 0) else stepsF kd c0 c1 c2 k (i + 1) (stepS kd c0 c1 c2 s t 0) (stepT kd c0 c1 c2 s t 0)
/-- the state before sample number `i` of a block -/
def stAt (kd : Int) (c0 c1 c2 s0 s1 : Nat) (bs : List Nat) : Nat → Nat × Nat
  | 0 => (s0, s1)
  | i + 1 => (stepS kd c0 c1 c2 (stAt kd c0 c1 c2 s0 s1 bs i).1 (stAt kd c0 c1 c2 s0 s1 bs i).2 (bs.getD i 0), stepT kd c0 c1 c2 (stAt kd c0 c1 c2 s0 s1 bs i).1 (stAt kd c0 c1 c2 s0 s1 bs i).2 (bs.getD i 0))
def yAt (kd : Int) (c0 c1 c2 s0 s1 : Nat) (bs : List Nat) (i : Nat) : Nat := stepY kd c0 c1 c2 (stAt kd c0 c1 c2 s0 s1 bs i).1 (stAt kd c0 c1 c2 s0 s1 bs i).2 (bs.getD i 0)
theorem yAt_lt (kd : Int) (c0 c1 c2 s0 s1 : Nat) (bs : List Nat) (i : Nat) : yAt kd c0 c1 c2 s0 s1 bs i < wid .f32 := by
  unfold yAt stepY; (repeat' split) <;> exact fop_lt _ _ _ _
/-- the block holds what the filter makes, up to the payloads of NaNs, in its first `n` places -/
def Outs (kd : Int) (c0 c1 c2 s0 s1 : Nat) (bs : List Nat) (n : Nat) (ys : List Nat) : Prop := ys.length = 16 ∧ W32 ys ∧ ∀ j, j < n → cn .f32 (ys.getD j 0) = cn .f32 (yAt kd c0 c1 c2 s0 s1 bs j)
def Rest (bs : List Nat) (n : Nat) (ys : List Nat) : Prop := ∀ j, n ≤ j → j < 16 → ys.getD j 0 = bs.getD j 0
section
variable {kd : Int} {c0 c1 c2 s0 s1 : Nat} {bs ys zs : List Nat} {n : Nat}
theorem Outs.zero (h : ys.length = 16) (hw : W32 ys) : Outs kd c0 c1 c2 s0 s1 bs 0 ys := ⟨h, hw, fun j hj => absurd hj (Nat.not_lt_zero _)⟩
theorem getD_set_eq {xs : List Nat} {i x : Nat} (h : i < xs.length) : (xs.set i x).getD i 0 = x := by simp [h]
theorem getD_set_neq {xs : List Nat} {i j x : Nat} (h : i ≠ j) : (xs.set i x).getD j 0 = xs.getD j 0 := by simp [h]
theorem Outs.next {y : Nat} (h : Outs kd c0 c1 c2 s0 s1 bs n ys) (hn : n < 16) (hy : cn .f32 y = cn .f32 (yAt kd c0 c1 c2 s0 s1 bs n)) (hw : y < wid .f32) : Outs kd c0 c1 c2 s0 s1 bs (n + 1) (ys.set n y) :=
  ⟨by rw [List.length_set]; exact h.1, h.2.1.set hw, fun j hj => by
    by_cases e : n = j
    · subst e; rw [getD_set_eq (by rw [h.1]; exact hn)]; exact hy
    · rw [getD_set_neq e]; exact h.2.2 j (by omega)⟩
theorem Rest.zero : Rest bs n bs := fun _ _ _ => rfl
theorem Rest.next {y : Nat} (h : Rest bs n ys) : Rest bs (n + 1) (ys.set n y) := fun j hj hj' => by rw [getD_set_neq (by omega)]; exact h j (by omega) hj'
theorem Outs.same (h : Outs kd c0 c1 c2 s0 s1 bs 16 ys) (h2 : Outs kd c0 c1 c2 s0 s1 bs 16 zs) : ∀ j, j < 16 → cn .f32 (ys.getD j 0) = cn .f32 (zs.getD j 0) := fun j hj => (h.2.2 j hj).trans (h2.2.2 j hj).symm
theorem Outs.some (kd : Int) (c0 c1 c2 s0 s1 : Nat) (bs : List Nat) : ∃ ys, Outs kd c0 c1 c2 s0 s1 bs 16 ys :=
  ⟨(List.range 16).map (yAt kd c0 c1 c2 s0 s1 bs), by simp, fun x hx => by
    obtain ⟨j, _, rfl⟩ := List.mem_map.1 hx; exact yAt_lt _ _ _ _ _ _ _ _, fun j hj => by simp [hj]⟩
end

end Go.Proofs.Ytnahhdnkbbdceaa

/- What playing a pipe does. -/
set_option linter.unusedVariables false
set_option linter.unusedSimpArgs false
set_option maxRecDepth 100000
set_option maxHeartbeats 8000000
namespace Go.Proofs.Ytnahhdnkbbdceaa

structure PipeSt where
  R : List RD
  L : List RD
  s0 : Nat
  s1 : Nat
/-- a pipe behind a step that is given `x` -/
def pipeNext (n m : Nat) (xS : List Nat) (k : Int) (kc0 kc1 kc2 : Nat) (op : Bool) (lo re sl : Nat) (z : PipeSt) (x : Nat) : PipeSt :=
  ⟨stR z.R z.L xS re sl x m, endL z.R z.L xS op lo (stepY k kc0 kc1 kc2 z.s0 z.s1 (oldD z.R (n - 1))) n m, stepS k kc0 kc1 kc2 z.s0 z.s1 (oldD z.R (n - 1)), stepT k kc0 kc1 kc2 z.s0 z.s1 (oldD z.R (n - 1))⟩
/-- the same before step number `q`, where step `j` is given `f j` -/
def pipeAt (n m : Nat) (xS : List Nat) (k : Int) (kc0 kc1 kc2 : Nat) (op : Bool) (lo re sl : Nat) (z : PipeSt) (f : Nat → Nat) (q : Nat) : PipeSt :=
  if h : q = 0 then z else pipeNext n m xS k kc0 kc1 kc2 op lo re sl (pipeAt n m xS k kc0 kc1 kc2 op lo re sl z f (q - 1)) (f (q - 1))
termination_by q
decreasing_by omega
/-- what step number `q` makes -/
def pipeOut (n m : Nat) (xS : List Nat) (k : Int) (kc0 kc1 kc2 : Nat) (op : Bool) (lo re sl : Nat) (z : PipeSt) (f : Nat → Nat) (q : Nat) : Nat :=
  stepY k kc0 kc1 kc2 (pipeAt n m xS k kc0 kc1 kc2 op lo re sl z f q).s0 (pipeAt n m xS k kc0 kc1 kc2 op lo re sl z f q).s1 (oldD (pipeAt n m xS k kc0 kc1 kc2 op lo re sl z f q).R (n - 1))
section
variable {n m : Nat} {xS : List Nat} {k : Int} {kc0 kc1 kc2 : Nat} {op : Bool} {lo re sl : Nat} {z : PipeSt} {f : Nat → Nat} {q : Nat}
theorem pipeAt_zero : pipeAt n m xS k kc0 kc1 kc2 op lo re sl z f 0 = z := by rw [pipeAt]; simp
theorem pipeAt_succ : pipeAt n m xS k kc0 kc1 kc2 op lo re sl z f (q + 1) = pipeNext n m xS k kc0 kc1 kc2 op lo re sl (pipeAt n m xS k kc0 kc1 kc2 op lo re sl z f q) (f q) := by rw [pipeAt]; simp
end
theorem Cn.eq2 {xs ys zs : List Nat} (h : Cn xs zs) (k : Cn ys zs) : Cn xs ys := h.trans k.symm
end Go.Proofs.Ytnahhdnkbbdceaa

/- When a pipe is silent: the reference. -/
set_option linter.unusedVariables false
set_option linter.unusedSimpArgs false
set_option maxRecDepth 100000
set_option maxHeartbeats 8000000
namespace Go.Proofs.Ytnahhdnkbbdceaa

/-- the first `n` words are 0 -/
def zeroF (xs : List Nat) (n : Nat) : Bool := (List.range n).all fun j => fEq .f32 (xs.getD j 0) 0
theorem zeroF_out {xs : List Nat} {i n : Nat} (hi : i < n) (h2 : fEq .f32 (xs.getD i 0) 0 = false) : zeroF xs n = false := by
  unfold zeroF
  rw [List.all_eq_false]
  exact ⟨i, by simpa using hi, by simpa using h2⟩
theorem zeroF_get {xs : List Nat} {i n : Nat} (h : zeroF xs n = true) (hi : i < n) : fEq .f32 (xs.getD i 0) 0 = true := List.all_eq_true.1 h i (by simpa using hi)
/-- the newest `r` samples of a ring are 0, and the one before them is not -/
structure QI (n : Nat) (xs : List Nat) (i r : Nat) : Prop where
  zero : ∀ j, 1 ≤ j → j ≤ r → j ≤ n → fEq .f32 (xs.getD ((i + n - j) % n) 0) 0 = true
  last : r < n → fEq .f32 (xs.getD ((i + n - (r + 1)) % n) 0) 0 = false
theorem QI.step {n : Nat} {xs : List Nat} {i e : Nat} (h : ∀ j, 1 ≤ j → j ≤ e → fEq .f32 (xs.getD ((i + n - j) % n) 0) 0 = true) (h' : fEq .f32 (xs.getD ((i + n - (e + 1)) % n) 0) 0 = true) : ∀ j, 1 ≤ j → j ≤ e + 1 → fEq .f32 (xs.getD ((i + n - j) % n) 0) 0 = true := fun j h1 h2 => by
  rcases Nat.lt_or_ge e j with c | c
  · obtain rfl : j = e + 1 := by omega
    exact h'
  · exact h j h1 c
theorem QI.of {n : Nat} {xs : List Nat} {i r : Nat} (h : ∀ j, 1 ≤ j → j ≤ r → fEq .f32 (xs.getD ((i + n - j) % n) 0) 0 = true) (k : r < n → fEq .f32 (xs.getD ((i + n - (r + 1)) % n) 0) 0 = false) : QI n xs i r := ⟨fun j a b _ => h j a b, k⟩
theorem back_ne {n i j : Nat} (hi : i < n) (h1 : 1 ≤ j) (h2 : j < n) : (i + n - j) % n ≠ i := by
  intro h
  rcases Nat.lt_or_ge i j with c | c
  · rw [Nat.mod_eq_of_lt (by omega)] at h; omega
  · rw [show i + n - j = (i - j) + n by omega, Nat.add_mod_right, Nat.mod_eq_of_lt (by omega)] at h; omega
theorem back_next {n i j : Nat} (hi : i < n) (h1 : 1 ≤ j) (h2 : j ≤ n) : ((i + 1) % n + n - (j + 1)) % n = (i + n - j) % n ∨ j = n := by
  rcases Nat.lt_or_ge (i + 1) n with c | c
  · rw [Nat.mod_eq_of_lt c]
    by_cases e : j = n
    · exact .inr e
    · left; congr 1; omega
  · have e : i + 1 = n := by omega
    rw [e, Nat.mod_self]
    by_cases e' : j = n
    · exact .inr e'
    · left
      rw [show i + n - j = (0 + n - (j + 1)) + n by omega, Nat.add_mod_right]
theorem back_one {n i : Nat} (hi : i < n) : ((i + 1) % n + n - 1) % n = i := by
  rcases Nat.lt_or_ge (i + 1) n with c | c
  · rw [Nat.mod_eq_of_lt c, show i + 1 + n - 1 = i + n by omega, Nat.add_mod_right, Nat.mod_eq_of_lt hi]
  · have e : i + 1 = n := by omega
    rw [e, Nat.mod_self, Nat.mod_eq_of_lt (by omega)]; omega
theorem QI.down {n : Nat} {xs : List Nat} {i : Nat} (h : fEq .f32 (xs.getD ((i + n - 1) % n) 0) 0 = false) : QI n xs i 0 := ⟨fun j a b => absurd b (by omega), fun _ => h⟩
theorem QI.up {n : Nat} {xs : List Nat} {i r a : Nat} (h : QI n xs i r) (hi : i < n) (hl : xs.length = n) (h0 : fEq .f32 ((xs.set i a).getD (((i + 1) % n + n - 1) % n) 0) 0 = true) : QI n (xs.set i a) ((i + 1) % n) (r + 1) := by
  have other : ∀ j, 1 ≤ j → j < n → (xs.set i a).getD (((i + 1) % n + n - (j + 1)) % n) 0 = xs.getD ((i + n - j) % n) 0 := fun j h1 h2 => by
    rcases back_next hi h1 (Nat.le_of_lt h2) with e | e
    · rw [e, List.getD_eq_getElem?_getD, List.getElem?_set_ne (Ne.symm (back_ne hi h1 h2)), List.getD_eq_getElem?_getD]
    · omega
  refine ⟨fun j a1 a2 a3 => ?_, fun hr => ?_⟩
  · rcases Nat.lt_or_ge 1 j with c | c
    · obtain ⟨j, rfl⟩ : ∃ k, j = k + 1 := ⟨j - 1, by omega⟩
      rw [other j (by omega) (by omega)]
      exact h.zero j (by omega) (by omega) (by omega)
    · obtain rfl : j = 1 := by omega
      exact h0
  · rw [other (r + 1) (by omega) (by omega)]
    exact h.last (by omega)
theorem QI.all {n : Nat} {xs : List Nat} {i r : Nat} (h : QI n xs i r) (hi : i < n) : zeroF xs n = decide (((n : Nat) : Int) ≤ ((r : Nat) : Int)) := by
  by_cases c : n ≤ r
  · have : decide (((n : Nat) : Int) ≤ ((r : Nat) : Int)) = true := by simpa using c
    rw [this]
    unfold zeroF
    rw [List.all_eq_true]
    intro m hm
    have hm' : m < n := by simpa using hm
    rcases Nat.lt_or_ge m i with d | d
    · have := h.zero (i - m) (by omega) (by omega) (by omega)
      rwa [show i + n - (i - m) = m + n by omega, Nat.add_mod_right, Nat.mod_eq_of_lt hm'] at this
    · have := h.zero (i + n - m) (by omega) (by omega) (by omega)
      rwa [show i + n - (i + n - m) = m by omega, Nat.mod_eq_of_lt hm'] at this
  · have : decide (((n : Nat) : Int) ≤ ((r : Nat) : Int)) = false := by simpa using c
    rw [this]
    exact zeroF_out (Nat.mod_lt _ (by omega)) (h.last (by omega))
def runF (c : Bool) (u : Nat) : Nat := if c then u + 1 else 0
theorem runF_t {c : Bool} (h : c = true) (u : Nat) : runF c u = u + 1 := by rw [runF, if_pos h]
theorem runF_f {c : Bool} (h : c = false) (u : Nat) : runF c u = 0 := by rw [runF, if_neg (by simp [h])]
theorem QI.run {n : Nat} {xs : List Nat} {i r a : Nat} (h : QI n xs i r) (hi : i < n) (hl : xs.length = n) : QI n (xs.set i a) ((i + 1) % n) (runF (fEq .f32 ((xs.set i a).getD (((i + 1) % n + n - 1) % n) 0) 0) r) := by
  cases h0 : fEq .f32 ((xs.set i a).getD (((i + 1) % n + n - 1) % n) 0) 0
  · rw [runF_f rfl]; exact QI.down h0
  · rw [runF_t rfl]; exact QI.up h hi hl h0
/-- the newest `r` samples of ring `m` are 0, and the one before them is not -/
def QD (D : List RD) (m r : Nat) : Prop := QI (D.getD m RD.d).xs.length (D.getD m RD.d).xs (D.getD m RD.d).at_.toNat r
/-- the newest sample of ring `m` -/
def lastD (D : List RD) (m : Nat) : Nat := (D.getD m RD.d).xs.getD (((D.getD m RD.d).at_.toNat + (D.getD m RD.d).xs.length - 1) % (D.getD m RD.d).xs.length) 0
/-- ring `m` is as before behind one further sample -/
def Pushed (D D' : List RD) (m : Nat) : Prop := ∃ a, D'.getD m RD.d = ⟨(D.getD m RD.d).xs.set (D.getD m RD.d).at_.toNat a, ((((D.getD m RD.d).at_.toNat + 1) % (D.getD m RD.d).xs.length : Nat) : Int)⟩
theorem QD.run {D D' : List RD} {m n r : Nat} (h : QD D m r) (g : GoodD D n) (hm : m < n) (p : Pushed D D' m) : QD D' m (runF (fEq .f32 (lastD D' m) 0) r) := by
  obtain ⟨a, e⟩ := p
  unfold QD lastD
  rw [e]
  have h1 := g.ge m hm
  have h2 := g.lt m hm
  have := QI.run (a := a) h (by omega) rfl
  simp only [List.length_set, Int.toNat_natCast]
  exact this
section
variable {R L : List RD} {xS : List Nat} {re sl x n m q : Nat} {op : Bool} {lo y : Nat}
end
/-- the first `n` rings are silent -/
def zeroD (D : List RD) : Nat → Bool
  | 0 => true
  | i + 1 => zeroD D i && zeroF (D.getD i RD.d).xs (D.getD i RD.d).xs.length
def pipeSil (n m : Nat) (z : PipeSt) : Bool := zeroD z.R n && (zeroD z.L m && stillF z.s0 z.s1)
section
variable {z : PipeSt} {u0 u1 u2 u3 u4 u5 : Nat}
end
/-- behind how many steps there is silence, and the code of the answer -/
def silG (sil : Nat → Bool) : Nat → Nat → Int × Int
  | 0, _ => (0, 7)
  | k + 1, i => if sil i then ((i : Int), 0) else silG sil k (i + 1)
section
variable {sil : Nat → Bool} {k k' i : Nat} {R : Int × Int}
end

end Go.Proofs.Ytnahhdnkbbdceaa

/- When a pipe is silent: the program. -/
set_option linter.unusedVariables false
set_option linter.unusedSimpArgs false
set_option maxRecDepth 100000
set_option maxHeartbeats 8000000
namespace Go.Proofs.Ytnahhdnkbbdceaa

end Go.Proofs.Ytnahhdnkbbdceaa

/- When a pipe of three sections is silent: the program. -/
set_option linter.unusedVariables false
set_option linter.unusedSimpArgs false
set_option maxRecDepth 100000
set_option maxHeartbeats 8000000
namespace Go.Proofs.Ytnahhdnkbbdceaa

end Go.Proofs.Ytnahhdnkbbdceaa
