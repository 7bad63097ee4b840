/- Pipes of any number of sections: sizes; a pipe of two sections between which nothing is scattered makes what one of one section makes. -/
import Derived.Test.YtnahhdnkbbdceaaN1
import Derived.Test.YtnahhdnkbbdceaaF14
set_option linter.unusedVariables false
set_option linter.unusedSimpArgs false
set_option maxRecDepth 100000
namespace Go.Proofs.Ytnahhdnkbbdceaa
open Ieee

/-- all samples of all rings are small -/
def AllB (D : List RD) (k : Nat) : Prop := ∀ i j, Bd ((D.getD i RD.d).xs.getD j 0) k
/-- what is kept: 0, or a finite number of normal size -/
def KV (s : Nat) : Prop := GoodS s ∧ s ≠ 2147483648
def AllK (D : List RD) : Prop := ∀ i j, KV ((D.getD i RD.d).xs.getD j 0)
theorem KV.zero : KV 0 := ⟨GoodS.zero, by omega⟩
theorem KV.kept {y : Nat} (h : y < wid .f32) : KV (keptF y) := by
  rw [wid32] at h
  obtain ⟨g, e⟩ := GoodS.kept h
  refine ⟨g, ?_⟩
  rcases e with e | e
  · rw [e]; omega
  · intro hn
    rw [e] at hn
    have z : Z0 y := by unfold Z0; omega
    have := kept0 z
    omega
section
variable {D : List RD} {i a k l : Nat}
theorem push_every {P : Nat → Prop} (h : ∀ i j, P ((D.getD i RD.d).xs.getD j 0)) (ha : P a) (p q : Nat) : P (((pushD D i a).getD p RD.d).xs.getD q 0) := by
  by_cases hi : i < D.length
  · by_cases e : i = p
    · subst e
      rw [pushD_same hi]
      exact set_all (h i) ha q
    · rw [pushD_other e]; exact h p q
  · rw [pushD_out hi]; exact h p q
theorem AllB.push (h : AllB D k) (ha : Bd a k) : AllB (pushD D i a) k := push_every (P := fun a => Bd a k) h ha
theorem AllK.push (h : AllK D) (ha : KV a) : AllK (pushD D i a) := push_every h ha
theorem AllB.mono (h : AllB D k) (hl : k ≤ l) : AllB D l := fun i j => (h i j).mono hl
theorem AllB.old (h : AllB D k) (i : Nat) : Bd (oldD D i) k := h i _
theorem AllK.old (h : AllK D) (i : Nat) : KV (oldD D i) := h i _
theorem getD_new {ns : List Nat} (i j : Nat) : (((ns.map fun n => (⟨List.replicate n 0, 0⟩ : RD)).getD i RD.d).xs.getD j 0) = 0 := by
  have e : ((ns.map fun n => (⟨List.replicate n 0, 0⟩ : RD)).getD i RD.d) = (ns[i]?.map fun n => (⟨List.replicate n 0, 0⟩ : RD)).getD RD.d := by rw [List.getD_eq_getElem?_getD, List.getElem?_map]
  rw [e]
  cases ns[i]? with
  | none => rfl
  | some n =>
    show (List.replicate n 0).getD j 0 = 0
    simp [List.getD_eq_getElem?_getD, List.getElem?_replicate]
    split <;> rfl
end

/-- small numbers of a pipe -/
structure CBd (re sl lo c0 c1 : Nat) (xS : List Nat) : Prop where
  re : Bd re 2
  sl : Bd sl 2
  lo : Bd lo 0
  c0 : Bd c0 0
  c1 : Bd c1 0
  xS : ∀ i, Bd (xS.getD i 0) 0
structure ZB (z : PipeSt) (k : Nat) : Prop where
  r : AllB z.R k
  l : AllB z.L k
  s : Bd z.s0 k
theorem clamp_bd {x k : Nat} (h : Bd x k) (hk : k ≤ 100) : Bd (clampF x 1065353216) 0 := by
  have b1 : Bd 1065353216 0 := by unfold Bd; omega
  have b2 : Bd 3212836864 0 := by unfold Bd; omega
  have e1 : Op.negFloat .f32 1065353216 = 3212836864 := by decide +kernel
  have s1 : sV 1065353216 = ((rungVal 1065353216 : Nat) : Int) := rfl
  have s2 : sV 3212836864 = -((rungVal 1065353216 : Nat) : Int) := rfl
  unfold clampF
  rw [e1]
  split
  · exact b1
  · split
    · exact b2
    · rename_i h1 h2
      rw [fGt_sV (h.fin hk) (by omega), s1] at h1
      rw [fLt_sV (h.fin hk) (by omega), s2] at h2
      simp only [decide_eq_true_eq] at h1 h2
      have := sV_le (x := x) (r := 1065353216) (by omega) (by omega)
      unfold Bd; omega
section
variable {re sl lo c0 c1 : Nat} {xS : List Nat} {k x : Nat}
theorem CBd.reed (c : CBd re sl lo c0 c1 xS) {d : Nat} (h : Bd d k) (hk : k ≤ 92) : Bd (reedF re sl d) 0 := by
  have m := c.sl.mul2 h (by omega)
  exact clamp_bd (k := 2 + k + 1) (Bd.add2 (c.re.mono (by omega)) m (by omega)) (by omega)
theorem CBd.breath (c : CBd re sl lo c0 c1 xS) {L : List RD} (h : AllB L k) (hx : Bd x k) (hk : k ≤ 90) : Bd (breathT L re sl x) (k + 2) := by
  have d : Bd (fop .sub .f32 (oldD L 0) x) (k + 1) := Bd.sub2 (h.old 0) hx (by omega)
  have m := d.mul2 (c.reed d (by omega)) (by omega)
  rw [Nat.add_zero] at m
  exact (Bd.add2 (k := k + 1) (hx.mono (by omega)) m (by omega)).kept
theorem CBd.scat (c : CBd re sl lo c0 c1 xS) {R L : List RD} (hr : AllB R k) (hl : AllB L k) (hk : k ≤ 90) (i : Nat) : Bd (scatT R L xS i) (k + 1) := by
  have m := (c.xS i).mul2 (Bd.sub2 (hr.old i) (hl.old (i + 1)) (by omega)) (by omega)
  rwa [Nat.zero_add] at m
theorem CBd.stR (c : CBd re sl lo c0 c1 xS) {R L : List RD} (hr : AllB R k) (hl : AllB L k) (hx : Bd x k) (hk : k ≤ 90) : ∀ m, AllB (stR R L xS re sl x m) (k + 2)
  | 0 => (hr.mono (by omega)).push (c.breath hl hx hk)
  | m + 1 => (c.stR hr hl hx hk m).push (Bd.add2 ((hr.old m).mono (by omega)) (c.scat hr hl hk m) (by omega)).kept
theorem CBd.stL (c : CBd re sl lo c0 c1 xS) {R L : List RD} (hr : AllB R k) (hl : AllB L k) (hk : k ≤ 90) : ∀ m, AllB (stL R L xS m) (k + 2)
  | 0 => hl.mono (by omega)
  | m + 1 => (c.stL hr hl hk m).push (Bd.add2 ((hl.old (m + 1)).mono (by omega)) (c.scat hr hl hk m) (by omega)).kept
theorem CBd.back (c : CBd re sl lo c0 c1 xS) {op : Bool} {y : Nat} (h : Bd y k) (hk : k ≤ 92) : Bd (backT op lo y) k := by
  have m := c.lo.mul2 h (by omega)
  rw [Nat.zero_add] at m
  unfold backT
  split
  · exact m.neg (fop_lt _ _ _ _)
  · exact m
theorem CBd.next (c : CBd re sl lo c0 c1 xS) {op : Bool} {z : PipeSt} {n m : Nat} (h : ZB z k) (hx : Bd x k) (hk : k ≤ 90) : ZB (pipeNext n m xS 1 c0 c1 0 op lo re sl z x) (k + 2) := by
  have y : Bd (stepY 1 c0 c1 0 z.s0 z.s1 (oldD z.R (n - 1))) (k + 1) := by
    rw [stepY_one]
    have m1 := c.c0.mul2 (h.r.old (n - 1)) (by omega)
    have m2 := c.c1.mul2 h.s (by omega)
    rw [Nat.zero_add] at m1 m2
    exact Bd.add2 m1 m2 (by omega)
  have e2 : stepS 1 c0 c1 0 z.s0 z.s1 (oldD z.R (n - 1)) = keptF (stepY 1 c0 c1 0 z.s0 z.s1 (oldD z.R (n - 1))) := by unfold stepS; rw [if_pos rfl]
  unfold pipeNext
  rw [e2]
  exact ⟨c.stR h.r h.l hx hk m, (c.stL h.r h.l hk m).push ((c.back (k := k + 1) y (by omega)).mono (Nat.le_succ _)).kept, (y.mono (Nat.le_succ _)).kept⟩
theorem CBd.at (c : CBd re sl lo c0 c1 xS) {op : Bool} {z : PipeSt} {n m : Nat} {f : Nat → Nat} (h : ZB z k) (hf : ∀ j, Bd (f j) 2) (h2 : 2 ≤ k) : ∀ q, k + 2 * q ≤ 92 → ZB (pipeAt n m xS 1 c0 c1 0 op lo re sl z f q) (k + 2 * q)
  | 0, _ => by rw [pipeAt_zero]; exact h
  | q + 1, hq => by
    rw [pipeAt_succ]
    exact c.next (k := k + 2 * q) (c.at h hf h2 q (by omega)) ((hf q).mono (by omega)) (by omega)
end
/-- kept numbers stay in the rings -/
structure ZK (z : PipeSt) : Prop where
  r : AllK z.R
  l : AllK z.L
theorem ZK.next {n m : Nat} {xS : List Nat} {c0 c1 lo re sl x : Nat} {op : Bool} {z : PipeSt} (h : ZK z) : ZK (pipeNext n m xS 1 c0 c1 0 op lo re sl z x) := by
  have a : ∀ i, AllK (stR z.R z.L xS re sl x i) := fun i => by
    induction i with
    | zero => exact h.r.push (KV.kept (fop_lt _ _ _ _))
    | succ i ih => exact ih.push (KV.kept (fop_lt _ _ _ _))
  have b : ∀ i, AllK (stL z.R z.L xS i) := fun i => by
    induction i with
    | zero => exact h.l
    | succ i ih => exact ih.push (KV.kept (fop_lt _ _ _ _))
  exact ⟨a m, (b m).push (KV.kept back_lt)⟩
theorem kept_same {s : Nat} (h : GoodS s) (h0 : s % 2147483648 ≠ 0) : keptF s = s := by
  obtain ⟨h1, h2, h3⟩ := h
  have hs : smallF s = false := by
    unfold smallF absF
    rw [fLt_sV (by omega) (by omega)]
    have e : sV (s % 2147483648) = ((rungVal (s % 2147483648) : Nat) : Int) := by
      unfold sV
      rw [if_neg (by rw [show s % 2147483648 / 2147483648 = 0 by omega]; decide), Nat.mod_mod]
    have e2 : sV 8388608 = ((rungVal 8388608 : Nat) : Int) := rfl
    have := rungVal_le (show 8388608 ≤ s % 2147483648 by omega)
    rw [e, e2, decide_eq_false (by omega)]
  unfold keptF flushF
  rw [if_pos (fin_of h2), if_neg (by rw [hs]; decide)]
/-- a kept number to which nothing is added stays -/
theorem kept_more {s t : Nat} (h : KV s) (ht : Z0 t) : keptF (fop .add .f32 s t) = s := by
  by_cases h0 : s % 2147483648 = 0
  · have e : s = 0 := by have := h.1.1; have := h.2; omega
    subst e
    exact kept0 (Z0.add Z0.o ht)
  · rw [add_zero_r rfl h.1.1 h.1.2.1 h0 ht]
    exact kept_same h.1 h0

/-- the samples of a ring, the oldest first -/
def que (D : List RD) (i : Nat) : List Nat := (D.getD i RD.d).xs.drop (D.getD i RD.d).at_.toNat ++ (D.getD i RD.d).xs.take (D.getD i RD.d).at_.toNat
/-- the place lies within -/
def Ins (D : List RD) (i : Nat) : Prop := (D.getD i RD.d).at_.toNat < (D.getD i RD.d).xs.length
section
variable {D : List RD} {i j a : Nat}
theorem que_old (h : Ins D i) : que D i = oldD D i :: (que D i).tail := by
  unfold Ins at h
  unfold que oldD
  generalize (D.getD i RD.d).at_.toNat = p at *
  generalize (D.getD i RD.d).xs = xs at *
  rw [List.drop_eq_getElem_cons h, List.cons_append, List.tail_cons, List.getD_eq_getElem?_getD, List.getElem?_eq_getElem h]; rfl
theorem que_push (hi : i < D.length) (h : Ins D i) : que (pushD D i a) i = (que D i).tail ++ [a] := by
  unfold Ins at h
  unfold que
  rw [pushD_same hi]
  simp only [Int.toNat_natCast]
  generalize (D.getD i RD.d).at_.toNat = p at *
  generalize (D.getD i RD.d).xs = xs at *
  rw [List.drop_eq_getElem_cons h, List.cons_append, List.tail_cons]
  rcases Nat.lt_or_ge (p + 1) xs.length with c | c
  · rw [Nat.mod_eq_of_lt c, List.drop_set_of_lt (by omega), List.append_assoc]
    congr 1
    rw [List.take_set, List.take_succ_eq_append_getElem h, List.set_append_right _ _ (by rw [List.length_take]; omega)]
    have e : p - (xs.take p).length = 0 := by rw [List.length_take]; omega
    rw [e]; rfl
  · have e : p + 1 = xs.length := by omega
    rw [e, Nat.mod_self, List.drop_zero, List.take_zero, List.append_nil, List.drop_eq_nil_of_le (by omega), List.nil_append]
    have e2 : xs = xs.take p ++ [xs[p]] := by
      rw [← List.take_succ_eq_append_getElem h, e, List.take_length]
    have e3 : xs.set p a = (xs.take p ++ [xs[p]]).set p a := by rw [← e2]
    rw [e3, List.set_append_right _ _ (by rw [List.length_take]; omega)]
    have e4 : p - (xs.take p).length = 0 := by rw [List.length_take]; omega
    rw [e4]; rfl
theorem que_other (h : i ≠ j) : que (pushD D i a) j = que D j := by
  unfold que; rw [pushD_other h]
theorem Ins.push (h : Ins D j) : Ins (pushD D i a) j := by
  by_cases hi : i < D.length
  · by_cases e : i = j
    · subst e
      unfold Ins at *
      rw [pushD_same hi]
      simp only [Int.toNat_natCast, List.length_set]
      exact Nat.mod_lt _ (by omega)
    · unfold Ins at *
      rw [pushD_other e]; exact h
  · rw [pushD_out hi]; exact h
end
/-- the pipe `x` of two sections is the pipe `y` of one -/
structure Two (x y : PipeSt) : Prop where
  xR : x.R.length = 2
  xL : x.L.length = 2
  yR : y.R.length = 1
  yL : y.L.length = 1
  iR : Ins x.R 0 ∧ Ins x.R 1 ∧ Ins y.R 0
  iL : Ins x.L 0 ∧ Ins x.L 1 ∧ Ins y.L 0
  qR : que y.R 0 = que x.R 1 ++ que x.R 0
  qL : que y.L 0 = que x.L 0 ++ que x.L 1
  s0 : x.s0 = y.s0
  s1 : x.s1 = y.s1
section
variable {x y : PipeSt} {re sl lo c0 c1 : Nat} {op : Bool} {b k : Nat}
theorem Two.oldR (h : Two x y) : oldD x.R 1 = oldD y.R 0 := by
  have e := h.qR
  rw [que_old h.iR.2.2, que_old h.iR.2.1, List.cons_append] at e
  exact (List.cons.inj e).1.symm
theorem Two.oldL (h : Two x y) : oldD x.L 0 = oldD y.L 0 := by
  have e := h.qL
  rw [que_old h.iL.2.2, que_old h.iL.1, List.cons_append] at e
  exact (List.cons.inj e).1.symm
theorem Two.next (h : Two x y) (kx : ZK x) (bx : ZB x k) (hk : k ≤ 90) : Two (pipeNext 2 1 [0] 1 c0 c1 0 op lo re sl x b) (pipeNext 1 0 [] 1 c0 c1 0 op lo re sl y b) := by
  have f0 : Bd (fop .sub .f32 (oldD x.R 0) (oldD x.L 1)) (k + 1) := Bd.sub2 (bx.r.old 0) (bx.l.old 1) (by omega)
  have fk : k + 1 ≤ 100 := by omega
  have z : Z0 (scatT x.R x.L [0] 0) := Z0.mul_l (fin_of (f0.fin fk)) Z0.o
  have eR := h.oldR
  have eL := h.oldL
  have k1 : keptF (fop .add .f32 (oldD x.R 0) (scatT x.R x.L [0] 0)) = oldD x.R 0 := kept_more (kx.r.old 0) z
  have k2 : keptF (fop .add .f32 (oldD x.L 1) (scatT x.R x.L [0] 0)) = oldD x.L 1 := kept_more (kx.l.old 1) z
  have e1 : stR x.R x.L [0] re sl b 1 = pushD (pushD x.R 0 (breathT x.L re sl b)) 1 (oldD x.R 0) := by
    show pushD (pushD x.R 0 (breathT x.L re sl b)) (0 + 1) _ = _
    rw [k1]
  have e2 : stL x.R x.L [0] 1 = pushD x.L 0 (oldD x.L 1) := by
    show pushD x.L 0 (keptF (fop .add .f32 (oldD x.L (0 + 1)) _)) = _
    rw [show 0 + 1 = 1 from rfl, k2]
  have e3 : breathT x.L re sl b = breathT y.L re sl b := by unfold breathT; rw [eL]
  have e4 : stepY 1 c0 c1 0 x.s0 x.s1 (oldD x.R (2 - 1)) = stepY 1 c0 c1 0 y.s0 y.s1 (oldD y.R (1 - 1)) := by rw [h.s0, h.s1]; show stepY _ _ _ _ _ _ (oldD x.R 1) = stepY _ _ _ _ _ _ (oldD y.R 0); rw [eR]
  have e5 : stepS 1 c0 c1 0 x.s0 x.s1 (oldD x.R (2 - 1)) = stepS 1 c0 c1 0 y.s0 y.s1 (oldD y.R (1 - 1)) := by rw [h.s0, h.s1]; show stepS _ _ _ _ _ _ (oldD x.R 1) = stepS _ _ _ _ _ _ (oldD y.R 0); rw [eR]
  have e6 : stepT 1 c0 c1 0 x.s0 x.s1 (oldD x.R (2 - 1)) = stepT 1 c0 c1 0 y.s0 y.s1 (oldD y.R (1 - 1)) := by rw [h.s0, h.s1]; show stepT _ _ _ _ _ _ (oldD x.R 1) = stepT _ _ _ _ _ _ (oldD y.R 0); rw [eR]
  have lx0 : (pushD x.R 0 (breathT x.L re sl b)).length = 2 := pushD_len h.xR
  have ll0 : (pushD x.L 0 (oldD x.L 1)).length = 2 := pushD_len h.xL
  unfold pipeNext endL
  rw [e1, e2, e4, e5, e6, e3]
  rw [e3] at lx0
  refine ⟨pushD_len lx0, pushD_len ll0, pushD_len h.yR, pushD_len h.yL, ⟨h.iR.1.push.push, h.iR.2.1.push.push, h.iR.2.2.push⟩, ⟨h.iL.1.push.push, h.iL.2.1.push.push, h.iL.2.2.push⟩, ?_, ?_, rfl, rfl⟩
  · show que (pushD y.R 0 (breathT y.L re sl b)) 0 = que (pushD (pushD x.R 0 (breathT y.L re sl b)) 1 (oldD x.R 0)) 1 ++ que (pushD (pushD x.R 0 (breathT y.L re sl b)) 1 (oldD x.R 0)) 0
    rw [que_push (by rw [h.yR]; omega) h.iR.2.2, que_push (i := 1) (by rw [lx0]; omega) h.iR.2.1.push, que_other (i := 1) (j := 0) (by omega), que_other (i := 0) (j := 1) (by omega), que_push (by rw [h.xR]; omega) h.iR.1, h.qR]
    have q1 := que_old h.iR.1
    have q2 := que_old h.iR.2.1
    generalize (que x.R 0).tail = t0 at *
    generalize (que x.R 1).tail = t1 at *
    rw [q1, q2]
    simp
  · show que (pushD y.L 0 _) 0 = que (pushD (pushD x.L 0 (oldD x.L 1)) (2 - 1) _) 0 ++ que (pushD (pushD x.L 0 (oldD x.L 1)) (2 - 1) _) 1
    rw [show 2 - 1 = 1 from rfl, que_push (by rw [h.yL]; omega) h.iL.2.2, que_push (i := 1) (by rw [ll0]; omega) h.iL.2.1.push, que_other (i := 1) (j := 0) (by omega), que_other (i := 0) (j := 1) (by omega), que_push (by rw [h.xL]; omega) h.iL.1, h.qL]
    have q1 := que_old h.iL.1
    have q2 := que_old h.iL.2.1
    generalize (que x.L 0).tail = t0 at *
    generalize (que x.L 1).tail = t1 at *
    rw [q1, q2]
    simp
theorem two_at (c : CBd re sl lo c0 c1 [0]) {f : Nat → Nat} (h : Two x y) (kx : ZK x) (bx : ZB x 3) (hf : ∀ j, Bd (f j) 2) : ∀ q, q ≤ 40 → Two (pipeAt 2 1 [0] 1 c0 c1 0 op lo re sl x f q) (pipeAt 1 0 [] 1 c0 c1 0 op lo re sl y f q) ∧ ZK (pipeAt 2 1 [0] 1 c0 c1 0 op lo re sl x f q)
  | 0, _ => by rw [pipeAt_zero, pipeAt_zero]; exact ⟨h, kx⟩
  | q + 1, hq => by
    obtain ⟨a, b⟩ := two_at c h kx bx hf q (by omega)
    rw [pipeAt_succ, pipeAt_succ]
    exact ⟨a.next b (c.at bx hf (by omega) q (by omega)) (by omega), b.next⟩
theorem two_out (c : CBd re sl lo c0 c1 [0]) {f : Nat → Nat} (h : Two x y) (kx : ZK x) (bx : ZB x 3) (hf : ∀ j, Bd (f j) 2) {q : Nat} (hq : q ≤ 40) : pipeOut 2 1 [0] 1 c0 c1 0 op lo re sl x f q = pipeOut 1 0 [] 1 c0 c1 0 op lo re sl y f q := by
  obtain ⟨a, _⟩ := two_at (op := op) c h kx bx hf q hq
  unfold pipeOut
  rw [a.s0, a.s1]
  show stepY _ _ _ _ _ _ (oldD _ 1) = stepY _ _ _ _ _ _ (oldD _ 0)
  rw [a.oldR]
theorem outs_congr {f g : Nat → Nat} {n : Nat} (h : ∀ q, q < n → f q = g q) : outs f n = outs g n := by
  unfold outs
  exact List.map_congr_left fun q hq => h q (by simpa using hq)
end
/-- new pipes -/
def ringN (n : Nat) : RD := ⟨List.replicate n 0, 0⟩
def zNewL (ns : List Nat) : PipeSt := ⟨ns.map ringN, ns.map ringN, 0, 0⟩
theorem newK (ns : List Nat) : ZK (zNewL ns) := ⟨fun i j => by
    show KV ((((ns.map ringN).getD i RD.d).xs.getD j 0))
    rw [show ((ns.map ringN).getD i RD.d).xs.getD j 0 = 0 from getD_new i j]; exact KV.zero, fun i j => by
    show KV ((((ns.map ringN).getD i RD.d).xs.getD j 0))
    rw [show ((ns.map ringN).getD i RD.d).xs.getD j 0 = 0 from getD_new i j]; exact KV.zero⟩
theorem newB (ns : List Nat) (k : Nat) : ZB (zNewL ns) k := ⟨fun i j => by
    show Bd ((((ns.map ringN).getD i RD.d).xs.getD j 0)) k
    rw [show ((ns.map ringN).getD i RD.d).xs.getD j 0 = 0 from getD_new i j]; exact Bd.zero, fun i j => by
    show Bd ((((ns.map ringN).getD i RD.d).xs.getD j 0)) k
    rw [show ((ns.map ringN).getD i RD.d).xs.getD j 0 = 0 from getD_new i j]; exact Bd.zero, Bd.zero⟩
theorem ins_new {n : Nat} (h : 0 < n) (D : List RD) (i : Nat) (e : D.getD i RD.d = ringN n) : Ins D i := by
  unfold Ins
  rw [e]
  show 0 < (List.replicate n 0).length
  rw [List.length_replicate]; exact h
theorem que_new {n : Nat} (D : List RD) (i : Nat) (e : D.getD i RD.d = ringN n) : que D i = List.replicate n 0 := by
  unfold que
  rw [e]
  show List.drop 0 (List.replicate n 0) ++ List.take 0 (List.replicate n 0) = _
  simp
theorem two_new {m n : Nat} (hm : 0 < m) (hn : 0 < n) : Two (zNewL [m, n]) (zNewL [m + n]) :=
  ⟨rfl, rfl, rfl, rfl, ⟨ins_new hm _ _ rfl, ins_new hn _ _ rfl, ins_new (n := m + n) (by omega) _ _ rfl⟩, ⟨ins_new hm _ _ rfl, ins_new hn _ _ rfl, ins_new (n := m + n) (by omega) _ _ rfl⟩,
    by rw [que_new (n := m + n) _ _ rfl, que_new (n := m) _ 0 rfl, que_new (n := n) _ 1 rfl, List.replicate_append_replicate, Nat.add_comm],
    by rw [que_new (n := m + n) _ _ rfl, que_new (n := m) _ 0 rfl, que_new (n := n) _ 1 rfl, List.replicate_append_replicate], rfl, rfl⟩
end Go.Proofs.Ytnahhdnkbbdceaa
