/- Drawn pipes: bounds by whole numbers, by the sections and the signs of the scatterings. -/
import Derived.Test.YtnahhdnkbbdceaaN8
import Derived.Test.YtnahhdnkbbdceaaF19
import Derived.Test.YtnahhdnkbbdceaaE19
set_option linter.unusedVariables false
set_option linter.unusedSimpArgs false
set_option maxRecDepth 100000
namespace Go.Proofs.Ytnahhdnkbbdceaa
open Ieee

section
variable {x y M N k r l p q c s : Nat}
theorem IB.kept (h : IB x M) : IB (keptF x) M := by
  unfold keptF flushF
  split
  · split
    · exact IB.zero
    · exact h
  · exact IB.zero
theorem IB.neg (h : IB x M) : IB (Op.negFloat .f32 x) M := by
  unfold IB at *
  rw [sV_abs] at *
  rw [negFloat_mod]; exact h
theorem IB.of_bd (h : Bd x k) (hk : k ≤ 100) (e : 2 ^ k = M) : IB x M := by
  refine ⟨h.fin hk, ?_⟩
  rw [sV_abs]
  refine Nat.le_trans h.val ?_
  rw [Nat.pow_add, e]
  exact Nat.mul_le_mul_left _ (by decide +kernel)
theorem IB.bd (h : IB x M) (hM : M ≤ 8192) : Bd x 13 := by
  have h2 := h.2
  rw [sV_abs] at h2
  have e := rung_two 13
  have e2 : (2 : Nat) ^ (13 + 149) = 8192 * 713623846352979940529142984724747568191373312 := by decide +kernel
  unfold Bd
  rcases Nat.lt_or_ge ((127 + 13) * 8388608) (x % 2147483648) with c | c
  · have := rungVal_lt c
    rw [e, e2] at this
    omega
  · exact c
theorem IB.mulc (hc : Bd c 0) (h : IB x M) : IB (fop .mul .f32 c x) M := by
  obtain ⟨a, b, _⟩ := mul_IB (c := c) (by unfold Bd at hc; omega) h.1
  exact ⟨a, by have := h.2; omega⟩
theorem IB.add (hx : IB x M) (hy : IB y N) (h : M + N < 8192) : IB (fop .add .f32 x y) (M + N) := by
  have h1 := hx.2
  have h2 := hy.2
  exact (add_IB hx.1 hy.1 h (by omega)).1
theorem scat_pos (hk : Bd k 0) (h0 : k / 2147483648 % 2 = 0) (hr : IB r p) (hl : IB l q) (h : 2 * p + q < 8000) (h' : max p q + 1 < 8000) : IB (fop .add .f32 r (fop .mul .f32 k (fop .sub .f32 r l))) (2 * p + q) ∧ IB (fop .add .f32 l (fop .mul .f32 k (fop .sub .f32 r l))) (max p q + 1) := by
  have h1 := hr.2
  have h2 := hl.2
  obtain ⟨d1, d2⟩ := sub_IB (M := p + q) hr.1 hl.1 (by omega) (by omega)
  obtain ⟨t1, t2, t3, _⟩ := mul_IB (c := k) (by unfold Bd at hk; omega) d1.1
  obtain ⟨t4, t5⟩ := t3 h0
  have d3 := d1.2
  generalize fop .sub .f32 r l = d at *
  generalize fop .mul .f32 k d = t at *
  refine ⟨(add_IB hr.1 t1 (by omega) ?_).1, (add_IB hl.1 t1 (by omega) ?_).1⟩
  · omega
  · have m1 : p ≤ max p q := Nat.le_max_left _ _
    have m2 : q ≤ max p q := Nat.le_max_right _ _
    generalize max p q = m at *
    rcases Int.le_total 0 (sV d) with c | c
    · have := t4 c; omega
    · have := t5 c; omega
theorem scat_neg (hk : Bd k 0) (h0 : k / 2147483648 % 2 = 1) (hr : IB r p) (hl : IB l q) (h : 2 * q + p < 8000) (h' : max p q + 1 < 8000) : IB (fop .add .f32 r (fop .mul .f32 k (fop .sub .f32 r l))) (max p q + 1) ∧ IB (fop .add .f32 l (fop .mul .f32 k (fop .sub .f32 r l))) (2 * q + p) := by
  have h1 := hr.2
  have h2 := hl.2
  obtain ⟨d1, d2⟩ := sub_IB (M := p + q) hr.1 hl.1 (by omega) (by omega)
  obtain ⟨t1, t2, _, t3⟩ := mul_IB (c := k) (by unfold Bd at hk; omega) d1.1
  obtain ⟨t4, t5⟩ := t3 h0
  have d3 := d1.2
  generalize fop .sub .f32 r l = d at *
  generalize fop .mul .f32 k d = t at *
  refine ⟨(add_IB hr.1 t1 (by omega) ?_).1, (add_IB hl.1 t1 (by omega) ?_).1⟩
  · have m1 : p ≤ max p q := Nat.le_max_left _ _
    have m2 : q ≤ max p q := Nat.le_max_right _ _
    generalize max p q = m at *
    rcases Int.le_total 0 (sV d) with c | c
    · have := t4 c; omega
    · have := t5 c; omega
  · omega
end
section
variable {re sl lo c0 c1 x q p e : Nat} {xS : List Nat} {L : List RD} {op : Bool}
theorem CBd.breathI (c : CBd re sl lo c0 c1 xS) (h : IB (oldD L 0) q) (hx : Bd x 1) (hq : q + 4 < 8000) : IB (breathT L re sl x) (q + 4) := by
  have hx2 : IB x 2 := IB.of_bd hx (by omega) rfl
  have h1 := h.2
  have h2 := hx2.2
  obtain ⟨d1, _⟩ := sub_IB (M := q + 2) h.1 hx2.1 (by omega) (by omega)
  unfold breathT
  have hr := c.reed (d1.bd (by omega)) (by omega)
  rw [fop_mul_comm]
  have m := d1.mulc hr
  have a := hx2.add m (by omega)
  rw [show 2 + (q + 2) = q + 4 by omega] at a
  exact a.kept
theorem CBd.filtI (c : CBd re sl lo c0 c1 xS) {s0 s1 r : Nat} (hr : IB r p) (hs : IB s0 e) (h : e + p < 8000) : IB (stepY 1 c0 c1 0 s0 s1 r) (e + p) := by
  rw [stepY_one, Nat.add_comm]
  exact (hr.mulc c.c0).add (hs.mulc c.c1) (by omega)
theorem CBd.backI (c : CBd re sl lo c0 c1 xS) {y : Nat} (h : IB y p) : IB (backT op lo y) p := by
  unfold backT
  split
  · exact (h.mulc c.lo).neg
  · exact h.mulc c.lo
end
theorem push_IB {D : List RD} {i a : Nat} {f g : Nat → Nat} (h : ∀ p q, IB ((D.getD p RD.d).xs.getD q 0) (f p)) (hm : ∀ p, f p ≤ g p) (ha : IB a (g i)) (p q : Nat) : IB (((pushD D i a).getD p RD.d).xs.getD q 0) (g p) := by
  by_cases hi : i < D.length
  · by_cases e : i = p
    · subst e
      rw [pushD_same hi]
      exact set_all (P := fun s => IB s (g i)) (fun j => (h i j).mono (hm i)) ha q
    · rw [pushD_other e]; exact (h p q).mono (hm p)
  · rw [pushD_out hi]; exact (h p q).mono (hm p)

/-- the bounds behind a step: three to the right, three to the left, the filter's -/
def tabI (n : Nat) (s0 s1 : Bool) : List (List Nat) :=
  if n = 1 then [[0, 0, 0, 0, 0, 0, 0], [4, 0, 0, 0, 0, 0, 0], [4, 0, 0, 4, 0, 0, 4], [8, 0, 0, 8, 0, 0, 8], [12, 0, 0, 16, 0, 0, 16], [20, 0, 0, 28, 0, 0, 28], [32, 0, 0, 48, 0, 0, 48], [52, 0, 0, 80, 0, 0, 80], [84, 0, 0, 132, 0, 0, 132], [136, 0, 0, 216, 0, 0, 216], [220, 0, 0, 352, 0, 0, 352], [356, 0, 0, 572, 0, 0, 572]] else
  if n = 2 then (if s0 then [[0, 0, 0, 0, 0, 0, 0], [4, 0, 0, 1, 0, 0, 0], [5, 8, 0, 5, 0, 0, 0], [9, 10, 0, 6, 8, 0, 8], [10, 26, 0, 10, 18, 0, 18], [14, 38, 0, 19, 44, 0, 44], [23, 72, 0, 45, 82, 0, 82], [49, 128, 0, 83, 154, 0, 154], [87, 252, 0, 155, 282, 0, 282], [159, 456, 0, 283, 534, 0, 534], [287, 852, 0, 535, 990, 0, 990], [539, 1564, 0, 991, 1842, 0, 1842]] else [[0, 0, 0, 0, 0, 0, 0], [4, 1, 0, 0, 0, 0, 0], [4, 5, 0, 4, 1, 0, 1], [8, 5, 0, 6, 6, 0, 6], [10, 9, 0, 20, 11, 0, 11], [24, 12, 0, 32, 20, 0, 20], [36, 25, 0, 64, 32, 0, 32], [68, 37, 0, 100, 57, 0, 57], [104, 69, 0, 182, 94, 0, 94], [186, 105, 0, 292, 163, 0, 163], [296, 187, 0, 512, 268, 0, 268], [516, 297, 0, 832, 455, 0, 455]]) else
  if s0 then (if s1 then [[0, 0, 0, 0, 0, 0, 0], [4, 0, 0, 1, 1, 0, 0], [5, 9, 0, 5, 1, 0, 0], [9, 11, 18, 6, 10, 0, 0], [10, 28, 22, 11, 12, 18, 18], [15, 32, 74, 13, 29, 40, 40], [17, 59, 104, 30, 41, 114, 114], [34, 75, 232, 42, 115, 218, 218], [46, 183, 368, 116, 219, 450, 450], [120, 311, 816, 220, 451, 818, 818], [224, 691, 1440, 452, 819, 1634, 1634], [456, 1267, 3016, 820, 1635, 3074, 3074]] else [[0, 0, 0, 0, 0, 0, 0], [4, 0, 1, 1, 0, 0, 0], [5, 8, 1, 5, 0, 1, 1], [9, 10, 9, 6, 10, 2, 2], [10, 28, 11, 11, 14, 11, 11], [15, 34, 29, 15, 50, 22, 22], [19, 80, 35, 51, 78, 51, 51], [55, 116, 81, 79, 182, 86, 86], [83, 292, 117, 183, 288, 167, 167], [187, 454, 293, 289, 626, 284, 284], [293, 1000, 455, 627, 1022, 577, 577], [631, 1608, 1001, 1023, 2154, 1032, 1032]]) else (if s1 then [[0, 0, 0, 0, 0, 0, 0], [4, 1, 0, 0, 1, 0, 0], [4, 5, 2, 6, 2, 0, 0], [10, 5, 10, 8, 6, 2, 2], [12, 11, 12, 22, 6, 12, 12], [26, 13, 34, 24, 13, 24, 24], [28, 27, 50, 52, 25, 58, 58], [56, 29, 112, 78, 59, 108, 108], [82, 60, 166, 174, 109, 220, 220], [178, 110, 340, 300, 221, 386, 386], [304, 222, 606, 620, 387, 726, 726], [624, 388, 1170, 1078, 727, 1332, 1332]] else [[0, 0, 0, 0, 0, 0, 0], [4, 1, 1, 0, 0, 0, 0], [4, 5, 2, 4, 1, 1, 1], [8, 5, 6, 6, 7, 3, 3], [10, 9, 6, 22, 11, 9, 9], [26, 12, 10, 32, 27, 15, 15], [36, 28, 16, 80, 42, 25, 25], [84, 43, 29, 120, 78, 41, 41], [124, 85, 44, 240, 125, 70, 70], [244, 126, 86, 374, 225, 114, 114], [378, 245, 127, 694, 354, 200, 200], [698, 379, 246, 1086, 645, 327, 327]])
def rowI (n : Nat) (s0 s1 : Bool) (t : Nat) : List Nat := (tabI n s0 s1).getD t []
def okJ (s : Bool) (a b a' b' : Nat) : Bool := if s then decide (2 * a + b ≤ a') && decide (max a b + 1 ≤ b') else decide (max a b + 1 ≤ a') && decide (2 * b + a ≤ b')
def okRow (n : Nat) (s0 s1 : Bool) (r r' : List Nat) : Bool :=
  (List.range 7).all (fun i => decide (r.getD i 0 ≤ r'.getD i 0) && decide (r'.getD i 0 ≤ 3100)) && decide (r.length = 7) && decide (r'.length = 7) && decide (r.getD 3 0 + 4 ≤ r'.getD 0 0) && (decide (n < 2) || okJ s0 (r.getD 0 0) (r.getD 4 0) (r'.getD 1 0) (r'.getD 3 0)) && (decide (n < 3) || okJ s1 (r.getD 1 0) (r.getD 5 0) (r'.getD 2 0) (r'.getD 4 0)) &&
  decide (r.getD 6 0 + r.getD (n - 1) 0 ≤ r'.getD 6 0) && decide (r.getD 6 0 + r.getD (n - 1) 0 ≤ r'.getD (3 + (n - 1)) 0)
theorem okRow_t : [1, 2, 3].all (fun n => [true, false].all fun s0 => [true, false].all fun s1 => (List.range 11).all fun t => okRow n s0 s1 (rowI n s0 s1 t) (rowI n s0 s1 (t + 1))) = true := by decide +kernel
structure RowOk (n : Nat) (s0 s1 : Bool) (r r' : List Nat) : Prop where
  le : ∀ i, r.getD i 0 ≤ r'.getD i 0
  hi : ∀ i, r'.getD i 0 ≤ 3100
  br : r.getD 3 0 + 4 ≤ r'.getD 0 0
  j0 : 2 ≤ n → okJ s0 (r.getD 0 0) (r.getD 4 0) (r'.getD 1 0) (r'.getD 3 0) = true
  j1 : 3 ≤ n → okJ s1 (r.getD 1 0) (r.getD 5 0) (r'.getD 2 0) (r'.getD 4 0) = true
  f : r.getD 6 0 + r.getD (n - 1) 0 ≤ r'.getD 6 0
  b : r.getD 6 0 + r.getD (n - 1) 0 ≤ r'.getD (3 + (n - 1)) 0
theorem getD_long {r : List Nat} {i : Nat} (h : r.length = 7) (hi : 7 ≤ i) : r.getD i 0 = 0 := by
  rw [List.getD_eq_getElem?_getD, List.getElem?_eq_none (by omega)]; rfl
theorem row_ok {n t : Nat} (s0 s1 : Bool) (h1 : 1 ≤ n) (h3 : n ≤ 3) (ht : t < 11) : RowOk n s0 s1 (rowI n s0 s1 t) (rowI n s0 s1 (t + 1)) := by
  have h := List.all_eq_true.1 okRow_t n (by simp; omega)
  have h := List.all_eq_true.1 h s0 (by cases s0 <;> simp)
  have h := List.all_eq_true.1 h s1 (by cases s1 <;> simp)
  have h := List.all_eq_true.1 h t (List.mem_range.2 ht)
  generalize rowI n s0 s1 t = r at *
  generalize rowI n s0 s1 (t + 1) = r' at *
  simp only [okRow, Bool.and_eq_true, decide_eq_true_eq, Bool.or_eq_true] at h
  obtain ⟨⟨⟨⟨⟨⟨⟨a, l1⟩, l2⟩, b⟩, c⟩, d⟩, e⟩, f⟩ := h
  have g : ∀ i, r.getD i 0 ≤ r'.getD i 0 ∧ r'.getD i 0 ≤ 3100 := fun i => by
    rcases Nat.lt_or_ge i 7 with hi | hi
    · have := List.all_eq_true.1 a i (List.mem_range.2 hi)
      simpa only [Bool.and_eq_true, decide_eq_true_eq] using this
    · rw [getD_long l1 hi, getD_long l2 hi]; omega
  exact ⟨fun i => (g i).1, fun i => (g i).2, b, fun hn => by rcases c with c | c; · omega
                                                             · exact c, fun hn => by rcases d with d | d; · omega
                                                                                     · exact d, e, f⟩
theorem row_le {n : Nat} (s0 s1 : Bool) (h1 : 1 ≤ n) (h3 : n ≤ 3) {t u : Nat} (hu : u ≤ 11) : ∀ d, t + d = u → ∀ i, (rowI n s0 s1 t).getD i 0 ≤ (rowI n s0 s1 u).getD i 0
  | 0, h, i => by rw [show t = u by omega]; exact Nat.le_refl _
  | d + 1, h, i => by
    have a := row_le s0 s1 h1 h3 (t := t) (u := u - 1) (by omega) d (by omega) i
    have b := (row_ok s0 s1 h1 h3 (t := u - 1) (by omega)).le i
    rw [show u - 1 + 1 = u by omega] at b
    exact Nat.le_trans a b
def sgI (xS : List Nat) (i : Nat) : Bool := decide (xS.getD i 0 / 2147483648 % 2 = 0)
/-- a drawn pipe behind at most `t` steps from silence -/
structure DPi (nR nS : Nat) (xS : List Nat) (c0 c1 lo re sl : Nat) (z : PipeSt) (t : Nat) : Prop where
  dz : DPz nR nS xS c0 c1 lo re sl z (2 * t + 3)
  r : ∀ i j, IB ((z.R.getD i RD.d).xs.getD j 0) ((rowI nR (sgI xS 0) (sgI xS 1) t).getD i 0)
  l : ∀ i j, IB ((z.L.getD i RD.d).xs.getD j 0) ((rowI nR (sgI xS 0) (sgI xS 1) t).getD (3 + i) 0)
  s : IB z.s0 ((rowI nR (sgI xS 0) (sgI xS 1) t).getD 6 0)
section
variable {nR nS c0 c1 lo re sl t u : Nat} {xS : List Nat} {z : PipeSt} {op : Bool} {x : Nat}
theorem DPi.mono (h : DPi nR nS xS c0 c1 lo re sl z t) (hl : t ≤ u) (hu : u ≤ 11) : DPi nR nS xS c0 c1 lo re sl z u := by
  have k := row_le (sgI xS 0) (sgI xS 1) h.dz.n1 h.dz.n3 (t := t) hu (u - t) (by omega)
  exact ⟨h.dz.mono (by omega), fun i j => (h.r i j).mono (k _), fun i j => (h.l i j).mono (k _), h.s.mono (k _)⟩
theorem DPi.reed {re' sl' : Nat} (h : DPi nR nS xS c0 c1 lo re sl z t) (a : Bd re' 2) (b : Bd sl' 2) : DPi nR nS xS c0 c1 lo re' sl' z t := ⟨h.dz.reed a b, h.r, h.l, h.s⟩
theorem DPi.out (h : DPi nR nS xS c0 c1 lo re sl z t) (ht : t < 11) : (∀ i j, IB ((z.R.getD i RD.d).xs.getD j 0) 3100) ∧ ∀ i j, IB ((z.L.getD i RD.d).xs.getD j 0) 3100 := by
  have k := row_ok (sgI xS 0) (sgI xS 1) h.dz.n1 h.dz.n3 ht
  exact ⟨fun i j => (h.r i j).mono (Nat.le_trans (k.le _) (k.hi _)), fun i j => (h.l i j).mono (Nat.le_trans (k.le _) (k.hi _))⟩
theorem DPi.next (h : DPi nR nS xS c0 c1 lo re sl z t) (hx : Bd x 1) (ht : t < 11) : DPi nR nS xS c0 c1 lo re sl (pipeNext nR nS xS 1 c0 c1 0 op lo re sl z x) (t + 1) := by
  have k := row_ok (sgI xS 0) (sgI xS 1) h.dz.n1 h.dz.n3 ht
  have hz := h.dz.next (op := op) (hx.mono (by omega)) (by omega)
  have hr := h.r
  have hl := h.l
  have hs := h.s
  have cb := h.dz.cb
  have n1 := h.dz.n1
  have n3 := h.dz.n3
  have sn := h.dz.sn
  have bnd : ∀ i, (rowI nR (sgI xS 0) (sgI xS 1) t).getD i 0 ≤ 3100 := fun i => Nat.le_trans (k.le i) (k.hi i)
  generalize hv : rowI nR (sgI xS 0) (sgI xS 1) t = v at *
  generalize hw : rowI nR (sgI xS 0) (sgI xS 1) (t + 1) = w at *
  -- what is scattered
  have sc : ∀ i, i < nS → IB (fop .add .f32 (oldD z.R i) (scatT z.R z.L xS i)) (w.getD (i + 1) 0) ∧ IB (fop .add .f32 (oldD z.L (i + 1)) (scatT z.R z.L xS i)) (w.getD (3 + i) 0) := fun i hi => by
    have hj : okJ (sgI xS i) (v.getD i 0) (v.getD (3 + (i + 1)) 0) (w.getD (i + 1) 0) (w.getD (3 + i) 0) = true := by
      rcases (show i = 0 ∨ i = 1 by omega) with e | e
      · subst e; exact k.j0 (by omega)
      · subst e; exact k.j1 (by omega)
    have b1 := bnd i
    have b2 := bnd (3 + (i + 1))
    have hm : max (v.getD i 0) (v.getD (3 + (i + 1)) 0) + 1 < 8000 := by
      have : max (v.getD i 0) (v.getD (3 + (i + 1)) 0) ≤ 3100 := Nat.max_le.2 ⟨b1, b2⟩
      omega
    have w1 := k.hi (i + 1)
    have w2 := k.hi (3 + i)
    unfold okJ at hj
    cases hsg : sgI xS i
    · rw [hsg] at hj
      simp only [Bool.false_eq_true, if_false, Bool.and_eq_true, decide_eq_true_eq] at hj
      have hb : xS.getD i 0 / 2147483648 % 2 = 1 := by
        have := of_decide_eq_false hsg; omega
      obtain ⟨a, b⟩ := scat_neg (cb.xS i) hb (hr i (z.R.getD i RD.d).at_.toNat) (hl (i + 1) (z.L.getD (i + 1) RD.d).at_.toNat) (by omega) hm
      exact ⟨a.mono hj.1, b.mono hj.2⟩
    · rw [hsg] at hj
      simp only [if_true, Bool.and_eq_true, decide_eq_true_eq] at hj
      obtain ⟨a, b⟩ := scat_pos (cb.xS i) (of_decide_eq_true hsg) (hr i (z.R.getD i RD.d).at_.toNat) (hl (i + 1) (z.L.getD (i + 1) RD.d).at_.toNat) (by omega) hm
      exact ⟨a.mono hj.1, b.mono hj.2⟩
  have sR : ∀ m, m ≤ nS → ∀ p q, IB (((stR z.R z.L xS re sl x m).getD p RD.d).xs.getD q 0) (w.getD p 0) := by
    intro m
    induction m with
    | zero =>
      intro _
      have b0 := bnd (3 + 0)
      exact push_IB (f := fun p => v.getD p 0) (g := fun p => w.getD p 0) hr k.le ((cb.breathI (hl 0 (z.L.getD 0 RD.d).at_.toNat) hx (by omega)).mono k.br)
    | succ m ih =>
      intro hm
      exact push_IB (f := fun p => w.getD p 0) (g := fun p => w.getD p 0) (ih (by omega)) (fun _ => Nat.le_refl _) (sc m (by omega)).1.kept
  have sL : ∀ m, m ≤ nS → ∀ p q, IB (((stL z.R z.L xS m).getD p RD.d).xs.getD q 0) (w.getD (3 + p) 0) := by
    intro m
    induction m with
    | zero => exact fun _ p q => (hl p q).mono (k.le _)
    | succ m ih =>
      intro hm
      exact push_IB (f := fun p => w.getD (3 + p) 0) (g := fun p => w.getD (3 + p) 0) (ih (by omega)) (fun _ => Nat.le_refl _) (sc m (by omega)).2.kept
  have b1 := bnd (nR - 1)
  have b2 := bnd 6
  have fy := cb.filtI (s1 := z.s1) (hr (nR - 1) (z.R.getD (nR - 1) RD.d).at_.toNat) hs (by omega)
  refine ⟨by rw [show 2 * (t + 1) + 3 = 2 * t + 3 + 2 by omega]; exact hz, ?_, ?_, ?_⟩
  · rw [hw]; exact sR nS (Nat.le_refl _)
  · rw [hw]
    exact push_IB (f := fun p => w.getD (3 + p) 0) (g := fun p => w.getD (3 + p) 0) (sL nS (Nat.le_refl _)) (fun _ => Nat.le_refl _) ((cb.backI fy).mono k.b).kept
  · rw [hw]
    show IB (stepS 1 c0 c1 0 z.s0 z.s1 (oldD z.R (nR - 1))) _
    unfold stepS
    rw [if_pos rfl]
    exact (fy.mono k.f).kept
end
theorem DPi.new {ns xS : List Nat} {c0 c1 lo re sl : Nat} (h1 : 1 ≤ ns.length) (h3 : ns.length ≤ 3) (hS : xS.length + 1 = ns.length) (hn : ∀ i, i < ns.length → 1 ≤ ns.getD i 0 ∧ ns.getD i 0 ≤ 5) (cb : CBd re sl lo c0 c1 xS) (sc : vSc xS xS.length = true) : DPi ns.length xS.length xS c0 c1 lo re sl (zNewL ns) 0 := by
  have z : ∀ i j, ((ns.map ringN).getD i RD.d).xs.getD j 0 = 0 := fun i j => getD_new i j
  refine ⟨DPz.new h1 h3 hS hn cb sc, fun i j => ?_, fun i j => ?_, IB.zero⟩
  · show IB (((ns.map ringN).getD i RD.d).xs.getD j 0) _
    rw [z]; exact IB.zero
  · show IB (((ns.map ringN).getD i RD.d).xs.getD j 0) _
    rw [z]; exact IB.zero
end Go.Proofs.Ytnahhdnkbbdceaa
