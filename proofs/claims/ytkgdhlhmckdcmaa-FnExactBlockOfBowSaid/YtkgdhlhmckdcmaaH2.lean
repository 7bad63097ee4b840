/- What a bow makes of a block and of a list; what pulling does. -/
import Derived.Test.YtkgdhlhmckdcmaaH1
import Derived.Test.YtkgdhlhmckdcmaaB4
import Derived.Test.YtkgdhlhmckdcmaaE11
set_option linter.unusedVariables false
set_option linter.unusedSimpArgs false
namespace Go.Proofs.Ytkgdhlhmckdcmaa

structure BowSt where
  xs : List Nat
  i : Nat
  ys : List Nat
  h : Nat
  s0 : Nat
  s1 : Nat
def bowAtNext (n m : Nat) (dk : Int) (dc0 dc1 dc2 sl lo : Nat) (z : BowSt) (x : Nat) : BowSt :=
  ⟨z.xs.set z.i (keptF (fop .add .f32 (Op.negFloat .f32 (fop .mul .f32 lo (stepY dk dc0 dc1 dc2 z.s0 z.s1 (z.ys.getD z.h 0)))) (fop .mul .f32 (fop .sub .f32 x (fop .add .f32 (Op.negFloat .f32 (fop .mul .f32 lo (stepY dk dc0 dc1 dc2 z.s0 z.s1 (z.ys.getD z.h 0)))) (Op.negFloat .f32 (z.xs.getD z.i 0)))) (fricF sl (fop .sub .f32 x (fop .add .f32 (Op.negFloat .f32 (fop .mul .f32 lo (stepY dk dc0 dc1 dc2 z.s0 z.s1 (z.ys.getD z.h 0)))) (Op.negFloat .f32 (z.xs.getD z.i 0)))))))), (z.i + 1) % n, z.ys.set z.h (keptF (fop .add .f32 (Op.negFloat .f32 (z.xs.getD z.i 0)) (fop .mul .f32 (fop .sub .f32 x (fop .add .f32 (Op.negFloat .f32 (fop .mul .f32 lo (stepY dk dc0 dc1 dc2 z.s0 z.s1 (z.ys.getD z.h 0)))) (Op.negFloat .f32 (z.xs.getD z.i 0)))) (fricF sl (fop .sub .f32 x (fop .add .f32 (Op.negFloat .f32 (fop .mul .f32 lo (stepY dk dc0 dc1 dc2 z.s0 z.s1 (z.ys.getD z.h 0)))) (Op.negFloat .f32 (z.xs.getD z.i 0)))))))), (z.h + 1) % m, (stepS dk dc0 dc1 dc2 z.s0 z.s1 (z.ys.getD z.h 0)), (stepT dk dc0 dc1 dc2 z.s0 z.s1 (z.ys.getD z.h 0))⟩
/-- the same before step number `q`, where step `j` is given `f j` -/
def bowAt (n m : Nat) (dk : Int) (dc0 dc1 dc2 sl lo : Nat) (xs : List Nat) (i0 : Nat) (ys : List Nat) (h0 : Nat) (ds0 ds1 : Nat) (f : Nat → Nat) (q : Nat) : BowSt :=
  if h : q = 0 then ⟨xs, i0, ys, h0, ds0, ds1⟩ else bowAtNext n m dk dc0 dc1 dc2 sl lo (bowAt n m dk dc0 dc1 dc2 sl lo xs i0 ys h0 ds0 ds1 f (q - 1)) (f (q - 1))
termination_by q
decreasing_by omega
section
variable {n m : Nat} {dk : Int} {dc0 dc1 dc2 sl lo : Nat} {xs : List Nat} {i0 : Nat} {ys : List Nat} {h0 : Nat} {ds0 ds1 : Nat} {f : Nat → Nat} {q : Nat}
theorem bowAt_zero : bowAt n m dk dc0 dc1 dc2 sl lo xs i0 ys h0 ds0 ds1 f 0 = ⟨xs, i0, ys, h0, ds0, ds1⟩ := by rw [bowAt]; simp
theorem bowAt_succ : bowAt n m dk dc0 dc1 dc2 sl lo xs i0 ys h0 ds0 ds1 f (q + 1) = bowAtNext n m dk dc0 dc1 dc2 sl lo (bowAt n m dk dc0 dc1 dc2 sl lo xs i0 ys h0 ds0 ds1 f q) (f q) := by rw [bowAt]; simp
end
def bowOut (n m : Nat) (dk : Int) (dc0 dc1 dc2 sl lo : Nat) (xs : List Nat) (i0 : Nat) (ys : List Nat) (h0 : Nat) (ds0 ds1 : Nat) (f : Nat → Nat) (q : Nat) : Nat :=
  (bowAt n m dk dc0 dc1 dc2 sl lo xs i0 ys h0 ds0 ds1 f q).ys.getD (bowAt n m dk dc0 dc1 dc2 sl lo xs i0 ys h0 ds0 ds1 f q).h 0

set_option maxRecDepth 100000 in
set_option maxHeartbeats 2000000 in
theorem c_blockBow1 (n : Nat) (c : Nat) (b : Nat) (xs : List Nat) (m : Nat) (c2 : Nat) (d : Nat) (ys : List Nat) (i0 : Nat) (h0 : Nat) (dk : Int) (dc0 : Nat) (dc1 : Nat) (dc2 : Nat) (ds0 : Nat) (ds1 : Nat) (sl : Nat) (lo : Nat) (p : Nat) (k : Nat) (vs : List Value) (bs : List Nat) (e : Nat) (i : Nat) (ln : xs.length = n) (lm : ys.length = m) (hi0 : i0 < n) (hh0 : h0 < m) (hn : n ≤ 1024) (hm : m ≤ 1024) (wx : W32 xs) (wy : W32 ys) (lds0 : ds0 < wid .f32) (lds1 : ds1 < wid .f32) (hk : k + 12 ≤ vs.length) (lb : bs.length = 16) (wb : W32 bs) (hi : i < 16) (w : World) (q : Row w p 0 (splice vs k [vS b 0 n c, vI ((i0 : Nat) : Int), vS d 0 m c2, vI ((h0 : Nat) : Int), vI dk, vF dc0, vF dc1, vF dc2, vF ds0, vF ds1, vF sl, vF lo])) (r : Row w b 0 (fl xs)) (ry : Row w d 0 (fl ys)) (re : Rng w e 0 (fl bs)) (ne1 : p ≠ b) (ne2 : p ≠ d) (ne3 : b ≠ d) (ne4 : e ≠ p) (ne5 : e ≠ b) (ne6 : e ≠ d) : Cl Try.prog 88 #[vI ((i : Nat) : Int), vP p k, vP e 0] w fun v w' => v = vF (ys.getD h0 0) ∧ ((keptF (fop .add .f32 (Op.negFloat .f32 (fop .mul .f32 lo (stepY dk dc0 dc1 dc2 ds0 ds1 (ys.getD h0 0)))) (fop .mul .f32 (fop .sub .f32 (bs.getD i 0) (fop .add .f32 (Op.negFloat .f32 (fop .mul .f32 lo (stepY dk dc0 dc1 dc2 ds0 ds1 (ys.getD h0 0)))) (Op.negFloat .f32 (xs.getD i0 0)))) (fricF sl (fop .sub .f32 (bs.getD i 0) (fop .add .f32 (Op.negFloat .f32 (fop .mul .f32 lo (stepY dk dc0 dc1 dc2 ds0 ds1 (ys.getD h0 0)))) (Op.negFloat .f32 (xs.getD i0 0)))))))) < wid .f32) ∧ ((keptF (fop .add .f32 (Op.negFloat .f32 (xs.getD i0 0)) (fop .mul .f32 (fop .sub .f32 (bs.getD i 0) (fop .add .f32 (Op.negFloat .f32 (fop .mul .f32 lo (stepY dk dc0 dc1 dc2 ds0 ds1 (ys.getD h0 0)))) (Op.negFloat .f32 (xs.getD i0 0)))) (fricF sl (fop .sub .f32 (bs.getD i 0) (fop .add .f32 (Op.negFloat .f32 (fop .mul .f32 lo (stepY dk dc0 dc1 dc2 ds0 ds1 (ys.getD h0 0)))) (Op.negFloat .f32 (xs.getD i0 0)))))))) < wid .f32) ∧ ((stepS dk dc0 dc1 dc2 ds0 ds1 (ys.getD h0 0)) < wid .f32) ∧ ((stepT dk dc0 dc1 dc2 ds0 ds1 (ys.getD h0 0)) < wid .f32) ∧ Row w' p 0 (splice vs k [vS b 0 n c, vI (((i0 + 1) % n : Nat) : Int), vS d 0 m c2, vI (((h0 + 1) % m : Nat) : Int), vI dk, vF dc0, vF dc1, vF dc2, vF (stepS dk dc0 dc1 dc2 ds0 ds1 (ys.getD h0 0)), vF (stepT dk dc0 dc1 dc2 ds0 ds1 (ys.getD h0 0)), vF sl, vF lo]) ∧ Row w' b 0 (fl (xs.set i0 (keptF (fop .add .f32 (Op.negFloat .f32 (fop .mul .f32 lo (stepY dk dc0 dc1 dc2 ds0 ds1 (ys.getD h0 0)))) (fop .mul .f32 (fop .sub .f32 (bs.getD i 0) (fop .add .f32 (Op.negFloat .f32 (fop .mul .f32 lo (stepY dk dc0 dc1 dc2 ds0 ds1 (ys.getD h0 0)))) (Op.negFloat .f32 (xs.getD i0 0)))) (fricF sl (fop .sub .f32 (bs.getD i 0) (fop .add .f32 (Op.negFloat .f32 (fop .mul .f32 lo (stepY dk dc0 dc1 dc2 ds0 ds1 (ys.getD h0 0)))) (Op.negFloat .f32 (xs.getD i0 0)))))))))) ∧ Row w' d 0 (fl (ys.set h0 (keptF (fop .add .f32 (Op.negFloat .f32 (xs.getD i0 0)) (fop .mul .f32 (fop .sub .f32 (bs.getD i 0) (fop .add .f32 (Op.negFloat .f32 (fop .mul .f32 lo (stepY dk dc0 dc1 dc2 ds0 ds1 (ys.getD h0 0)))) (Op.negFloat .f32 (xs.getD i0 0)))) (fricF sl (fop .sub .f32 (bs.getD i 0) (fop .add .f32 (Op.negFloat .f32 (fop .mul .f32 lo (stepY dk dc0 dc1 dc2 ds0 ds1 (ys.getD h0 0)))) (Op.negFloat .f32 (xs.getD i0 0)))))))))) ∧ Mod [p, b, d] w w' := by
  refine Cl.of Try.func88 Try.ntmps88 rfl rfl (ρ := [(0, vI ((i : Nat) : Int)), (1, vP p k), (2, vP e 0)]) rfl ?_
  refine CE.seq ?_
  refine CE.region ?_
  refine WL.det (op_assign rfl) rfl rfl rfl ?_
  refine WL.end ?_
  refine NE.code ?_
  refine CE.seq ?_
  refine CE.region ?_
  refine WL.det (op_move rfl) rfl rfl rfl ?_
  refine WL.det (op_indexArr (off' := 0 + i) rfl rfl Try.runUnderlying82 Try.sizeOf25 (by omega) (by omega) (by omega)) rfl rfl rfl ?_
  refine WL.det (op_load1 (i := i) rfl Try.isAgg25 re rfl (fl_get (by have eL : List.length bs = 16 := lb; omega))) rfl rfl rfl ?_
  refine WL.call (oc_call (vs := [vP p k, vF (bs.getD i 0)]) (cap := []) rfl rfl rfl Try.call85 (c_bowStep n c b xs m c2 d ys i0 h0 dk dc0 dc1 dc2 ds0 ds1 sl lo p k (splice vs k [vS b 0 n c, vI ((i0 : Nat) : Int), vS d 0 m c2, vI ((h0 : Nat) : Int), vI dk, vF dc0, vF dc1, vF dc2, vF ds0, vF ds1, vF sl, vF lo]) (bs.getD i 0) (bs.getD i 0) ln lm (by omega) (by omega) (by omega) (by omega) lds0 lds1 (sub_fit (i := 0) hk (lB rfl)) wx wy rfl (wb.get _) w (Row.congr q (sub_same (i := 0) hk (lB rfl) rfl)) r ry ne1 ne2 ne3)) rfl rfl (ltb rfl) ?_
  rintro _ w1 ⟨rfl, h1, h2, h3, h4, r1, r2, r3, m1⟩
  have r4 : Row w1 p 0 (splice vs k [vS b 0 n c, vI (((i0 + 1) % n : Nat) : Int), vS d 0 m c2, vI (((h0 + 1) % m : Nat) : Int), vI dk, vF dc0, vF dc1, vF dc2, vF (stepS dk dc0 dc1 dc2 ds0 ds1 (ys.getD h0 0)), vF (stepT dk dc0 dc1 dc2 ds0 ds1 (ys.getD h0 0)), vF sl, vF lo]) := Row.congr r1 (sub_put (i := 0) hk (lB rfl) rfl)
  refine WL.det (op_assign rfl) rfl rfl rfl ?_
  refine WL.end ?_
  refine NE.code ?_
  refine CE.ret' ?_
  refine XE.leave1 Try.results88 rfl ?_
  refine ⟨rfl, ?_, ?_, ?_, ?_, r4, r2, r3, ((Mod.refl [p, b, d] w).then m1 ((aC (.inl (by simp)) (aC (.inl (by simp)) (aC (.inl (by simp)) aN)))))⟩
  all_goals first | assumption | rfl

set_option maxRecDepth 100000 in
set_option maxHeartbeats 2000000 in
theorem c_made_blockBow (n : Nat) (c : Nat) (b : Nat) (xs : List Nat) (m : Nat) (c2 : Nat) (d : Nat) (ys : List Nat) (i0 : Nat) (h0 : Nat) (dk : Int) (dc0 : Nat) (dc1 : Nat) (dc2 : Nat) (ds0 : Nat) (ds1 : Nat) (sl : Nat) (lo : Nat) (p : Nat) (k : Nat) (vs : List Value) (bs : List Nat) (e : Nat) (ln : xs.length = n) (lm : ys.length = m) (hi0 : i0 < n) (hh0 : h0 < m) (hn : n ≤ 1024) (hm : m ≤ 1024) (wx : W32 xs) (wy : W32 ys) (lds0 : ds0 < wid .f32) (lds1 : ds1 < wid .f32) (hk : k + 12 ≤ vs.length) (lb : bs.length = 16) (wb : W32 bs) (w : World) (q : Row w p 0 (splice vs k [vS b 0 n c, vI ((i0 : Nat) : Int), vS d 0 m c2, vI ((h0 : Nat) : Int), vI dk, vF dc0, vF dc1, vF dc2, vF ds0, vF ds1, vF sl, vF lo])) (r : Row w b 0 (fl xs)) (ry : Row w d 0 (fl ys)) (re : Rng w e 0 (fl bs)) (ne1 : p ≠ b) (ne2 : p ≠ d) (ne3 : b ≠ d) (ne4 : e ≠ p) (ne5 : e ≠ b) (ne6 : e ≠ d) : Cl Try.prog 86 #[.func (.func 88) #[] #[vP p k, vP e 0]] w fun v w' => v = .agg (fl ((List.range 16).map (bowOut n m dk dc0 dc1 dc2 sl lo xs i0 ys h0 ds0 ds1 (fun j => bs.getD j 0)))).toArray ∧ ((bowAt n m dk dc0 dc1 dc2 sl lo xs i0 ys h0 ds0 ds1 (fun j => bs.getD j 0) 16).xs.length = n) ∧ ((bowAt n m dk dc0 dc1 dc2 sl lo xs i0 ys h0 ds0 ds1 (fun j => bs.getD j 0) 16).ys.length = m) ∧ Row w' p 0 (splice vs k [vS b 0 n c, vI (((bowAt n m dk dc0 dc1 dc2 sl lo xs i0 ys h0 ds0 ds1 (fun j => bs.getD j 0) 16).i : Nat) : Int), vS d 0 m c2, vI (((bowAt n m dk dc0 dc1 dc2 sl lo xs i0 ys h0 ds0 ds1 (fun j => bs.getD j 0) 16).h : Nat) : Int), vI dk, vF dc0, vF dc1, vF dc2, vF ((bowAt n m dk dc0 dc1 dc2 sl lo xs i0 ys h0 ds0 ds1 (fun j => bs.getD j 0) 16).s0), vF ((bowAt n m dk dc0 dc1 dc2 sl lo xs i0 ys h0 ds0 ds1 (fun j => bs.getD j 0) 16).s1), vF sl, vF lo]) ∧ Row w' b 0 (fl ((bowAt n m dk dc0 dc1 dc2 sl lo xs i0 ys h0 ds0 ds1 (fun j => bs.getD j 0) 16).xs)) ∧ Row w' d 0 (fl ((bowAt n m dk dc0 dc1 dc2 sl lo xs i0 ys h0 ds0 ds1 (fun j => bs.getD j 0) 16).ys)) ∧ Mod [p, b, d] w w' := by
  refine Cl.of Try.func86 Try.ntmps86 rfl rfl (ρ := [(0, .func (.func 88) #[] #[vP p k, vP e 0])]) rfl ?_
  refine CE.seq ?_
  refine CE.region ?_
  refine WL.op (op_alloc (cs := fl (List.replicate 16 0)) Try.zeroValue82 rfl) rfl rfl (ltb rfl) ?_
  rintro _ w1 ⟨rfl, r1, m1, z1⟩
  refine WL.end ?_
  refine NE.code ?_
  refine CE.seq ?_
  refine CE.region ?_
  refine WL.op (op_alloc (cs := fl (List.replicate 16 0)) Try.zeroValue82 rfl) rfl rfl (ltb rfl) ?_
  rintro _ w2 ⟨rfl, r2, m2, z2⟩
  refine WL.end ?_
  refine NE.code ?_
  refine CE.seq ?_
  refine CE.seq ?_
  refine CE.region ?_
  refine WL.det (op_move rfl) rfl rfl rfl ?_
  refine WL.end ?_
  refine NE.code ?_
  refine CE.block ?_
  refine CE.loop (fun (i : Nat) => [(5, vI ((i : Nat) : Int)), (0, .func (.func 88) #[] #[vP p k, vP e 0]), (2, vP w.heap.size 0), (3, vP w1.heap.size 0)]) (fun (i : Nat) => fun W => (i ≤ 16) ∧ ((bowAt n m dk dc0 dc1 dc2 sl lo xs i0 ys h0 ds0 ds1 (fun j => bs.getD j 0) i).i < n) ∧ ((bowAt n m dk dc0 dc1 dc2 sl lo xs i0 ys h0 ds0 ds1 (fun j => bs.getD j 0) i).h < m) ∧ ((bowAt n m dk dc0 dc1 dc2 sl lo xs i0 ys h0 ds0 ds1 (fun j => bs.getD j 0) i).xs.length = n) ∧ ((bowAt n m dk dc0 dc1 dc2 sl lo xs i0 ys h0 ds0 ds1 (fun j => bs.getD j 0) i).ys.length = m) ∧ (W32 (bowAt n m dk dc0 dc1 dc2 sl lo xs i0 ys h0 ds0 ds1 (fun j => bs.getD j 0) i).xs) ∧ (W32 (bowAt n m dk dc0 dc1 dc2 sl lo xs i0 ys h0 ds0 ds1 (fun j => bs.getD j 0) i).ys) ∧ ((bowAt n m dk dc0 dc1 dc2 sl lo xs i0 ys h0 ds0 ds1 (fun j => bs.getD j 0) i).s0 < wid .f32) ∧ ((bowAt n m dk dc0 dc1 dc2 sl lo xs i0 ys h0 ds0 ds1 (fun j => bs.getD j 0) i).s1 < wid .f32) ∧ Row W p 0 (splice vs k [vS b 0 n c, vI (((bowAt n m dk dc0 dc1 dc2 sl lo xs i0 ys h0 ds0 ds1 (fun j => bs.getD j 0) i).i : Nat) : Int), vS d 0 m c2, vI (((bowAt n m dk dc0 dc1 dc2 sl lo xs i0 ys h0 ds0 ds1 (fun j => bs.getD j 0) i).h : Nat) : Int), vI dk, vF dc0, vF dc1, vF dc2, vF ((bowAt n m dk dc0 dc1 dc2 sl lo xs i0 ys h0 ds0 ds1 (fun j => bs.getD j 0) i).s0), vF ((bowAt n m dk dc0 dc1 dc2 sl lo xs i0 ys h0 ds0 ds1 (fun j => bs.getD j 0) i).s1), vF sl, vF lo]) ∧ Row W b 0 (fl ((bowAt n m dk dc0 dc1 dc2 sl lo xs i0 ys h0 ds0 ds1 (fun j => bs.getD j 0) i).xs)) ∧ Row W d 0 (fl ((bowAt n m dk dc0 dc1 dc2 sl lo xs i0 ys h0 ds0 ds1 (fun j => bs.getD j 0) i).ys)) ∧ Row W w1.heap.size 0 (fl (over (bowOut n m dk dc0 dc1 dc2 sl lo xs i0 ys h0 ds0 ds1 (fun j => bs.getD j 0)) (List.replicate 16 0) i)) ∧ Mod [p, b, d, w1.heap.size] w2 W) (fun (i : Nat) => 16 - i) 0 (⟨rfl, rfl, rfl, rfl, trivial⟩) ⟨(by omega), (by rw [bowAt_zero]; exact hi0), (by rw [bowAt_zero]; exact hh0), (by rw [bowAt_zero]; exact ln), (by rw [bowAt_zero]; exact lm), (by rw [bowAt_zero]; exact wx), (by rw [bowAt_zero]; exact wy), (by rw [bowAt_zero]; assumption), (by rw [bowAt_zero]; assumption), (Row.congr ((q.ext m1).ext m2) (by rw [bowAt_zero])), (Row.congr ((r.ext m1).ext m2) (by rw [bowAt_zero])), (Row.congr ((ry.ext m1).ext m2) (by rw [bowAt_zero])), (Row.congr r2 (over_zero _ _)), Mod.refl _ _⟩ ?_
  rintro i w3 ⟨hi, hz, hy, hl, hl2, hx, hx2, b0, b1, r3, r4, r5, r6, m3⟩
  show CE _ _ _ _ [(5, vI ((i : Nat) : Int)), (0, .func (.func 88) #[] #[vP p k, vP e 0]), (2, vP w.heap.size 0), (3, vP w1.heap.size 0)] _
  refine CE.seq ?_
  refine CE.region ?_
  refine WL.det (op_lti rfl rfl) rfl rfl rfl ?_
  refine WL.end ?_
  refine NE.code ?_
  refine CE.seq ?_
  rcases Bool.eq_false_or_eq_true (decide (((i : Nat) : Int) < (16 : Int))) with hb1 | hb1
  · have hp1 := hb1; try simp only [Bool.and_eq_true, Bool.or_eq_true, Bool.not_eq_true', Bool.not_eq_false', Bool.and_eq_false_iff, Bool.or_eq_false_iff, decide_eq_true_eq, decide_eq_false_iff_not, beq_iff_eq, bne_iff_ne, beq_eq_false_iff_ne, bne_eq_false_iff_eq, ne_eq, Bool.false_eq_true, not_false_eq_true, not_true_eq_false, vIn_t, vIn_f] at hp1
    refine CE.cond_t rfl hb1 ?_
    refine CE.skip' ?_
    refine NE.code ?_
    refine CE.seq ?_
    refine CE.block ?_
    refine CE.seq ?_
    refine CE.region ?_
    refine WL.det (op_move rfl) rfl rfl rfl ?_
    refine WL.det (op_assign rfl) rfl rfl rfl ?_
    refine WL.end ?_
    refine NE.code ?_
    refine CE.region ?_
    refine WL.det (op_move rfl) rfl rfl rfl ?_
    refine WL.det (op_move rfl) rfl rfl rfl ?_
    refine WL.det (op_move rfl) rfl rfl rfl ?_
    refine WL.call (oc_call (vs := [vI ((i : Nat) : Int)]) (cap := [vP p k, vP e 0]) rfl rfl rfl Try.call88 (c_blockBow1 n c b ((bowAt n m dk dc0 dc1 dc2 sl lo xs i0 ys h0 ds0 ds1 (fun j => bs.getD j 0) i).xs) m c2 d ((bowAt n m dk dc0 dc1 dc2 sl lo xs i0 ys h0 ds0 ds1 (fun j => bs.getD j 0) i).ys) ((bowAt n m dk dc0 dc1 dc2 sl lo xs i0 ys h0 ds0 ds1 (fun j => bs.getD j 0) i).i) ((bowAt n m dk dc0 dc1 dc2 sl lo xs i0 ys h0 ds0 ds1 (fun j => bs.getD j 0) i).h) dk dc0 dc1 dc2 ((bowAt n m dk dc0 dc1 dc2 sl lo xs i0 ys h0 ds0 ds1 (fun j => bs.getD j 0) i).s0) ((bowAt n m dk dc0 dc1 dc2 sl lo xs i0 ys h0 ds0 ds1 (fun j => bs.getD j 0) i).s1) sl lo p k (splice vs k [vS b 0 n c, vI (((bowAt n m dk dc0 dc1 dc2 sl lo xs i0 ys h0 ds0 ds1 (fun j => bs.getD j 0) i).i : Nat) : Int), vS d 0 m c2, vI (((bowAt n m dk dc0 dc1 dc2 sl lo xs i0 ys h0 ds0 ds1 (fun j => bs.getD j 0) i).h : Nat) : Int), vI dk, vF dc0, vF dc1, vF dc2, vF ((bowAt n m dk dc0 dc1 dc2 sl lo xs i0 ys h0 ds0 ds1 (fun j => bs.getD j 0) i).s0), vF ((bowAt n m dk dc0 dc1 dc2 sl lo xs i0 ys h0 ds0 ds1 (fun j => bs.getD j 0) i).s1), vF sl, vF lo]) bs e i hl hl2 (by omega) (by omega) (by omega) (by omega) hx hx2 b0 b1 (sub_fit (i := 0) hk (lB rfl)) lb wb (by omega) w3 (Row.congr r3 (sub_same (i := 0) hk (lB rfl) rfl)) r4 r5 (((re.ext m1).ext m2).mod m3 (nC ne4 (nC ne5 (nC ne6 (nC (lE (lL (lL (re.lt (by have eL : List.length bs = 16 := lb; rw [fl_length]; omega)) m1.size) lR)) nN))))) ne1 ne2 ne3 ne4 ne5 ne6)) rfl rfl (ltb rfl) ?_
    rintro _ w4 ⟨rfl, h1, h2, h3, h4, r7, r8, r9, m4⟩
    have r10 : Row w4 p 0 (splice vs k [vS b 0 n c, vI (((((bowAt n m dk dc0 dc1 dc2 sl lo xs i0 ys h0 ds0 ds1 (fun j => bs.getD j 0) i).i) + 1) % n : Nat) : Int), vS d 0 m c2, vI (((((bowAt n m dk dc0 dc1 dc2 sl lo xs i0 ys h0 ds0 ds1 (fun j => bs.getD j 0) i).h) + 1) % m : Nat) : Int), vI dk, vF dc0, vF dc1, vF dc2, vF (stepS dk dc0 dc1 dc2 ((bowAt n m dk dc0 dc1 dc2 sl lo xs i0 ys h0 ds0 ds1 (fun j => bs.getD j 0) i).s0) ((bowAt n m dk dc0 dc1 dc2 sl lo xs i0 ys h0 ds0 ds1 (fun j => bs.getD j 0) i).s1) (((bowAt n m dk dc0 dc1 dc2 sl lo xs i0 ys h0 ds0 ds1 (fun j => bs.getD j 0) i).ys).getD ((bowAt n m dk dc0 dc1 dc2 sl lo xs i0 ys h0 ds0 ds1 (fun j => bs.getD j 0) i).h) 0)), vF (stepT dk dc0 dc1 dc2 ((bowAt n m dk dc0 dc1 dc2 sl lo xs i0 ys h0 ds0 ds1 (fun j => bs.getD j 0) i).s0) ((bowAt n m dk dc0 dc1 dc2 sl lo xs i0 ys h0 ds0 ds1 (fun j => bs.getD j 0) i).s1) (((bowAt n m dk dc0 dc1 dc2 sl lo xs i0 ys h0 ds0 ds1 (fun j => bs.getD j 0) i).ys).getD ((bowAt n m dk dc0 dc1 dc2 sl lo xs i0 ys h0 ds0 ds1 (fun j => bs.getD j 0) i).h) 0)), vF sl, vF lo]) := Row.congr r7 (sub_put (i := 0) hk (lB rfl) rfl)
    refine WL.det (op_indexArr (off' := 0 + i) rfl rfl Try.runUnderlying82 Try.sizeOf25 (by omega) (by omega) (by omega)) rfl rfl rfl ?_
    refine WL.op0 (op_store (i := i) (cs := [vF (((bowAt n m dk dc0 dc1 dc2 sl lo xs i0 ys h0 ds0 ds1 (fun j => bs.getD j 0) i).ys).getD ((bowAt n m dk dc0 dc1 dc2 sl lo xs i0 ys h0 ds0 ds1 (fun j => bs.getD j 0) i).h) 0)]) rfl rfl rfl Try.sizeOf25 rfl (r6.mod m4 (nC (lG (lL (lL q.lt m1.size) lR)) (nC (lG (lL (lL r.lt m1.size) lR)) (nC (lG (lL (lL ry.lt m1.size) lR)) nN)))) rfl (by rw [fl_length]; have eL : List.length (over (bowOut n m dk dc0 dc1 dc2 sl lo xs i0 ys h0 ds0 ds1 (fun j => bs.getD j 0)) (List.replicate 16 0) i) = 16 := (over_len List.length_replicate (by omega)); omega) rfl) rfl rfl ?_
    rintro _ w5 ⟨r11, m5, z3⟩
    have r12 : Row w5 w1.heap.size 0 (fl ((over (bowOut n m dk dc0 dc1 dc2 sl lo xs i0 ys h0 ds0 ds1 (fun j => bs.getD j 0)) (List.replicate 16 0) i).set i (((bowAt n m dk dc0 dc1 dc2 sl lo xs i0 ys h0 ds0 ds1 (fun j => bs.getD j 0) i).ys).getD ((bowAt n m dk dc0 dc1 dc2 sl lo xs i0 ys h0 ds0 ds1 (fun j => bs.getD j 0) i).h) 0))) := Row.congr r11 (fl_splice (by have eL : List.length (over (bowOut n m dk dc0 dc1 dc2 sl lo xs i0 ys h0 ds0 ds1 (fun j => bs.getD j 0)) (List.replicate 16 0) i) = 16 := (over_len List.length_replicate (by omega)); omega))
    refine WL.end ?_
    refine NE.blk ?_
    refine NE.code ?_
    refine CE.region ?_
    refine WL.det (op_add (r := ((i + 1 : Nat) : Int)) rfl rfl (w_i64 (by omega) (by omega))) rfl rfl rfl ?_
    refine WL.det (op_move rfl) rfl rfl rfl ?_
    refine WL.end ?_
    exact NE.again (i + 1) (⟨rfl, rfl, rfl, rfl, trivial⟩) ⟨(by omega), (by rw [bowAt_succ]; exact Nat.mod_lt _ (by omega)), (by rw [bowAt_succ]; exact Nat.mod_lt _ (by omega)), (by rw [bowAt_succ]; exact (List.length_set).trans hl), (by rw [bowAt_succ]; exact (List.length_set).trans hl2), (by rw [bowAt_succ]; exact W32.set hx (by assumption)), (by rw [bowAt_succ]; exact W32.set hx2 (by assumption)), (by rw [bowAt_succ]; assumption), (by rw [bowAt_succ]; assumption), (Row.congr (r10.mod m5 (nC (lE (lL (lL q.lt m1.size) lR)) nN)) (by rw [bowAt_succ]; rfl)), (Row.congr (r8.mod m5 (nC (lE (lL (lL r.lt m1.size) lR)) nN)) (by rw [bowAt_succ]; rfl)), (Row.congr (r9.mod m5 (nC (lE (lL (lL ry.lt m1.size) lR)) nN)) (by rw [bowAt_succ]; rfl)), (Row.congr r12 (over_set List.length_replicate (by omega))), ((m3.then m4 ((aC (.inl (by simp)) (aC (.inl (by simp)) (aC (.inl (by simp)) aN))))).then m5 ((aC (.inl (by simp)) aN)))⟩ (by first | (dsimp only; omega) | omega)
  · have hp1 := hb1; try simp only [Bool.and_eq_true, Bool.or_eq_true, Bool.not_eq_true', Bool.not_eq_false', Bool.and_eq_false_iff, Bool.or_eq_false_iff, decide_eq_true_eq, decide_eq_false_iff_not, beq_iff_eq, bne_iff_ne, beq_eq_false_iff_ne, bne_eq_false_iff_eq, ne_eq, Bool.false_eq_true, not_false_eq_true, not_true_eq_false, vIn_t, vIn_f] at hp1
    refine CE.cond_f rfl hb1 ?_
    refine CE.exit' ?_
    refine XE.exit_then ?_
    refine XE.exit_then ?_
    refine XE.exit_here ?_
    refine NE.code ?_
    refine CE.seq ?_
    refine CE.region ?_
    refine WL.det (op_loadA (i := 0) (cs := fl (over (bowOut n m dk dc0 dc1 dc2 sl lo xs i0 ys h0 ds0 ds1 (fun j => bs.getD j 0)) (List.replicate 16 0) i)) rfl Try.isAgg82 Try.sizeOf82 r6.rng rfl (fl_whole (over_len List.length_replicate (by omega))) (fl_len (over_len List.length_replicate (by omega)))) rfl rfl rfl ?_
    refine WL.op0 (op_store (i := 0) (cs := fl (over (bowOut n m dk dc0 dc1 dc2 sl lo xs i0 ys h0 ds0 ds1 (fun j => bs.getD j 0)) (List.replicate 16 0) i)) rfl rfl rfl Try.sizeOf82 (fl_len (over_len List.length_replicate (by omega))) ((r1.ext m2).mod m3 (nC (lG (lL q.lt lR)) (nC (lG (lL r.lt lR)) (nC (lG (lL ry.lt lR)) (nC (lE (lL r1.lt lR)) nN))))) rfl (by rw [fl_length, List.length_replicate]; decide) (fl_one _)) rfl rfl ?_
    rintro _ w6 ⟨r13, m6, z4⟩
    have r14 : Row w6 w.heap.size 0 (fl (over (bowOut n m dk dc0 dc1 dc2 sl lo xs i0 ys h0 ds0 ds1 (fun j => bs.getD j 0)) (List.replicate 16 0) i)) := Row.congr r13 (splice_all ((fl_len (List.length_replicate)).trans (fl_len ((over_len List.length_replicate (by omega)))).symm))
    refine WL.end ?_
    refine NE.code ?_
    refine CE.ret' ?_
    refine XE.leaveC Try.results86 (res_agg (cs := fl (over (bowOut n m dk dc0 dc1 dc2 sl lo xs i0 ys h0 ds0 ds1 (fun j => bs.getD j 0)) (List.replicate 16 0) i)) rfl Try.isAgg82 Try.sizeOf82 r14.rng (fl_len (over_len List.length_replicate (by omega))) res_nil) ?_
    refine ⟨?_, ?_, ?_, (Row.congr (r3.mod m6 (nC (lE (lL q.lt lR)) nN)) ?_), (Row.congr (r4.mod m6 (nC (lE (lL r.lt lR)) nN)) ?_), (Row.congr (r5.mod m6 (nC (lE (lL ry.lt lR)) nN)) ?_), (((((Mod.refl [p, b, d] w).nt m1).nt m2).then m3 ((aC (.inl (by simp)) (aC (.inl (by simp)) (aC (.inl (by simp)) (aC (.inr (lT m1.size lR)) aN)))))).then m6 ((aC (.inr lR) aN)))⟩
    all_goals first | assumption | (have e : i = 16 := (by omega); subst e; first | assumption | (rw [over_full _ List.length_replicate]; done) | rfl) | rfl

set_option maxRecDepth 100000 in
set_option maxHeartbeats 2000000 in
theorem c_sBlockBow (n : Nat) (c : Nat) (b : Nat) (xs : List Nat) (m : Nat) (c2 : Nat) (d : Nat) (ys : List Nat) (i0 : Nat) (h0 : Nat) (dk : Int) (dc0 : Nat) (dc1 : Nat) (dc2 : Nat) (ds0 : Nat) (ds1 : Nat) (sl : Nat) (lo : Nat) (bs : List Nat) (z : BowSt) (ou : List Nat) (ln : xs.length = n) (lm : ys.length = m) (hi0 : i0 < n) (hh0 : h0 < m) (hn : n ≤ 1024) (hm : m ≤ 1024) (wx : W32 xs) (wy : W32 ys) (lds0 : ds0 < wid .f32) (lds1 : ds1 < wid .f32) (lb : bs.length = 16) (wb : W32 bs) (hze : z = (bowAt n m dk dc0 dc1 dc2 sl lo xs i0 ys h0 ds0 ds1 (fun j => bs.getD j 0) 16)) (hoe : ou = ((List.range 16).map (bowOut n m dk dc0 dc1 dc2 sl lo xs i0 ys h0 ds0 ds1 (fun j => bs.getD j 0)))) (hv : vBow n ((i0 : Nat) : Int) m ((h0 : Nat) : Int) xs ys dk dc0 dc1 dc2 ds0 ds1 sl lo = true) (w : World) (r : Rng w b 0 (fl xs)) (ry : Rng w d 0 (fl ys)) : Cl Try.prog 52 #[.agg #[vS b 0 n c, vI ((i0 : Nat) : Int), vS d 0 m c2, vI ((h0 : Nat) : Int), vI dk, vF dc0, vF dc1, vF dc2, vF ds0, vF ds1, vF sl, vF lo], .agg (fl bs).toArray] w fun v w' => ∃ (b' : Nat) (c' : Nat) (d' : Nat) (c2' : Nat), v = .tuple #[.agg #[vS b' 0 n c', vI ((z.i : Nat) : Int), vS d' 0 m c2', vI ((z.h : Nat) : Int), vI dk, vF dc0, vF dc1, vF dc2, vF z.s0, vF z.s1, vF sl, vF lo], .agg (fl ou).toArray, vI 0] ∧ (z.xs.length = n) ∧ (z.ys.length = m) ∧ (ou.length = 16) ∧ Row w' b' 0 (fl z.xs) ∧ Row w' d' 0 (fl z.ys) ∧ w.heap.size ≤ b' ∧ w.heap.size ≤ d' ∧ b' ≠ d' ∧ Mod [] w w' := by
  refine Cl.of Try.func52 Try.ntmps52 rfl rfl (ρ := [(0, .agg #[vS b 0 n c, vI ((i0 : Nat) : Int), vS d 0 m c2, vI ((h0 : Nat) : Int), vI dk, vF dc0, vF dc1, vF dc2, vF ds0, vF ds1, vF sl, vF lo]), (1, .agg (fl bs).toArray)]) rfl ?_
  refine CE.seq ?_
  refine CE.region ?_
  refine WL.op (op_box (cs := [vS b 0 n c, vI ((i0 : Nat) : Int), vS d 0 m c2, vI ((h0 : Nat) : Int), vI dk, vF dc0, vF dc1, vF dc2, vF ds0, vF ds1, vF sl, vF lo]) rfl rfl) rfl rfl (ltb rfl) ?_
  rintro _ w1 ⟨rfl, r1, m1, z1⟩
  refine WL.op (op_box (cs := fl bs) rfl rfl) rfl rfl (ltb rfl) ?_
  rintro _ w2 ⟨rfl, r2, m2, z2⟩
  refine WL.op (op_alloc (cs := [.slice none 0 0, vI 0, .slice none 0 0, vI 0, vI 0, vF 0, vF 0, vF 0, vF 0, vF 0, vF 0, vF 0]) Try.zeroValue36 rfl) rfl rfl (ltb rfl) ?_
  rintro _ w3 ⟨rfl, r3, m3, z3⟩
  refine WL.op (op_alloc (cs := fl (List.replicate 16 0)) Try.zeroValue82 rfl) rfl rfl (ltb rfl) ?_
  rintro _ w4 ⟨rfl, r4, m4, z4⟩
  refine WL.det (op_assign rfl) rfl rfl rfl ?_
  refine WL.end ?_
  refine NE.code ?_
  refine CE.seq ?_
  refine CE.seq ?_
  refine CE.region ?_
  refine WL.call (oc_call (vs := [vP w.heap.size 0]) (cap := []) rfl rfl rfl Try.call55 (c_l05Bow n c b xs m c2 d ys ((i0 : Nat) : Int) ((h0 : Nat) : Int) dk dc0 dc1 dc2 ds0 ds1 sl lo w.heap.size 0 [vS b 0 n c, vI ((i0 : Nat) : Int), vS d 0 m c2, vI ((h0 : Nat) : Int), vI dk, vF dc0, vF dc1, vF dc2, vF ds0, vF ds1, vF sl, vF lo] ln lm (by omega) (by omega) (lB rfl) w4 (Row.congr (((r1.ext m2).ext m3).ext m4) rfl).rng ((((r.ext m1).ext m2).ext m3).ext m4) ((((ry.ext m1).ext m2).ext m3).ext m4))) rfl rfl (ltb rfl) ?_
  rintro _ w5 ⟨rfl, m5⟩
  refine WL.det (op_not rfl) rfl rfl rfl ?_
  refine WL.end ?_
  refine NE.code ?_
  refine CE.cond_f rfl (bnot_t hv) ?_
  refine CE.skip' ?_
  refine NE.code ?_
  refine CE.seq ?_
  refine CE.region ?_
  refine WL.call (oc_call (vs := [vP w.heap.size 0]) (cap := []) rfl rfl rfl Try.call57 (c_copyBow n c b xs m c2 d ys ((i0 : Nat) : Int) ((h0 : Nat) : Int) dk dc0 dc1 dc2 ds0 ds1 sl lo w.heap.size 0 [vS b 0 n c, vI ((i0 : Nat) : Int), vS d 0 m c2, vI ((h0 : Nat) : Int), vI dk, vF dc0, vF dc1, vF dc2, vF ds0, vF ds1, vF sl, vF lo] ln lm (by omega) (by omega) (by omega) (by omega) (lB rfl) w5 (Row.congr ((((r1.ext m2).ext m3).ext m4).ext m5) rfl).rng (((((r.ext m1).ext m2).ext m3).ext m4).ext m5) (((((ry.ext m1).ext m2).ext m3).ext m4).ext m5))) rfl rfl (ltb rfl) ?_
  rintro _ w6 ⟨b'1, c'1, d'1, c2'1, rfl, r5, r6, ge1, ge2, ne1, m6⟩
  refine WL.op (op_alloc (cs := [.slice none 0 0, vI 0, .slice none 0 0, vI 0, vI 0, vF 0, vF 0, vF 0, vF 0, vF 0, vF 0, vF 0]) Try.zeroValue36 rfl) rfl rfl (ltb rfl) ?_
  rintro _ w7 ⟨rfl, r7, m7, z5⟩
  refine WL.op0 (op_store (i := 0) (cs := [vS b'1 0 n c'1, vI ((i0 : Nat) : Int), vS d'1 0 m c2'1, vI ((h0 : Nat) : Int), vI dk, vF dc0, vF dc1, vF dc2, vF ds0, vF ds1, vF sl, vF lo]) rfl rfl rfl Try.sizeOf36 rfl r7 rfl (lB rfl) rfl) rfl rfl ?_
  rintro _ w8 ⟨r8, m8, z6⟩
  have r9 : Row w8 w6.heap.size 0 [vS b'1 0 n c'1, vI ((i0 : Nat) : Int), vS d'1 0 m c2'1, vI ((h0 : Nat) : Int), vI dk, vF dc0, vF dc1, vF dc2, vF ds0, vF ds1, vF sl, vF lo] := Row.congr r8 rfl
  refine WL.end ?_
  refine NE.code ?_
  refine CE.seq ?_
  refine CE.region ?_
  refine WL.det (op_build (qs := []) (cells := #[vF 0, vF 0, vF 0, vF 0, vF 0, vF 0, vF 0, vF 0, vF 0, vF 0, vF 0, vF 0, vF 0, vF 0, vF 0, vF 0]) rfl (by kernel_rfl)) rfl rfl rfl ?_
  refine WL.op (op_alloc (cs := fl (List.replicate 16 0)) Try.zeroValue82 rfl) rfl rfl (ltb rfl) ?_
  rintro _ w9 ⟨rfl, r10, m9, z7⟩
  refine WL.op0 (op_store (i := 0) (cs := fl (List.replicate 16 0)) rfl rfl rfl Try.sizeOf82 (fl_len List.length_replicate) r10 rfl (by rw [fl_length, List.length_replicate]; decide) (fl_one _)) rfl rfl ?_
  rintro _ w10 ⟨r11, m10, z8⟩
  have r12 : Row w10 w8.heap.size 0 (fl (List.replicate 16 0)) := Row.congr r11 (splice_all ((fl_len (List.length_replicate)).trans (fl_len (List.length_replicate)).symm))
  refine WL.end ?_
  refine NE.code ?_
  refine CE.seq ?_
  refine CE.seq ?_
  refine CE.region ?_
  refine WL.det (op_assign rfl) rfl rfl rfl ?_
  refine WL.end ?_
  refine NE.code ?_
  refine CE.block ?_
  refine CE.loop (fun (i : Nat) => [(9, vI ((i : Nat) : Int)), (3, vP w1.heap.size 0), (4, vP w2.heap.size 0), (5, vP w3.heap.size 0), (6, vI 0), (7, vP w6.heap.size 0), (8, vP w8.heap.size 0)]) (fun (i : Nat) => fun W => (i ≤ 16) ∧ ((bowAt n m dk dc0 dc1 dc2 sl lo xs i0 ys h0 ds0 ds1 (fun j => bs.getD j 0) i).i < n) ∧ ((bowAt n m dk dc0 dc1 dc2 sl lo xs i0 ys h0 ds0 ds1 (fun j => bs.getD j 0) i).h < m) ∧ ((bowAt n m dk dc0 dc1 dc2 sl lo xs i0 ys h0 ds0 ds1 (fun j => bs.getD j 0) i).xs.length = n) ∧ ((bowAt n m dk dc0 dc1 dc2 sl lo xs i0 ys h0 ds0 ds1 (fun j => bs.getD j 0) i).ys.length = m) ∧ (W32 (bowAt n m dk dc0 dc1 dc2 sl lo xs i0 ys h0 ds0 ds1 (fun j => bs.getD j 0) i).xs) ∧ (W32 (bowAt n m dk dc0 dc1 dc2 sl lo xs i0 ys h0 ds0 ds1 (fun j => bs.getD j 0) i).ys) ∧ ((bowAt n m dk dc0 dc1 dc2 sl lo xs i0 ys h0 ds0 ds1 (fun j => bs.getD j 0) i).s0 < wid .f32) ∧ ((bowAt n m dk dc0 dc1 dc2 sl lo xs i0 ys h0 ds0 ds1 (fun j => bs.getD j 0) i).s1 < wid .f32) ∧ Row W w6.heap.size 0 [vS b'1 0 n c'1, vI (((bowAt n m dk dc0 dc1 dc2 sl lo xs i0 ys h0 ds0 ds1 (fun j => bs.getD j 0) i).i : Nat) : Int), vS d'1 0 m c2'1, vI (((bowAt n m dk dc0 dc1 dc2 sl lo xs i0 ys h0 ds0 ds1 (fun j => bs.getD j 0) i).h : Nat) : Int), vI dk, vF dc0, vF dc1, vF dc2, vF ((bowAt n m dk dc0 dc1 dc2 sl lo xs i0 ys h0 ds0 ds1 (fun j => bs.getD j 0) i).s0), vF ((bowAt n m dk dc0 dc1 dc2 sl lo xs i0 ys h0 ds0 ds1 (fun j => bs.getD j 0) i).s1), vF sl, vF lo] ∧ Row W b'1 0 (fl ((bowAt n m dk dc0 dc1 dc2 sl lo xs i0 ys h0 ds0 ds1 (fun j => bs.getD j 0) i).xs)) ∧ Row W d'1 0 (fl ((bowAt n m dk dc0 dc1 dc2 sl lo xs i0 ys h0 ds0 ds1 (fun j => bs.getD j 0) i).ys)) ∧ Row W w8.heap.size 0 (fl (over (bowOut n m dk dc0 dc1 dc2 sl lo xs i0 ys h0 ds0 ds1 (fun j => bs.getD j 0)) (List.replicate 16 0) i)) ∧ Mod [w6.heap.size, b'1, d'1, w8.heap.size] w10 W) (fun (i : Nat) => 16 - i) 0 (⟨rfl, rfl, rfl, rfl, rfl, rfl, rfl, trivial⟩) ⟨(by omega), (by rw [bowAt_zero]; exact hi0), (by rw [bowAt_zero]; exact hh0), (by rw [bowAt_zero]; exact ln), (by rw [bowAt_zero]; exact lm), (by rw [bowAt_zero]; exact wx), (by rw [bowAt_zero]; exact wy), (by rw [bowAt_zero]; assumption), (by rw [bowAt_zero]; assumption), (Row.congr ((r9.ext m9).mod m10 (nC (lE (lL (lL r7.lt m8.size) lR)) nN)) (by rw [bowAt_zero])), (Row.congr ((((r5.ext m7).mod m8 (nC (lE (lL r5.lt lR)) nN)).ext m9).mod m10 (nC (lE (lL (lL r5.lt (lT m7.size m8.size)) lR)) nN)) (by rw [bowAt_zero])), (Row.congr ((((r6.ext m7).mod m8 (nC (lE (lL r6.lt lR)) nN)).ext m9).mod m10 (nC (lE (lL (lL r6.lt (lT m7.size m8.size)) lR)) nN)) (by rw [bowAt_zero])), (Row.congr r12 (over_zero _ _)), Mod.refl _ _⟩ ?_
  rintro i w11 ⟨hi, hz, hy, hl, hl2, hx, hx2, b0, b1, r13, r14, r15, r16, m11⟩
  show CE _ _ _ _ [(9, vI ((i : Nat) : Int)), (3, vP w1.heap.size 0), (4, vP w2.heap.size 0), (5, vP w3.heap.size 0), (6, vI 0), (7, vP w6.heap.size 0), (8, vP w8.heap.size 0)] _
  refine CE.seq ?_
  refine CE.seq ?_
  refine CE.region ?_
  refine WL.det (op_move rfl) rfl rfl rfl ?_
  refine WL.det (op_lti rfl rfl) rfl rfl rfl ?_
  refine WL.end ?_
  refine NE.code ?_
  rcases Bool.eq_false_or_eq_true (decide (((i : Nat) : Int) < (16 : Int))) with hb1 | hb1
  · have hp1 := hb1; try simp only [Bool.and_eq_true, Bool.or_eq_true, Bool.not_eq_true', Bool.not_eq_false', Bool.and_eq_false_iff, Bool.or_eq_false_iff, decide_eq_true_eq, decide_eq_false_iff_not, beq_iff_eq, bne_iff_ne, beq_eq_false_iff_ne, bne_eq_false_iff_eq, ne_eq, Bool.false_eq_true, not_false_eq_true, not_true_eq_false, vIn_t, vIn_f] at hp1
    refine CE.cond_t rfl hb1 ?_
    refine CE.skip' ?_
    refine NE.code ?_
    refine CE.seq ?_
    refine CE.block ?_
    refine CE.region ?_
    refine WL.det (op_move rfl) rfl rfl rfl ?_
    refine WL.det (op_move rfl) rfl rfl rfl ?_
    refine WL.det (op_indexArr (off' := 0 + i) rfl rfl Try.runUnderlying82 Try.sizeOf25 (by omega) (by omega) (by omega)) rfl rfl rfl ?_
    refine WL.det (op_load1 (i := i) rfl Try.isAgg25 (((((((((r2.ext m3).ext m4).ext m5).ext m6).ext m7).mod m8 (nC (lE (lL (lL r2.lt (lT (lT (lT m3.size m4.size) m5.size) m6.size)) lR)) nN)).ext m9).mod m10 (nC (lE (lL (lL r2.lt (lT (lT (lT (lT (lT m3.size m4.size) m5.size) m6.size) m7.size) m8.size)) lR)) nN)).mod m11 (nC (lE (lL (lL r2.lt (lT (lT (lT m3.size m4.size) m5.size) m6.size)) lR)) (nC (lE (lL (lL r2.lt (lT (lT m3.size m4.size) m5.size)) ge1)) (nC (lE (lL (lL r2.lt (lT (lT m3.size m4.size) m5.size)) ge2)) (nC (lE (lL (lL r2.lt (lT (lT (lT (lT (lT m3.size m4.size) m5.size) m6.size) m7.size) m8.size)) lR)) nN))))).rng rfl (fl_get (by have eL : List.length bs = 16 := lb; omega))) rfl rfl rfl ?_
    refine WL.call (oc_call (vs := [vP w6.heap.size 0, vF (bs.getD i 0)]) (cap := []) rfl rfl rfl Try.call84 (c_l05Step n c'1 b'1 ((bowAt n m dk dc0 dc1 dc2 sl lo xs i0 ys h0 ds0 ds1 (fun j => bs.getD j 0) i).xs) m c2'1 d'1 ((bowAt n m dk dc0 dc1 dc2 sl lo xs i0 ys h0 ds0 ds1 (fun j => bs.getD j 0) i).ys) ((bowAt n m dk dc0 dc1 dc2 sl lo xs i0 ys h0 ds0 ds1 (fun j => bs.getD j 0) i).i) ((bowAt n m dk dc0 dc1 dc2 sl lo xs i0 ys h0 ds0 ds1 (fun j => bs.getD j 0) i).h) dk dc0 dc1 dc2 ((bowAt n m dk dc0 dc1 dc2 sl lo xs i0 ys h0 ds0 ds1 (fun j => bs.getD j 0) i).s0) ((bowAt n m dk dc0 dc1 dc2 sl lo xs i0 ys h0 ds0 ds1 (fun j => bs.getD j 0) i).s1) sl lo w6.heap.size 0 [vS b'1 0 n c'1, vI (((bowAt n m dk dc0 dc1 dc2 sl lo xs i0 ys h0 ds0 ds1 (fun j => bs.getD j 0) i).i : Nat) : Int), vS d'1 0 m c2'1, vI (((bowAt n m dk dc0 dc1 dc2 sl lo xs i0 ys h0 ds0 ds1 (fun j => bs.getD j 0) i).h : Nat) : Int), vI dk, vF dc0, vF dc1, vF dc2, vF ((bowAt n m dk dc0 dc1 dc2 sl lo xs i0 ys h0 ds0 ds1 (fun j => bs.getD j 0) i).s0), vF ((bowAt n m dk dc0 dc1 dc2 sl lo xs i0 ys h0 ds0 ds1 (fun j => bs.getD j 0) i).s1), vF sl, vF lo] (bs.getD i 0) (bs.getD i 0) hl hl2 (by omega) (by omega) (by omega) (by omega) b0 b1 (lB rfl) hx hx2 rfl (wb.get _) w11 (Row.congr r13 rfl) r14 r15 (lG (lL r5.lt lR)) (lG (lL r6.lt lR)) ne1)) rfl rfl (ltb rfl) ?_
    rintro _ w12 ⟨rfl, h1, h2, h3, h4, r17, r18, r19, m12⟩
    have r20 : Row w12 w6.heap.size 0 [vS b'1 0 n c'1, vI (((((bowAt n m dk dc0 dc1 dc2 sl lo xs i0 ys h0 ds0 ds1 (fun j => bs.getD j 0) i).i) + 1) % n : Nat) : Int), vS d'1 0 m c2'1, vI (((((bowAt n m dk dc0 dc1 dc2 sl lo xs i0 ys h0 ds0 ds1 (fun j => bs.getD j 0) i).h) + 1) % m : Nat) : Int), vI dk, vF dc0, vF dc1, vF dc2, vF (stepS dk dc0 dc1 dc2 ((bowAt n m dk dc0 dc1 dc2 sl lo xs i0 ys h0 ds0 ds1 (fun j => bs.getD j 0) i).s0) ((bowAt n m dk dc0 dc1 dc2 sl lo xs i0 ys h0 ds0 ds1 (fun j => bs.getD j 0) i).s1) (((bowAt n m dk dc0 dc1 dc2 sl lo xs i0 ys h0 ds0 ds1 (fun j => bs.getD j 0) i).ys).getD ((bowAt n m dk dc0 dc1 dc2 sl lo xs i0 ys h0 ds0 ds1 (fun j => bs.getD j 0) i).h) 0)), vF (stepT dk dc0 dc1 dc2 ((bowAt n m dk dc0 dc1 dc2 sl lo xs i0 ys h0 ds0 ds1 (fun j => bs.getD j 0) i).s0) ((bowAt n m dk dc0 dc1 dc2 sl lo xs i0 ys h0 ds0 ds1 (fun j => bs.getD j 0) i).s1) (((bowAt n m dk dc0 dc1 dc2 sl lo xs i0 ys h0 ds0 ds1 (fun j => bs.getD j 0) i).ys).getD ((bowAt n m dk dc0 dc1 dc2 sl lo xs i0 ys h0 ds0 ds1 (fun j => bs.getD j 0) i).h) 0)), vF sl, vF lo] := r17
    refine WL.det (op_indexArr (off' := 0 + i) rfl rfl Try.runUnderlying82 Try.sizeOf25 (by omega) (by omega) (by omega)) rfl rfl rfl ?_
    refine WL.op0 (op_store (i := i) (cs := [vF (((bowAt n m dk dc0 dc1 dc2 sl lo xs i0 ys h0 ds0 ds1 (fun j => bs.getD j 0) i).ys).getD ((bowAt n m dk dc0 dc1 dc2 sl lo xs i0 ys h0 ds0 ds1 (fun j => bs.getD j 0) i).h) 0)]) rfl rfl rfl Try.sizeOf25 rfl (r16.mod m12 (nC (lG (lL (lL r7.lt m8.size) lR)) (nC (lG (lL (lL r5.lt (lT m7.size m8.size)) lR)) (nC (lG (lL (lL r6.lt (lT m7.size m8.size)) lR)) nN)))) rfl (by rw [fl_length]; have eL : List.length (over (bowOut n m dk dc0 dc1 dc2 sl lo xs i0 ys h0 ds0 ds1 (fun j => bs.getD j 0)) (List.replicate 16 0) i) = 16 := (over_len List.length_replicate (by omega)); omega) rfl) rfl rfl ?_
    rintro _ w13 ⟨r21, m13, z9⟩
    have r22 : Row w13 w8.heap.size 0 (fl ((over (bowOut n m dk dc0 dc1 dc2 sl lo xs i0 ys h0 ds0 ds1 (fun j => bs.getD j 0)) (List.replicate 16 0) i).set i (((bowAt n m dk dc0 dc1 dc2 sl lo xs i0 ys h0 ds0 ds1 (fun j => bs.getD j 0) i).ys).getD ((bowAt n m dk dc0 dc1 dc2 sl lo xs i0 ys h0 ds0 ds1 (fun j => bs.getD j 0) i).h) 0))) := Row.congr r21 (fl_splice (by have eL : List.length (over (bowOut n m dk dc0 dc1 dc2 sl lo xs i0 ys h0 ds0 ds1 (fun j => bs.getD j 0)) (List.replicate 16 0) i) = 16 := (over_len List.length_replicate (by omega)); omega))
    refine WL.end ?_
    refine NE.blk ?_
    refine NE.code ?_
    refine CE.region ?_
    refine WL.det (op_move rfl) rfl rfl rfl ?_
    refine WL.det (op_add (r := ((i + 1 : Nat) : Int)) rfl rfl (w_i64 (by omega) (by omega))) rfl rfl rfl ?_
    refine WL.det (op_assign rfl) rfl rfl rfl ?_
    refine WL.end ?_
    exact NE.again (i + 1) (⟨rfl, rfl, rfl, rfl, rfl, rfl, rfl, trivial⟩) ⟨(by omega), (by rw [bowAt_succ]; exact Nat.mod_lt _ (by omega)), (by rw [bowAt_succ]; exact Nat.mod_lt _ (by omega)), (by rw [bowAt_succ]; exact (List.length_set).trans hl), (by rw [bowAt_succ]; exact (List.length_set).trans hl2), (by rw [bowAt_succ]; exact W32.set hx (by assumption)), (by rw [bowAt_succ]; exact W32.set hx2 (by assumption)), (by rw [bowAt_succ]; assumption), (by rw [bowAt_succ]; assumption), (Row.congr (r20.mod m13 (nC (lE (lL (lL r7.lt m8.size) lR)) nN)) (by rw [bowAt_succ]; rfl)), (Row.congr (r18.mod m13 (nC (lE (lL (lL r5.lt (lT m7.size m8.size)) lR)) nN)) (by rw [bowAt_succ]; rfl)), (Row.congr (r19.mod m13 (nC (lE (lL (lL r6.lt (lT m7.size m8.size)) lR)) nN)) (by rw [bowAt_succ]; rfl)), (Row.congr r22 (over_set List.length_replicate (by omega))), ((m11.then m12 ((aC (.inl (by simp)) (aC (.inl (by simp)) (aC (.inl (by simp)) aN))))).then m13 ((aC (.inl (by simp)) aN)))⟩ (by first | (dsimp only; omega) | omega)
  · have hp1 := hb1; try simp only [Bool.and_eq_true, Bool.or_eq_true, Bool.not_eq_true', Bool.not_eq_false', Bool.and_eq_false_iff, Bool.or_eq_false_iff, decide_eq_true_eq, decide_eq_false_iff_not, beq_iff_eq, bne_iff_ne, beq_eq_false_iff_ne, bne_eq_false_iff_eq, ne_eq, Bool.false_eq_true, not_false_eq_true, not_true_eq_false, vIn_t, vIn_f] at hp1
    refine CE.cond_f rfl hb1 ?_
    refine CE.exit' ?_
    refine XE.exit_then ?_
    refine XE.exit_then ?_
    refine XE.exit_here ?_
    refine NE.code ?_
    refine CE.seq ?_
    refine CE.draw (fun _ => none) [0, 1, 2] [3, 4] [w2.heap.size] (by kernel_rfl) (by kernel_rfl) ?_
    have md1 : Mod [] w11 w11.drew := (Mod.refl _ _).drew
    generalize w11.drew = w14 at md1 ⊢
    refine DR.det (i := 0) rfl rfl (by kernel_rfl) (.free rfl) rfl rfl (fun wD mD => op_loadA (i := 0) (cs := [vS b'1 0 n c'1, vI (((bowAt n m dk dc0 dc1 dc2 sl lo xs i0 ys h0 ds0 ds1 (fun j => bs.getD j 0) i).i : Nat) : Int), vS d'1 0 m c2'1, vI (((bowAt n m dk dc0 dc1 dc2 sl lo xs i0 ys h0 ds0 ds1 (fun j => bs.getD j 0) i).h : Nat) : Int), vI dk, vF dc0, vF dc1, vF dc2, vF ((bowAt n m dk dc0 dc1 dc2 sl lo xs i0 ys h0 ds0 ds1 (fun j => bs.getD j 0) i).s0), vF ((bowAt n m dk dc0 dc1 dc2 sl lo xs i0 ys h0 ds0 ds1 (fun j => bs.getD j 0) i).s1), vF sl, vF lo]) rfl Try.isAgg36 Try.sizeOf36 ((r13.ext md1).mod mD (nC (lG (lL (lL r3.lt (lT (lT m4.size m5.size) m6.size)) lR)) nN)).rng rfl rfl rfl) ?_
    refine DR.det (i := 1) rfl rfl (by kernel_rfl) (.free rfl) rfl rfl (fun wD mD => op_loadA (i := 0) (cs := fl (over (bowOut n m dk dc0 dc1 dc2 sl lo xs i0 ys h0 ds0 ds1 (fun j => bs.getD j 0)) (List.replicate 16 0) i)) rfl Try.isAgg82 Try.sizeOf82 ((r16.ext md1).mod mD (nC (lG (lL (lL r3.lt (lT (lT (lT (lT m4.size m5.size) m6.size) m7.size) m8.size)) lR)) nN)).rng rfl (fl_whole (over_len List.length_replicate (by omega))) (fl_len (over_len List.length_replicate (by omega)))) ?_
    refine DR.st1 (i := 2) rfl rfl (by kernel_rfl) (.free rfl) rfl ?_
    intro w15 m14
    refine Op1.mono (op_store (i := 0) (cs := [vS b'1 0 n c'1, vI (((bowAt n m dk dc0 dc1 dc2 sl lo xs i0 ys h0 ds0 ds1 (fun j => bs.getD j 0) i).i : Nat) : Int), vS d'1 0 m c2'1, vI (((bowAt n m dk dc0 dc1 dc2 sl lo xs i0 ys h0 ds0 ds1 (fun j => bs.getD j 0) i).h : Nat) : Int), vI dk, vF dc0, vF dc1, vF dc2, vF ((bowAt n m dk dc0 dc1 dc2 sl lo xs i0 ys h0 ds0 ds1 (fun j => bs.getD j 0) i).s0), vF ((bowAt n m dk dc0 dc1 dc2 sl lo xs i0 ys h0 ds0 ds1 (fun j => bs.getD j 0) i).s1), vF sl, vF lo]) rfl rfl rfl Try.sizeOf36 rfl ((((((((((r3.ext m4).ext m5).ext m6).ext m7).mod m8 (nC (lE (lL (lL r3.lt (lT (lT m4.size m5.size) m6.size)) lR)) nN)).ext m9).mod m10 (nC (lE (lL (lL r3.lt (lT (lT (lT (lT m4.size m5.size) m6.size) m7.size) m8.size)) lR)) nN)).mod m11 (nC (lE (lL (lL r3.lt (lT (lT m4.size m5.size) m6.size)) lR)) (nC (lE (lL (lL r3.lt (lT m4.size m5.size)) ge1)) (nC (lE (lL (lL r3.lt (lT m4.size m5.size)) ge2)) (nC (lE (lL (lL r3.lt (lT (lT (lT (lT m4.size m5.size) m6.size) m7.size) m8.size)) lR)) nN))))).ext md1).ext m14) rfl (lB rfl) rfl) ?_
    rintro _ w16 ⟨r23, m15, z10⟩
    have r24 : Row w16 w2.heap.size 0 [vS b'1 0 n c'1, vI (((bowAt n m dk dc0 dc1 dc2 sl lo xs i0 ys h0 ds0 ds1 (fun j => bs.getD j 0) i).i : Nat) : Int), vS d'1 0 m c2'1, vI (((bowAt n m dk dc0 dc1 dc2 sl lo xs i0 ys h0 ds0 ds1 (fun j => bs.getD j 0) i).h : Nat) : Int), vI dk, vF dc0, vF dc1, vF dc2, vF ((bowAt n m dk dc0 dc1 dc2 sl lo xs i0 ys h0 ds0 ds1 (fun j => bs.getD j 0) i).s0), vF ((bowAt n m dk dc0 dc1 dc2 sl lo xs i0 ys h0 ds0 ds1 (fun j => bs.getD j 0) i).s1), vF sl, vF lo] := Row.congr r23 rfl
    refine ⟨(((Mod.refl [w2.heap.size] w14).nt m14).then m15 ((aC (.inl (by simp)) aN))), ?_⟩
    refine DR.done rfl ?_
    intro w17 m16
    refine WO.op0 rfl (.free rfl) rfl (op_store (i := 0) (cs := fl (over (bowOut n m dk dc0 dc1 dc2 sl lo xs i0 ys h0 ds0 ds1 (fun j => bs.getD j 0)) (List.replicate 16 0) i)) rfl rfl rfl Try.sizeOf82 (fl_len (over_len List.length_replicate (by omega))) (((((((((((r4.ext m5).ext m6).ext m7).mod m8 (nC (lE (lL (lL r4.lt (lT m5.size m6.size)) lR)) nN)).ext m9).mod m10 (nC (lE (lL (lL r4.lt (lT (lT (lT m5.size m6.size) m7.size) m8.size)) lR)) nN)).mod m11 (nC (lE (lL (lL r4.lt (lT m5.size m6.size)) lR)) (nC (lE (lL (lL r4.lt m5.size) ge1)) (nC (lE (lL (lL r4.lt m5.size) ge2)) (nC (lE (lL (lL r4.lt (lT (lT (lT m5.size m6.size) m7.size) m8.size)) lR)) nN))))).ext md1).ext m14).mod m15 (nC (lG (lL r3.lt lR)) nN)).ext m16) rfl (by rw [fl_length, List.length_replicate]; decide) (fl_one _)) ?_
    rintro _ w18 ⟨r25, m17, z11⟩
    have r26 : Row w18 w3.heap.size 0 (fl (over (bowOut n m dk dc0 dc1 dc2 sl lo xs i0 ys h0 ds0 ds1 (fun j => bs.getD j 0)) (List.replicate 16 0) i)) := Row.congr r25 (splice_all ((fl_len (List.length_replicate)).trans (fl_len ((over_len List.length_replicate (by omega)))).symm))
    refine WO.det (op_assign rfl) rfl (.free rfl) rfl rfl ?_
    refine WO.end ?_
    refine NE.code ?_
    refine CE.ret' ?_
    refine XE.leaveT Try.results52 (res_agg (cs := [vS b'1 0 n c'1, vI (((bowAt n m dk dc0 dc1 dc2 sl lo xs i0 ys h0 ds0 ds1 (fun j => bs.getD j 0) i).i : Nat) : Int), vS d'1 0 m c2'1, vI (((bowAt n m dk dc0 dc1 dc2 sl lo xs i0 ys h0 ds0 ds1 (fun j => bs.getD j 0) i).h : Nat) : Int), vI dk, vF dc0, vF dc1, vF dc2, vF ((bowAt n m dk dc0 dc1 dc2 sl lo xs i0 ys h0 ds0 ds1 (fun j => bs.getD j 0) i).s0), vF ((bowAt n m dk dc0 dc1 dc2 sl lo xs i0 ys h0 ds0 ds1 (fun j => bs.getD j 0) i).s1), vF sl, vF lo]) rfl Try.isAgg36 Try.sizeOf36 ((r24.ext m16).mod m17 (nC (lE (lL r3.lt lR)) nN)).rng rfl (res_agg (cs := fl (over (bowOut n m dk dc0 dc1 dc2 sl lo xs i0 ys h0 ds0 ds1 (fun j => bs.getD j 0)) (List.replicate 16 0) i)) rfl Try.isAgg82 Try.sizeOf82 r26.rng (fl_len (over_len List.length_replicate (by omega))) (res_tmp rfl res_nil))) ?_
    refine ⟨b'1, c'1, d'1, c2'1, ?_, ?_, ?_, ?_, (Row.congr (((((r14.ext md1).ext m14).mod m15 (nC (lG (lL (lL r3.lt (lT m4.size m5.size)) ge1)) nN)).ext m16).mod m17 (nC (lG (lL (lL r4.lt m5.size) ge1)) nN)) ?_), (Row.congr (((((r15.ext md1).ext m14).mod m15 (nC (lG (lL (lL r3.lt (lT m4.size m5.size)) ge2)) nN)).ext m16).mod m17 (nC (lG (lL (lL r4.lt m5.size) ge2)) nN)) ?_), (lT (lT (lT (lT (lT m1.size m2.size) m3.size) m4.size) m5.size) ge1), (lT (lT (lT (lT (lT m1.size m2.size) m3.size) m4.size) m5.size) ge2), ne1, (((((((((((((((((Mod.refl [] w).nt m1).nt m2).nt m3).nt m4).nt m5).nt m6).nt m7).then m8 ((aC (.inr (lT (lT (lT (lT (lT (lT m1.size m2.size) m3.size) m4.size) m5.size) m6.size) lR)) aN))).nt m9).then m10 ((aC (.inr (lT (lT (lT (lT (lT (lT (lT (lT m1.size m2.size) m3.size) m4.size) m5.size) m6.size) m7.size) m8.size) lR)) aN))).then m11 ((aC (.inr (lT (lT (lT (lT (lT (lT m1.size m2.size) m3.size) m4.size) m5.size) m6.size) lR)) (aC (.inr (lT (lT (lT (lT (lT m1.size m2.size) m3.size) m4.size) m5.size) ge1)) (aC (.inr (lT (lT (lT (lT (lT m1.size m2.size) m3.size) m4.size) m5.size) ge2)) (aC (.inr (lT (lT (lT (lT (lT (lT (lT (lT m1.size m2.size) m3.size) m4.size) m5.size) m6.size) m7.size) m8.size) lR)) aN)))))).nt md1).nt m14).then m15 ((aC (.inr (lT (lT m1.size m2.size) lR)) aN))).nt m16).then m17 ((aC (.inr (lT (lT (lT m1.size m2.size) m3.size) lR)) aN)))⟩
    all_goals subst hze
    all_goals subst hoe
    all_goals first | assumption | (have e : i = 16 := (by omega); subst e; first | assumption | (rw [over_full _ List.length_replicate]; done) | rfl) | rfl | exact over_done_len

set_option maxRecDepth 100000 in
set_option maxHeartbeats 2000000 in
theorem c_sBlockBow_bad (n : Nat) (c : Nat) (b : Nat) (xs : List Nat) (m : Nat) (c2 : Nat) (d : Nat) (ys : List Nat) (j : Int) (jj : Int) (dk : Int) (dc0 : Nat) (dc1 : Nat) (dc2 : Nat) (ds0 : Nat) (ds1 : Nat) (sl : Nat) (lo : Nat) (bs : List Nat) (ln : xs.length = n) (lm : ys.length = m) (hn : n ≤ 1048576) (hm : m ≤ 1048576) (lds0 : ds0 < wid .f32) (lds1 : ds1 < wid .f32) (lb : bs.length = 16) (wb : W32 bs) (hv : vBow n j m jj xs ys dk dc0 dc1 dc2 ds0 ds1 sl lo = false) (w : World) (r : Rng w b 0 (fl xs)) (ry : Rng w d 0 (fl ys)) : Cl Try.prog 52 #[.agg #[vS b 0 n c, vI j, vS d 0 m c2, vI jj, vI dk, vF dc0, vF dc1, vF dc2, vF ds0, vF ds1, vF sl, vF lo], .agg (fl bs).toArray] w fun v w' => v = .tuple #[.agg #[.slice none 0 0, vI 0, .slice none 0 0, vI 0, vI 0, vF 0, vF 0, vF 0, vF 0, vF 0, vF 0, vF 0], .agg (fl (List.replicate 16 0)).toArray, vI 1] ∧ Mod [] w w' := by
  refine Cl.of Try.func52 Try.ntmps52 rfl rfl (ρ := [(0, .agg #[vS b 0 n c, vI j, vS d 0 m c2, vI jj, vI dk, vF dc0, vF dc1, vF dc2, vF ds0, vF ds1, vF sl, vF lo]), (1, .agg (fl bs).toArray)]) rfl ?_
  refine CE.seq ?_
  refine CE.region ?_
  refine WL.op (op_box (cs := [vS b 0 n c, vI j, vS d 0 m c2, vI jj, vI dk, vF dc0, vF dc1, vF dc2, vF ds0, vF ds1, vF sl, vF lo]) rfl rfl) rfl rfl (ltb rfl) ?_
  rintro _ w1 ⟨rfl, r1, m1, z1⟩
  refine WL.op (op_box (cs := fl bs) rfl rfl) rfl rfl (ltb rfl) ?_
  rintro _ w2 ⟨rfl, r2, m2, z2⟩
  refine WL.op (op_alloc (cs := [.slice none 0 0, vI 0, .slice none 0 0, vI 0, vI 0, vF 0, vF 0, vF 0, vF 0, vF 0, vF 0, vF 0]) Try.zeroValue36 rfl) rfl rfl (ltb rfl) ?_
  rintro _ w3 ⟨rfl, r3, m3, z3⟩
  refine WL.op (op_alloc (cs := fl (List.replicate 16 0)) Try.zeroValue82 rfl) rfl rfl (ltb rfl) ?_
  rintro _ w4 ⟨rfl, r4, m4, z4⟩
  refine WL.det (op_assign rfl) rfl rfl rfl ?_
  refine WL.end ?_
  refine NE.code ?_
  refine CE.seq ?_
  refine CE.seq ?_
  refine CE.region ?_
  refine WL.call (oc_call (vs := [vP w.heap.size 0]) (cap := []) rfl rfl rfl Try.call55 (c_l05Bow n c b xs m c2 d ys j jj dk dc0 dc1 dc2 ds0 ds1 sl lo w.heap.size 0 [vS b 0 n c, vI j, vS d 0 m c2, vI jj, vI dk, vF dc0, vF dc1, vF dc2, vF ds0, vF ds1, vF sl, vF lo] ln lm (by omega) (by omega) (lB rfl) w4 (Row.congr (((r1.ext m2).ext m3).ext m4) rfl).rng ((((r.ext m1).ext m2).ext m3).ext m4) ((((ry.ext m1).ext m2).ext m3).ext m4))) rfl rfl (ltb rfl) ?_
  rintro _ w5 ⟨rfl, m5⟩
  refine WL.det (op_not rfl) rfl rfl rfl ?_
  refine WL.end ?_
  refine NE.code ?_
  refine CE.cond_t rfl (bnot_f hv) ?_
  refine CE.seq ?_
  refine CE.region ?_
  refine WL.det (op_build (qs := []) (cells := #[.slice none 0 0, vI 0, .slice none 0 0, vI 0, vI 0, vF 0, vF 0, vF 0, vF 0, vF 0, vF 0, vF 0]) rfl (by kernel_rfl)) rfl rfl rfl ?_
  refine WL.det (op_build (qs := []) (cells := #[vF 0, vF 0, vF 0, vF 0, vF 0, vF 0, vF 0, vF 0, vF 0, vF 0, vF 0, vF 0, vF 0, vF 0, vF 0, vF 0]) rfl (by kernel_rfl)) rfl rfl rfl ?_
  refine WL.op0 (op_store (i := 0) (cs := [.slice none 0 0, vI 0, .slice none 0 0, vI 0, vI 0, vF 0, vF 0, vF 0, vF 0, vF 0, vF 0, vF 0]) rfl rfl rfl Try.sizeOf36 rfl ((r3.ext m4).ext m5) rfl (lB rfl) rfl) rfl rfl ?_
  rintro _ w6 ⟨r5, m6, z5⟩
  have r6 : Row w6 w2.heap.size 0 [.slice none 0 0, vI 0, .slice none 0 0, vI 0, vI 0, vF 0, vF 0, vF 0, vF 0, vF 0, vF 0, vF 0] := Row.congr r5 rfl
  refine WL.op0 (op_store (i := 0) (cs := fl (List.replicate 16 0)) rfl rfl rfl Try.sizeOf82 (fl_len List.length_replicate) ((r4.ext m5).mod m6 (nC (lG (lL r3.lt lR)) nN)) rfl (by rw [fl_length, List.length_replicate]; decide) (fl_one _)) rfl rfl ?_
  rintro _ w7 ⟨r7, m7, z6⟩
  have r8 : Row w7 w3.heap.size 0 (fl (List.replicate 16 0)) := Row.congr r7 (splice_all ((fl_len (List.length_replicate)).trans (fl_len (List.length_replicate)).symm))
  refine WL.det (op_assign rfl) rfl rfl rfl ?_
  refine WL.end ?_
  refine NE.code ?_
  refine CE.ret' ?_
  refine XE.ret_then ?_
  refine XE.leaveT Try.results52 (res_agg (cs := [.slice none 0 0, vI 0, .slice none 0 0, vI 0, vI 0, vF 0, vF 0, vF 0, vF 0, vF 0, vF 0, vF 0]) rfl Try.isAgg36 Try.sizeOf36 (r6.mod m7 (nC (lE (lL r3.lt lR)) nN)).rng rfl (res_agg (cs := fl (List.replicate 16 0)) rfl Try.isAgg82 Try.sizeOf82 r8.rng (fl_len List.length_replicate) (res_tmp rfl res_nil))) ?_
  refine ⟨rfl, ((((((((Mod.refl [] w).nt m1).nt m2).nt m3).nt m4).nt m5).then m6 ((aC (.inr (lT (lT m1.size m2.size) lR)) aN))).then m7 ((aC (.inr (lT (lT (lT m1.size m2.size) m3.size) lR)) aN)))⟩

set_option maxRecDepth 100000 in
set_option maxHeartbeats 2000000 in
theorem c_iBlockBow (n : Nat) (c : Nat) (b : Nat) (xs : List Nat) (m : Nat) (c2 : Nat) (d : Nat) (ys : List Nat) (i0 : Nat) (h0 : Nat) (dk : Int) (dc0 : Nat) (dc1 : Nat) (dc2 : Nat) (ds0 : Nat) (ds1 : Nat) (sl : Nat) (lo : Nat) (bs : List Nat) (z : BowSt) (ou : List Nat) (ln : xs.length = n) (lm : ys.length = m) (hi0 : i0 < n) (hh0 : h0 < m) (hn : n ≤ 1024) (hm : m ≤ 1024) (wx : W32 xs) (wy : W32 ys) (lds0 : ds0 < wid .f32) (lds1 : ds1 < wid .f32) (lb : bs.length = 16) (wb : W32 bs) (hze : z = (bowAt n m dk dc0 dc1 dc2 sl lo xs i0 ys h0 ds0 ds1 (fun j => bs.getD j 0) 16)) (hoe : ou = ((List.range 16).map (bowOut n m dk dc0 dc1 dc2 sl lo xs i0 ys h0 ds0 ds1 (fun j => bs.getD j 0)))) (hv : vBow n ((i0 : Nat) : Int) m ((h0 : Nat) : Int) xs ys dk dc0 dc1 dc2 ds0 ds1 sl lo = true) (w : World) (r : Rng w b 0 (fl xs)) (ry : Rng w d 0 (fl ys)) : Cl Try.prog 53 #[.agg #[vS b 0 n c, vI ((i0 : Nat) : Int), vS d 0 m c2, vI ((h0 : Nat) : Int), vI dk, vF dc0, vF dc1, vF dc2, vF ds0, vF ds1, vF sl, vF lo], .agg (fl bs).toArray] w fun v w' => ∃ (b' : Nat) (c' : Nat) (d' : Nat) (c2' : Nat), v = .tuple #[.agg #[vS b' 0 n c', vI ((z.i : Nat) : Int), vS d' 0 m c2', vI ((z.h : Nat) : Int), vI dk, vF dc0, vF dc1, vF dc2, vF z.s0, vF z.s1, vF sl, vF lo], .agg (fl ou).toArray, vI 0] ∧ (z.xs.length = n) ∧ (z.ys.length = m) ∧ (ou.length = 16) ∧ Row w' b' 0 (fl z.xs) ∧ Row w' d' 0 (fl z.ys) ∧ w.heap.size ≤ b' ∧ w.heap.size ≤ d' ∧ b' ≠ d' ∧ Mod [] w w' := by
  refine Cl.of Try.func53 Try.ntmps53 rfl rfl (ρ := [(0, .agg #[vS b 0 n c, vI ((i0 : Nat) : Int), vS d 0 m c2, vI ((h0 : Nat) : Int), vI dk, vF dc0, vF dc1, vF dc2, vF ds0, vF ds1, vF sl, vF lo]), (1, .agg (fl bs).toArray)]) rfl ?_
  refine CE.seq ?_
  refine CE.region ?_
  refine WL.op (op_box (cs := [vS b 0 n c, vI ((i0 : Nat) : Int), vS d 0 m c2, vI ((h0 : Nat) : Int), vI dk, vF dc0, vF dc1, vF dc2, vF ds0, vF ds1, vF sl, vF lo]) rfl rfl) rfl rfl (ltb rfl) ?_
  rintro _ w1 ⟨rfl, r1, m1, z1⟩
  refine WL.op (op_box (cs := fl bs) rfl rfl) rfl rfl (ltb rfl) ?_
  rintro _ w2 ⟨rfl, r2, m2, z2⟩
  refine WL.op (op_alloc (cs := [.slice none 0 0, vI 0, .slice none 0 0, vI 0, vI 0, vF 0, vF 0, vF 0, vF 0, vF 0, vF 0, vF 0]) Try.zeroValue36 rfl) rfl rfl (ltb rfl) ?_
  rintro _ w3 ⟨rfl, r3, m3, z3⟩
  refine WL.op (op_alloc (cs := fl (List.replicate 16 0)) Try.zeroValue82 rfl) rfl rfl (ltb rfl) ?_
  rintro _ w4 ⟨rfl, r4, m4, z4⟩
  refine WL.det (op_assign rfl) rfl rfl rfl ?_
  refine WL.end ?_
  refine NE.code ?_
  refine CE.seq ?_
  refine CE.seq ?_
  refine CE.region ?_
  refine WL.det (op_loadA (i := 0) (cs := [vS b 0 n c, vI ((i0 : Nat) : Int), vS d 0 m c2, vI ((h0 : Nat) : Int), vI dk, vF dc0, vF dc1, vF dc2, vF ds0, vF ds1, vF sl, vF lo]) rfl Try.isAgg36 Try.sizeOf36 (((r1.ext m2).ext m3).ext m4).rng rfl rfl rfl) rfl rfl rfl ?_
  refine WL.call (oc_call (vs := [.agg #[vS b 0 n c, vI ((i0 : Nat) : Int), vS d 0 m c2, vI ((h0 : Nat) : Int), vI dk, vF dc0, vF dc1, vF dc2, vF ds0, vF ds1, vF sl, vF lo]]) (cap := []) rfl rfl rfl Try.call61 (c_ValidBow n c b xs m c2 d ys ((i0 : Nat) : Int) ((h0 : Nat) : Int) dk dc0 dc1 dc2 ds0 ds1 sl lo ln lm (by omega) (by omega) w4 ((((r.ext m1).ext m2).ext m3).ext m4) ((((ry.ext m1).ext m2).ext m3).ext m4))) rfl rfl (ltb rfl) ?_
  rintro _ w5 ⟨rfl, m5⟩
  refine WL.det (op_not rfl) rfl rfl rfl ?_
  refine WL.end ?_
  refine NE.code ?_
  refine CE.cond_f rfl (bnot_t hv) ?_
  refine CE.skip' ?_
  refine NE.code ?_
  refine CE.seq ?_
  refine CE.region ?_
  refine WL.det (op_loadA (i := 0) (cs := [vS b 0 n c, vI ((i0 : Nat) : Int), vS d 0 m c2, vI ((h0 : Nat) : Int), vI dk, vF dc0, vF dc1, vF dc2, vF ds0, vF ds1, vF sl, vF lo]) rfl Try.isAgg36 Try.sizeOf36 ((((r1.ext m2).ext m3).ext m4).ext m5).rng rfl rfl rfl) rfl rfl rfl ?_
  refine WL.call (oc_call (vs := [.agg #[vS b 0 n c, vI ((i0 : Nat) : Int), vS d 0 m c2, vI ((h0 : Nat) : Int), vI dk, vF dc0, vF dc1, vF dc2, vF ds0, vF ds1, vF sl, vF lo]]) (cap := []) rfl rfl rfl Try.call63 (c_cloneBow n c b xs m c2 d ys ((i0 : Nat) : Int) ((h0 : Nat) : Int) dk dc0 dc1 dc2 ds0 ds1 sl lo ln lm (by omega) (by omega) (by omega) (by omega) w5 (((((r.ext m1).ext m2).ext m3).ext m4).ext m5) (((((ry.ext m1).ext m2).ext m3).ext m4).ext m5))) rfl rfl (ltb rfl) ?_
  rintro _ w6 ⟨b'1, c'1, d'1, c2'1, rfl, r5, r6, ge1, ge2, ne1, m6⟩
  refine WL.op0 (op_store (i := 0) (cs := [vS b'1 0 n c'1, vI ((i0 : Nat) : Int), vS d'1 0 m c2'1, vI ((h0 : Nat) : Int), vI dk, vF dc0, vF dc1, vF dc2, vF ds0, vF ds1, vF sl, vF lo]) rfl rfl rfl Try.sizeOf36 rfl (((((r1.ext m2).ext m3).ext m4).ext m5).ext m6) rfl (lB rfl) rfl) rfl rfl ?_
  rintro _ w7 ⟨r7, m7, z5⟩
  have r8 : Row w7 w.heap.size 0 [vS b'1 0 n c'1, vI ((i0 : Nat) : Int), vS d'1 0 m c2'1, vI ((h0 : Nat) : Int), vI dk, vF dc0, vF dc1, vF dc2, vF ds0, vF ds1, vF sl, vF lo] := Row.congr r7 rfl
  refine WL.end ?_
  refine NE.code ?_
  refine CE.seq ?_
  refine CE.region ?_
  refine WL.det (op_makeFunc (vs := []) (us := [vP w.heap.size 0, vP w1.heap.size 0]) rfl rfl) rfl rfl rfl ?_
  refine WL.call (oc_call (vs := [.func (.func 88) #[] #[vP w.heap.size 0, vP w1.heap.size 0]]) (cap := []) rfl rfl rfl Try.call86 (c_made_blockBow n c'1 b'1 xs m c2'1 d'1 ys i0 h0 dk dc0 dc1 dc2 ds0 ds1 sl lo w.heap.size 0 [vS b'1 0 n c'1, vI ((i0 : Nat) : Int), vS d'1 0 m c2'1, vI ((h0 : Nat) : Int), vI dk, vF dc0, vF dc1, vF dc2, vF ds0, vF ds1, vF sl, vF lo] bs w1.heap.size ln lm (by omega) (by omega) (by omega) (by omega) (by first | assumption | exact W32.set (by assumption) (by first | assumption | exact wid_lt (by assumption)) | exact W32.zeros _ | exact W32.nil) (by first | assumption | exact W32.set (by assumption) (by first | assumption | exact wid_lt (by assumption)) | exact W32.zeros _ | exact W32.nil) lds0 lds1 (lB rfl) lb wb w7 (Row.congr r8 rfl) (r5.mod m7 (nC (lG (lL (lL r1.lt (lT (lT (lT m2.size m3.size) m4.size) m5.size)) ge1)) nN)) (r6.mod m7 (nC (lG (lL (lL r1.lt (lT (lT (lT m2.size m3.size) m4.size) m5.size)) ge2)) nN)) (((((r2.ext m3).ext m4).ext m5).ext m6).mod m7 (nC (lG (lL r1.lt lR)) nN)).rng (lE (lL (lL r1.lt (lT (lT (lT m2.size m3.size) m4.size) m5.size)) ge1)) (lE (lL (lL r1.lt (lT (lT (lT m2.size m3.size) m4.size) m5.size)) ge2)) ne1 (lG (lL r1.lt lR)) (lE (lL (lL r2.lt (lT (lT m3.size m4.size) m5.size)) ge1)) (lE (lL (lL r2.lt (lT (lT m3.size m4.size) m5.size)) ge2)))) rfl rfl (ltb rfl) ?_
  rintro _ w8 ⟨rfl, h1, h2, r9, r10, r11, m8⟩
  have r12 : Row w8 w.heap.size 0 [vS b'1 0 n c'1, vI (((bowAt n m dk dc0 dc1 dc2 sl lo xs i0 ys h0 ds0 ds1 (fun j => bs.getD j 0) 16).i : Nat) : Int), vS d'1 0 m c2'1, vI (((bowAt n m dk dc0 dc1 dc2 sl lo xs i0 ys h0 ds0 ds1 (fun j => bs.getD j 0) 16).h : Nat) : Int), vI dk, vF dc0, vF dc1, vF dc2, vF ((bowAt n m dk dc0 dc1 dc2 sl lo xs i0 ys h0 ds0 ds1 (fun j => bs.getD j 0) 16).s0), vF ((bowAt n m dk dc0 dc1 dc2 sl lo xs i0 ys h0 ds0 ds1 (fun j => bs.getD j 0) 16).s1), vF sl, vF lo] := r9
  refine WL.op (op_alloc (cs := fl (List.replicate 16 0)) Try.zeroValue82 rfl) rfl rfl (ltb rfl) ?_
  rintro _ w9 ⟨rfl, r13, m9, z6⟩
  refine WL.op0 (op_store (i := 0) (cs := fl ((List.range 16).map (bowOut n m dk dc0 dc1 dc2 sl lo xs i0 ys h0 ds0 ds1 (fun j => bs.getD j 0)))) rfl rfl rfl Try.sizeOf82 (fl_len over_done_len) r13 rfl (by rw [fl_length, List.length_replicate]; decide) (fl_one _)) rfl rfl ?_
  rintro _ w10 ⟨r14, m10, z7⟩
  have r15 : Row w10 w8.heap.size 0 (fl ((List.range 16).map (bowOut n m dk dc0 dc1 dc2 sl lo xs i0 ys h0 ds0 ds1 (fun j => bs.getD j 0)))) := Row.congr r14 (splice_all ((fl_len (List.length_replicate)).trans (fl_len (over_done_len)).symm))
  refine WL.end ?_
  refine NE.code ?_
  refine CE.seq ?_
  refine CE.draw (fun _ => none) [0, 1, 2] [3, 4] [w2.heap.size] (by kernel_rfl) (by kernel_rfl) ?_
  have md1 : Mod [] w10 w10.drew := (Mod.refl _ _).drew
  generalize w10.drew = w11 at md1 ⊢
  refine DR.det (i := 0) rfl rfl (by kernel_rfl) (.free rfl) rfl rfl (fun wD mD => op_loadA (i := 0) (cs := [vS b'1 0 n c'1, vI (((bowAt n m dk dc0 dc1 dc2 sl lo xs i0 ys h0 ds0 ds1 (fun j => bs.getD j 0) 16).i : Nat) : Int), vS d'1 0 m c2'1, vI (((bowAt n m dk dc0 dc1 dc2 sl lo xs i0 ys h0 ds0 ds1 (fun j => bs.getD j 0) 16).h : Nat) : Int), vI dk, vF dc0, vF dc1, vF dc2, vF ((bowAt n m dk dc0 dc1 dc2 sl lo xs i0 ys h0 ds0 ds1 (fun j => bs.getD j 0) 16).s0), vF ((bowAt n m dk dc0 dc1 dc2 sl lo xs i0 ys h0 ds0 ds1 (fun j => bs.getD j 0) 16).s1), vF sl, vF lo]) rfl Try.isAgg36 Try.sizeOf36 ((((r12.ext m9).mod m10 (nC (lE (lL (lL r1.lt (lT (lT (lT (lT (lT (lT m2.size m3.size) m4.size) m5.size) m6.size) m7.size) m8.size)) lR)) nN)).ext md1).mod mD (nC (lE (lL (lL r1.lt m2.size) lR)) nN)).rng rfl rfl rfl) ?_
  refine DR.det (i := 1) rfl rfl (by kernel_rfl) (.free rfl) rfl rfl (fun wD mD => op_loadA (i := 0) (cs := fl ((List.range 16).map (bowOut n m dk dc0 dc1 dc2 sl lo xs i0 ys h0 ds0 ds1 (fun j => bs.getD j 0)))) rfl Try.isAgg82 Try.sizeOf82 ((r15.ext md1).mod mD (nC (lG (lL (lL r3.lt (lT (lT (lT (lT m4.size m5.size) m6.size) m7.size) m8.size)) lR)) nN)).rng rfl (fl_whole over_done_len) (fl_len over_done_len)) ?_
  refine DR.st1 (i := 2) rfl rfl (by kernel_rfl) (.free rfl) rfl ?_
  intro w12 m11
  refine Op1.mono (op_store (i := 0) (cs := [vS b'1 0 n c'1, vI (((bowAt n m dk dc0 dc1 dc2 sl lo xs i0 ys h0 ds0 ds1 (fun j => bs.getD j 0) 16).i : Nat) : Int), vS d'1 0 m c2'1, vI (((bowAt n m dk dc0 dc1 dc2 sl lo xs i0 ys h0 ds0 ds1 (fun j => bs.getD j 0) 16).h : Nat) : Int), vI dk, vF dc0, vF dc1, vF dc2, vF ((bowAt n m dk dc0 dc1 dc2 sl lo xs i0 ys h0 ds0 ds1 (fun j => bs.getD j 0) 16).s0), vF ((bowAt n m dk dc0 dc1 dc2 sl lo xs i0 ys h0 ds0 ds1 (fun j => bs.getD j 0) 16).s1), vF sl, vF lo]) rfl rfl rfl Try.sizeOf36 rfl (((((((((r3.ext m4).ext m5).ext m6).mod m7 (nC (lG (lL (lL r1.lt m2.size) lR)) nN)).mod m8 (nC (lG (lL (lL r1.lt m2.size) lR)) (nC (lE (lL (lL r3.lt (lT m4.size m5.size)) ge1)) (nC (lE (lL (lL r3.lt (lT m4.size m5.size)) ge2)) nN)))).ext m9).mod m10 (nC (lE (lL (lL r3.lt (lT (lT (lT (lT m4.size m5.size) m6.size) m7.size) m8.size)) lR)) nN)).ext md1).ext m11) rfl (lB rfl) rfl) ?_
  rintro _ w13 ⟨r16, m12, z8⟩
  have r17 : Row w13 w2.heap.size 0 [vS b'1 0 n c'1, vI (((bowAt n m dk dc0 dc1 dc2 sl lo xs i0 ys h0 ds0 ds1 (fun j => bs.getD j 0) 16).i : Nat) : Int), vS d'1 0 m c2'1, vI (((bowAt n m dk dc0 dc1 dc2 sl lo xs i0 ys h0 ds0 ds1 (fun j => bs.getD j 0) 16).h : Nat) : Int), vI dk, vF dc0, vF dc1, vF dc2, vF ((bowAt n m dk dc0 dc1 dc2 sl lo xs i0 ys h0 ds0 ds1 (fun j => bs.getD j 0) 16).s0), vF ((bowAt n m dk dc0 dc1 dc2 sl lo xs i0 ys h0 ds0 ds1 (fun j => bs.getD j 0) 16).s1), vF sl, vF lo] := Row.congr r16 rfl
  refine ⟨(((Mod.refl [w2.heap.size] w11).nt m11).then m12 ((aC (.inl (by simp)) aN))), ?_⟩
  refine DR.done rfl ?_
  intro w14 m13
  refine WO.op0 rfl (.free rfl) rfl (op_store (i := 0) (cs := fl ((List.range 16).map (bowOut n m dk dc0 dc1 dc2 sl lo xs i0 ys h0 ds0 ds1 (fun j => bs.getD j 0)))) rfl rfl rfl Try.sizeOf82 (fl_len over_done_len) ((((((((((r4.ext m5).ext m6).mod m7 (nC (lG (lL (lL r1.lt (lT m2.size m3.size)) lR)) nN)).mod m8 (nC (lG (lL (lL r1.lt (lT m2.size m3.size)) lR)) (nC (lE (lL (lL r4.lt m5.size) ge1)) (nC (lE (lL (lL r4.lt m5.size) ge2)) nN)))).ext m9).mod m10 (nC (lE (lL (lL r4.lt (lT (lT (lT m5.size m6.size) m7.size) m8.size)) lR)) nN)).ext md1).ext m11).mod m12 (nC (lG (lL r3.lt lR)) nN)).ext m13) rfl (by rw [fl_length, List.length_replicate]; decide) (fl_one _)) ?_
  rintro _ w15 ⟨r18, m14, z9⟩
  have r19 : Row w15 w3.heap.size 0 (fl ((List.range 16).map (bowOut n m dk dc0 dc1 dc2 sl lo xs i0 ys h0 ds0 ds1 (fun j => bs.getD j 0)))) := Row.congr r18 (splice_all ((fl_len (List.length_replicate)).trans (fl_len (over_done_len)).symm))
  refine WO.det (op_assign rfl) rfl (.free rfl) rfl rfl ?_
  refine WO.end ?_
  refine NE.code ?_
  refine CE.ret' ?_
  refine XE.leaveT Try.results53 (res_agg (cs := [vS b'1 0 n c'1, vI (((bowAt n m dk dc0 dc1 dc2 sl lo xs i0 ys h0 ds0 ds1 (fun j => bs.getD j 0) 16).i : Nat) : Int), vS d'1 0 m c2'1, vI (((bowAt n m dk dc0 dc1 dc2 sl lo xs i0 ys h0 ds0 ds1 (fun j => bs.getD j 0) 16).h : Nat) : Int), vI dk, vF dc0, vF dc1, vF dc2, vF ((bowAt n m dk dc0 dc1 dc2 sl lo xs i0 ys h0 ds0 ds1 (fun j => bs.getD j 0) 16).s0), vF ((bowAt n m dk dc0 dc1 dc2 sl lo xs i0 ys h0 ds0 ds1 (fun j => bs.getD j 0) 16).s1), vF sl, vF lo]) rfl Try.isAgg36 Try.sizeOf36 ((r17.ext m13).mod m14 (nC (lE (lL r3.lt lR)) nN)).rng rfl (res_agg (cs := fl ((List.range 16).map (bowOut n m dk dc0 dc1 dc2 sl lo xs i0 ys h0 ds0 ds1 (fun j => bs.getD j 0)))) rfl Try.isAgg82 Try.sizeOf82 r19.rng (fl_len over_done_len) (res_tmp rfl res_nil))) ?_
  refine ⟨b'1, c'1, d'1, c2'1, ?_, ?_, ?_, ?_, (Row.congr (((((((r10.ext m9).mod m10 (nC (lE (lL (lL r5.lt (lT m7.size m8.size)) lR)) nN)).ext md1).ext m11).mod m12 (nC (lG (lL (lL r3.lt (lT m4.size m5.size)) ge1)) nN)).ext m13).mod m14 (nC (lG (lL (lL r4.lt m5.size) ge1)) nN)) ?_), (Row.congr (((((((r11.ext m9).mod m10 (nC (lE (lL (lL r6.lt (lT m7.size m8.size)) lR)) nN)).ext md1).ext m11).mod m12 (nC (lG (lL (lL r3.lt (lT m4.size m5.size)) ge2)) nN)).ext m13).mod m14 (nC (lG (lL (lL r4.lt m5.size) ge2)) nN)) ?_), (lT (lT (lT (lT (lT m1.size m2.size) m3.size) m4.size) m5.size) ge1), (lT (lT (lT (lT (lT m1.size m2.size) m3.size) m4.size) m5.size) ge2), ne1, ((((((((((((((((Mod.refl [] w).nt m1).nt m2).nt m3).nt m4).nt m5).nt m6).then m7 ((aC (.inr lR) aN))).then m8 ((aC (.inr lR) (aC (.inr (lT (lT (lT (lT (lT m1.size m2.size) m3.size) m4.size) m5.size) ge1)) (aC (.inr (lT (lT (lT (lT (lT m1.size m2.size) m3.size) m4.size) m5.size) ge2)) aN))))).nt m9).then m10 ((aC (.inr (lT (lT (lT (lT (lT (lT (lT (lT m1.size m2.size) m3.size) m4.size) m5.size) m6.size) m7.size) m8.size) lR)) aN))).nt md1).nt m11).then m12 ((aC (.inr (lT (lT m1.size m2.size) lR)) aN))).nt m13).then m14 ((aC (.inr (lT (lT (lT m1.size m2.size) m3.size) lR)) aN)))⟩
  all_goals subst hze
  all_goals subst hoe
  all_goals first | assumption | (have e : i = 16 := (by omega); subst e; first | assumption | (rw [over_full _ List.length_replicate]; done) | rfl) | rfl | exact over_done_len

set_option maxRecDepth 100000 in
set_option maxHeartbeats 2000000 in
theorem c_iBlockBow_bad (n : Nat) (c : Nat) (b : Nat) (xs : List Nat) (m : Nat) (c2 : Nat) (d : Nat) (ys : List Nat) (j : Int) (jj : Int) (dk : Int) (dc0 : Nat) (dc1 : Nat) (dc2 : Nat) (ds0 : Nat) (ds1 : Nat) (sl : Nat) (lo : Nat) (bs : List Nat) (ln : xs.length = n) (lm : ys.length = m) (hn : n ≤ 1048576) (hm : m ≤ 1048576) (lds0 : ds0 < wid .f32) (lds1 : ds1 < wid .f32) (lb : bs.length = 16) (wb : W32 bs) (hv : vBow n j m jj xs ys dk dc0 dc1 dc2 ds0 ds1 sl lo = false) (w : World) (r : Rng w b 0 (fl xs)) (ry : Rng w d 0 (fl ys)) : Cl Try.prog 53 #[.agg #[vS b 0 n c, vI j, vS d 0 m c2, vI jj, vI dk, vF dc0, vF dc1, vF dc2, vF ds0, vF ds1, vF sl, vF lo], .agg (fl bs).toArray] w fun v w' => v = .tuple #[.agg #[.slice none 0 0, vI 0, .slice none 0 0, vI 0, vI 0, vF 0, vF 0, vF 0, vF 0, vF 0, vF 0, vF 0], .agg (fl (List.replicate 16 0)).toArray, vI 1] ∧ Mod [] w w' := by
  refine Cl.of Try.func53 Try.ntmps53 rfl rfl (ρ := [(0, .agg #[vS b 0 n c, vI j, vS d 0 m c2, vI jj, vI dk, vF dc0, vF dc1, vF dc2, vF ds0, vF ds1, vF sl, vF lo]), (1, .agg (fl bs).toArray)]) rfl ?_
  refine CE.seq ?_
  refine CE.region ?_
  refine WL.op (op_box (cs := [vS b 0 n c, vI j, vS d 0 m c2, vI jj, vI dk, vF dc0, vF dc1, vF dc2, vF ds0, vF ds1, vF sl, vF lo]) rfl rfl) rfl rfl (ltb rfl) ?_
  rintro _ w1 ⟨rfl, r1, m1, z1⟩
  refine WL.op (op_box (cs := fl bs) rfl rfl) rfl rfl (ltb rfl) ?_
  rintro _ w2 ⟨rfl, r2, m2, z2⟩
  refine WL.op (op_alloc (cs := [.slice none 0 0, vI 0, .slice none 0 0, vI 0, vI 0, vF 0, vF 0, vF 0, vF 0, vF 0, vF 0, vF 0]) Try.zeroValue36 rfl) rfl rfl (ltb rfl) ?_
  rintro _ w3 ⟨rfl, r3, m3, z3⟩
  refine WL.op (op_alloc (cs := fl (List.replicate 16 0)) Try.zeroValue82 rfl) rfl rfl (ltb rfl) ?_
  rintro _ w4 ⟨rfl, r4, m4, z4⟩
  refine WL.det (op_assign rfl) rfl rfl rfl ?_
  refine WL.end ?_
  refine NE.code ?_
  refine CE.seq ?_
  refine CE.seq ?_
  refine CE.region ?_
  refine WL.det (op_loadA (i := 0) (cs := [vS b 0 n c, vI j, vS d 0 m c2, vI jj, vI dk, vF dc0, vF dc1, vF dc2, vF ds0, vF ds1, vF sl, vF lo]) rfl Try.isAgg36 Try.sizeOf36 (((r1.ext m2).ext m3).ext m4).rng rfl rfl rfl) rfl rfl rfl ?_
  refine WL.call (oc_call (vs := [.agg #[vS b 0 n c, vI j, vS d 0 m c2, vI jj, vI dk, vF dc0, vF dc1, vF dc2, vF ds0, vF ds1, vF sl, vF lo]]) (cap := []) rfl rfl rfl Try.call61 (c_ValidBow n c b xs m c2 d ys j jj dk dc0 dc1 dc2 ds0 ds1 sl lo ln lm (by omega) (by omega) w4 ((((r.ext m1).ext m2).ext m3).ext m4) ((((ry.ext m1).ext m2).ext m3).ext m4))) rfl rfl (ltb rfl) ?_
  rintro _ w5 ⟨rfl, m5⟩
  refine WL.det (op_not rfl) rfl rfl rfl ?_
  refine WL.end ?_
  refine NE.code ?_
  refine CE.cond_t rfl (bnot_f hv) ?_
  refine CE.seq ?_
  refine CE.region ?_
  refine WL.det (op_build (qs := []) (cells := #[.slice none 0 0, vI 0, .slice none 0 0, vI 0, vI 0, vF 0, vF 0, vF 0, vF 0, vF 0, vF 0, vF 0]) rfl (by kernel_rfl)) rfl rfl rfl ?_
  refine WL.det (op_build (qs := []) (cells := #[vF 0, vF 0, vF 0, vF 0, vF 0, vF 0, vF 0, vF 0, vF 0, vF 0, vF 0, vF 0, vF 0, vF 0, vF 0, vF 0]) rfl (by kernel_rfl)) rfl rfl rfl ?_
  refine WL.op0 (op_store (i := 0) (cs := [.slice none 0 0, vI 0, .slice none 0 0, vI 0, vI 0, vF 0, vF 0, vF 0, vF 0, vF 0, vF 0, vF 0]) rfl rfl rfl Try.sizeOf36 rfl ((r3.ext m4).ext m5) rfl (lB rfl) rfl) rfl rfl ?_
  rintro _ w6 ⟨r5, m6, z5⟩
  have r6 : Row w6 w2.heap.size 0 [.slice none 0 0, vI 0, .slice none 0 0, vI 0, vI 0, vF 0, vF 0, vF 0, vF 0, vF 0, vF 0, vF 0] := Row.congr r5 rfl
  refine WL.op0 (op_store (i := 0) (cs := fl (List.replicate 16 0)) rfl rfl rfl Try.sizeOf82 (fl_len List.length_replicate) ((r4.ext m5).mod m6 (nC (lG (lL r3.lt lR)) nN)) rfl (by rw [fl_length, List.length_replicate]; decide) (fl_one _)) rfl rfl ?_
  rintro _ w7 ⟨r7, m7, z6⟩
  have r8 : Row w7 w3.heap.size 0 (fl (List.replicate 16 0)) := Row.congr r7 (splice_all ((fl_len (List.length_replicate)).trans (fl_len (List.length_replicate)).symm))
  refine WL.det (op_assign rfl) rfl rfl rfl ?_
  refine WL.end ?_
  refine NE.code ?_
  refine CE.ret' ?_
  refine XE.ret_then ?_
  refine XE.leaveT Try.results53 (res_agg (cs := [.slice none 0 0, vI 0, .slice none 0 0, vI 0, vI 0, vF 0, vF 0, vF 0, vF 0, vF 0, vF 0, vF 0]) rfl Try.isAgg36 Try.sizeOf36 (r6.mod m7 (nC (lE (lL r3.lt lR)) nN)).rng rfl (res_agg (cs := fl (List.replicate 16 0)) rfl Try.isAgg82 Try.sizeOf82 r8.rng (fl_len List.length_replicate) (res_tmp rfl res_nil))) ?_
  refine ⟨rfl, ((((((((Mod.refl [] w).nt m1).nt m2).nt m3).nt m4).nt m5).then m6 ((aC (.inr (lT (lT m1.size m2.size) lR)) aN))).then m7 ((aC (.inr (lT (lT (lT m1.size m2.size) m3.size) lR)) aN)))⟩

set_option maxRecDepth 100000 in
set_option maxHeartbeats 2000000 in
theorem c_sPlayBow (n : Nat) (c : Nat) (b : Nat) (xs : List Nat) (m : Nat) (c2 : Nat) (d : Nat) (ys : List Nat) (i0 : Nat) (h0 : Nat) (dk : Int) (dc0 : Nat) (dc1 : Nat) (dc2 : Nat) (ds0 : Nat) (ds1 : Nat) (sl : Nat) (lo : Nat) (l : Nat) (cl : Nat) (Al : Option Addr) (bl : Nat) (ol : Nat) (ss : List Nat) (z : BowSt) (ou : List Nat) (ln : xs.length = n) (lm : ys.length = m) (hi0 : i0 < n) (hh0 : h0 < m) (hn : n ≤ 1024) (hm : m ≤ 1024) (wx : W32 xs) (wy : W32 ys) (lds0 : ds0 < wid .f32) (lds1 : ds1 < wid .f32) (ls : ss.length = l) (hAl : 0 < l → Al = some ⟨bl, ol, none⟩) (wl : W32 ss) (hze : z = (bowAt n m dk dc0 dc1 dc2 sl lo xs i0 ys h0 ds0 ds1 (fun j => ss.getD j 0) l)) (hoe : ou = (outs (bowOut n m dk dc0 dc1 dc2 sl lo xs i0 ys h0 ds0 ds1 (fun j => ss.getD j 0)) l)) (hll : l ≤ 4096) (hv : vBow n ((i0 : Nat) : Int) m ((h0 : Nat) : Int) xs ys dk dc0 dc1 dc2 ds0 ds1 sl lo = true) (w : World) (r : Rng w b 0 (fl xs)) (ry : Rng w d 0 (fl ys)) (rl : Rng w bl ol (fl ss)) : Cl Try.prog 46 #[.agg #[vS b 0 n c, vI ((i0 : Nat) : Int), vS d 0 m c2, vI ((h0 : Nat) : Int), vI dk, vF dc0, vF dc1, vF dc2, vF ds0, vF ds1, vF sl, vF lo], .slice Al l cl] w fun v w' => ∃ (b' : Nat) (c' : Nat) (d' : Nat) (c2' : Nat) (e' : Nat) (c3' : Nat) (A' : Option Addr), v = .tuple #[.agg #[vS b' 0 n c', vI ((z.i : Nat) : Int), vS d' 0 m c2', vI ((z.h : Nat) : Int), vI dk, vF dc0, vF dc1, vF dc2, vF z.s0, vF z.s1, vF sl, vF lo], .slice A' l c3', vI 0] ∧ (z.xs.length = n) ∧ (z.ys.length = m) ∧ (ou.length = l) ∧ (0 < l → A' = some ⟨e', 0, none⟩) ∧ Row w' b' 0 (fl z.xs) ∧ Row w' d' 0 (fl z.ys) ∧ Row w' e' 0 (fl ou) ∧ w.heap.size ≤ b' ∧ w.heap.size ≤ d' ∧ w.heap.size ≤ e' ∧ b' ≠ d' ∧ b' ≠ e' ∧ d' ≠ e' ∧ Mod [] w w' := by
  refine Cl.of Try.func46 Try.ntmps46 rfl rfl (ρ := [(0, .agg #[vS b 0 n c, vI ((i0 : Nat) : Int), vS d 0 m c2, vI ((h0 : Nat) : Int), vI dk, vF dc0, vF dc1, vF dc2, vF ds0, vF ds1, vF sl, vF lo]), (1, .slice Al l cl)]) rfl ?_
  refine CE.seq ?_
  refine CE.region ?_
  refine WL.op (op_box (cs := [vS b 0 n c, vI ((i0 : Nat) : Int), vS d 0 m c2, vI ((h0 : Nat) : Int), vI dk, vF dc0, vF dc1, vF dc2, vF ds0, vF ds1, vF sl, vF lo]) rfl rfl) rfl rfl (ltb rfl) ?_
  rintro _ w1 ⟨rfl, r1, m1, z1⟩
  refine WL.op (op_alloc (cs := [.slice none 0 0, vI 0, .slice none 0 0, vI 0, vI 0, vF 0, vF 0, vF 0, vF 0, vF 0, vF 0, vF 0]) Try.zeroValue36 rfl) rfl rfl (ltb rfl) ?_
  rintro _ w2 ⟨rfl, r2, m2, z2⟩
  refine WL.det (op_assign rfl) rfl rfl rfl ?_
  refine WL.det (op_assign rfl) rfl rfl rfl ?_
  refine WL.end ?_
  refine NE.code ?_
  refine CE.seq ?_
  refine CE.seq ?_
  refine CE.region ?_
  refine WL.call (oc_call (vs := [vP w.heap.size 0]) (cap := []) rfl rfl rfl Try.call55 (c_l05Bow n c b xs m c2 d ys ((i0 : Nat) : Int) ((h0 : Nat) : Int) dk dc0 dc1 dc2 ds0 ds1 sl lo w.heap.size 0 [vS b 0 n c, vI ((i0 : Nat) : Int), vS d 0 m c2, vI ((h0 : Nat) : Int), vI dk, vF dc0, vF dc1, vF dc2, vF ds0, vF ds1, vF sl, vF lo] ln lm (by omega) (by omega) (lB rfl) w2 (Row.congr (r1.ext m2) rfl).rng ((r.ext m1).ext m2) ((ry.ext m1).ext m2))) rfl rfl (ltb rfl) ?_
  rintro _ w3 ⟨rfl, m3⟩
  refine WL.det (op_not rfl) rfl rfl rfl ?_
  refine WL.end ?_
  refine NE.code ?_
  refine CE.cond_f rfl (bnot_t hv) ?_
  refine CE.skip' ?_
  refine NE.code ?_
  refine CE.seq ?_
  refine CE.seq ?_
  refine CE.region ?_
  refine WL.det (op_move rfl) rfl rfl rfl ?_
  refine WL.det (op_len rfl Try.runUnderlying22) rfl rfl rfl ?_
  refine WL.det (op_gti rfl rfl) rfl rfl rfl ?_
  refine WL.end ?_
  refine NE.code ?_
  refine CE.cond_f rfl (decide_eq_false (by omega)) ?_
  refine CE.skip' ?_
  refine NE.code ?_
  refine CE.seq ?_
  refine CE.region ?_
  refine WL.call (oc_call (vs := [vP w.heap.size 0]) (cap := []) rfl rfl rfl Try.call57 (c_copyBow n c b xs m c2 d ys ((i0 : Nat) : Int) ((h0 : Nat) : Int) dk dc0 dc1 dc2 ds0 ds1 sl lo w.heap.size 0 [vS b 0 n c, vI ((i0 : Nat) : Int), vS d 0 m c2, vI ((h0 : Nat) : Int), vI dk, vF dc0, vF dc1, vF dc2, vF ds0, vF ds1, vF sl, vF lo] ln lm (by omega) (by omega) (by omega) (by omega) (lB rfl) w3 (Row.congr ((r1.ext m2).ext m3) rfl).rng (((r.ext m1).ext m2).ext m3) (((ry.ext m1).ext m2).ext m3))) rfl rfl (ltb rfl) ?_
  rintro _ w4 ⟨b'1, c'1, d'1, c2'1, rfl, r3, r4, ge1, ge2, ne1, m4⟩
  refine WL.op (op_alloc (cs := [.slice none 0 0, vI 0, .slice none 0 0, vI 0, vI 0, vF 0, vF 0, vF 0, vF 0, vF 0, vF 0, vF 0]) Try.zeroValue36 rfl) rfl rfl (ltb rfl) ?_
  rintro _ w5 ⟨rfl, r5, m5, z3⟩
  refine WL.op0 (op_store (i := 0) (cs := [vS b'1 0 n c'1, vI ((i0 : Nat) : Int), vS d'1 0 m c2'1, vI ((h0 : Nat) : Int), vI dk, vF dc0, vF dc1, vF dc2, vF ds0, vF ds1, vF sl, vF lo]) rfl rfl rfl Try.sizeOf36 rfl r5 rfl (lB rfl) rfl) rfl rfl ?_
  rintro _ w6 ⟨r6, m6, z4⟩
  have r7 : Row w6 w4.heap.size 0 [vS b'1 0 n c'1, vI ((i0 : Nat) : Int), vS d'1 0 m c2'1, vI ((h0 : Nat) : Int), vI dk, vF dc0, vF dc1, vF dc2, vF ds0, vF ds1, vF sl, vF lo] := Row.congr r6 rfl
  refine WL.end ?_
  refine NE.code ?_
  refine CE.seq ?_
  refine CE.region ?_
  refine WL.op (op_emptySl rfl Try.runUnderlying22 Try.sizeOf25) rfl rfl (ltb rfl) ?_
  rintro _ w7 ⟨rfl, r8, m7, z5⟩
  refine WL.det (op_assign rfl) rfl rfl rfl ?_
  refine WL.end ?_
  refine NE.code ?_
  refine CE.seq ?_
  refine CE.seq ?_
  refine CE.region ?_
  refine WL.det (op_assign rfl) rfl rfl rfl ?_
  refine WL.end ?_
  refine NE.code ?_
  refine CE.block ?_
  refine CE.loop (fun (z : Nat × Option Addr × Nat) => [(9, vI ((z.1 : Nat) : Int)), (8, .slice z.2.1 z.1 z.2.2), (1, .slice Al l cl), (4, vP w1.heap.size 0), (5, .slice none 0 0), (6, vI 0), (7, vP w4.heap.size 0)]) (fun (z : Nat × Option Addr × Nat) => fun W => (z.1 ≤ l) ∧ ((bowAt n m dk dc0 dc1 dc2 sl lo xs i0 ys h0 ds0 ds1 (fun j => ss.getD j 0) z.1).i < n) ∧ ((bowAt n m dk dc0 dc1 dc2 sl lo xs i0 ys h0 ds0 ds1 (fun j => ss.getD j 0) z.1).h < m) ∧ ((bowAt n m dk dc0 dc1 dc2 sl lo xs i0 ys h0 ds0 ds1 (fun j => ss.getD j 0) z.1).xs.length = n) ∧ ((bowAt n m dk dc0 dc1 dc2 sl lo xs i0 ys h0 ds0 ds1 (fun j => ss.getD j 0) z.1).ys.length = m) ∧ (W32 (bowAt n m dk dc0 dc1 dc2 sl lo xs i0 ys h0 ds0 ds1 (fun j => ss.getD j 0) z.1).xs) ∧ (W32 (bowAt n m dk dc0 dc1 dc2 sl lo xs i0 ys h0 ds0 ds1 (fun j => ss.getD j 0) z.1).ys) ∧ ((bowAt n m dk dc0 dc1 dc2 sl lo xs i0 ys h0 ds0 ds1 (fun j => ss.getD j 0) z.1).s0 < wid .f32) ∧ ((bowAt n m dk dc0 dc1 dc2 sl lo xs i0 ys h0 ds0 ds1 (fun j => ss.getD j 0) z.1).s1 < wid .f32) ∧ Row W w4.heap.size 0 [vS b'1 0 n c'1, vI (((bowAt n m dk dc0 dc1 dc2 sl lo xs i0 ys h0 ds0 ds1 (fun j => ss.getD j 0) z.1).i : Nat) : Int), vS d'1 0 m c2'1, vI (((bowAt n m dk dc0 dc1 dc2 sl lo xs i0 ys h0 ds0 ds1 (fun j => ss.getD j 0) z.1).h : Nat) : Int), vI dk, vF dc0, vF dc1, vF dc2, vF ((bowAt n m dk dc0 dc1 dc2 sl lo xs i0 ys h0 ds0 ds1 (fun j => ss.getD j 0) z.1).s0), vF ((bowAt n m dk dc0 dc1 dc2 sl lo xs i0 ys h0 ds0 ds1 (fun j => ss.getD j 0) z.1).s1), vF sl, vF lo] ∧ Row W b'1 0 (fl ((bowAt n m dk dc0 dc1 dc2 sl lo xs i0 ys h0 ds0 ds1 (fun j => ss.getD j 0) z.1).xs)) ∧ Row W d'1 0 (fl ((bowAt n m dk dc0 dc1 dc2 sl lo xs i0 ys h0 ds0 ds1 (fun j => ss.getD j 0) z.1).ys)) ∧ Own 25 1 w7.heap.size W z.2.1 z.1 z.2.2 (fl (outs (bowOut n m dk dc0 dc1 dc2 sl lo xs i0 ys h0 ds0 ds1 (fun j => ss.getD j 0)) z.1)) ∧ Mod [w4.heap.size, b'1, d'1] w7 W) (fun (z : Nat × Option Addr × Nat) => l - z.1) (0, (some ⟨w6.heap.size, 0, none⟩), 0) (⟨rfl, rfl, rfl, rfl, rfl, rfl, rfl, trivial⟩) ⟨(by omega), (by rw [bowAt_zero]; exact hi0), (by rw [bowAt_zero]; exact hh0), (by rw [bowAt_zero]; exact ln), (by rw [bowAt_zero]; exact lm), (by rw [bowAt_zero]; exact wx), (by rw [bowAt_zero]; exact wy), (by rw [bowAt_zero]; assumption), (by rw [bowAt_zero]; assumption), (Row.congr (r7.ext m7) (by rw [bowAt_zero])), (Row.congr (((r3.ext m5).mod m6 (nC (lE (lL r3.lt lR)) nN)).ext m7) (by rw [bowAt_zero])), (Row.congr (((r4.ext m5).mod m6 (nC (lE (lL r4.lt lR)) nN)).ext m7) (by rw [bowAt_zero])), (Own.congr Own.emp (outs_zero _)), Mod.refl _ _⟩ ?_
  rintro ⟨i, A, cc⟩ w8 ⟨hi, hz, hy, hl, hl2, hx, hx2, b0, b1, r9, r10, r11, ow1, m8⟩
  replace hi : i ≤ l := hi
  replace hz : (bowAt n m dk dc0 dc1 dc2 sl lo xs i0 ys h0 ds0 ds1 (fun j => ss.getD j 0) i).i < n := hz
  replace hy : (bowAt n m dk dc0 dc1 dc2 sl lo xs i0 ys h0 ds0 ds1 (fun j => ss.getD j 0) i).h < m := hy
  replace hl : (bowAt n m dk dc0 dc1 dc2 sl lo xs i0 ys h0 ds0 ds1 (fun j => ss.getD j 0) i).xs.length = n := hl
  replace hl2 : (bowAt n m dk dc0 dc1 dc2 sl lo xs i0 ys h0 ds0 ds1 (fun j => ss.getD j 0) i).ys.length = m := hl2
  replace hx : W32 (bowAt n m dk dc0 dc1 dc2 sl lo xs i0 ys h0 ds0 ds1 (fun j => ss.getD j 0) i).xs := hx
  replace hx2 : W32 (bowAt n m dk dc0 dc1 dc2 sl lo xs i0 ys h0 ds0 ds1 (fun j => ss.getD j 0) i).ys := hx2
  replace b0 : (bowAt n m dk dc0 dc1 dc2 sl lo xs i0 ys h0 ds0 ds1 (fun j => ss.getD j 0) i).s0 < wid .f32 := b0
  replace b1 : (bowAt n m dk dc0 dc1 dc2 sl lo xs i0 ys h0 ds0 ds1 (fun j => ss.getD j 0) i).s1 < wid .f32 := b1
  replace r9 : Row w8 w4.heap.size 0 [vS b'1 0 n c'1, vI (((bowAt n m dk dc0 dc1 dc2 sl lo xs i0 ys h0 ds0 ds1 (fun j => ss.getD j 0) i).i : Nat) : Int), vS d'1 0 m c2'1, vI (((bowAt n m dk dc0 dc1 dc2 sl lo xs i0 ys h0 ds0 ds1 (fun j => ss.getD j 0) i).h : Nat) : Int), vI dk, vF dc0, vF dc1, vF dc2, vF ((bowAt n m dk dc0 dc1 dc2 sl lo xs i0 ys h0 ds0 ds1 (fun j => ss.getD j 0) i).s0), vF ((bowAt n m dk dc0 dc1 dc2 sl lo xs i0 ys h0 ds0 ds1 (fun j => ss.getD j 0) i).s1), vF sl, vF lo] := r9
  replace r10 : Row w8 b'1 0 (fl ((bowAt n m dk dc0 dc1 dc2 sl lo xs i0 ys h0 ds0 ds1 (fun j => ss.getD j 0) i).xs)) := r10
  replace r11 : Row w8 d'1 0 (fl ((bowAt n m dk dc0 dc1 dc2 sl lo xs i0 ys h0 ds0 ds1 (fun j => ss.getD j 0) i).ys)) := r11
  replace ow1 : Own 25 1 w7.heap.size w8 A i cc (fl (outs (bowOut n m dk dc0 dc1 dc2 sl lo xs i0 ys h0 ds0 ds1 (fun j => ss.getD j 0)) i)) := ow1
  show CE _ _ _ _ [(9, vI ((i : Nat) : Int)), (8, .slice A i cc), (1, .slice Al l cl), (4, vP w1.heap.size 0), (5, .slice none 0 0), (6, vI 0), (7, vP w4.heap.size 0)] _
  refine CE.seq ?_
  refine CE.seq ?_
  refine CE.region ?_
  refine WL.det (op_move rfl) rfl rfl rfl ?_
  refine WL.det (op_move rfl) rfl rfl rfl ?_
  refine WL.det (op_len rfl Try.runUnderlying22) rfl rfl rfl ?_
  refine WL.det (op_lti rfl rfl) rfl rfl rfl ?_
  refine WL.end ?_
  refine NE.code ?_
  rcases Bool.eq_false_or_eq_true (decide (((i : Nat) : Int) < ((l : Nat) : Int))) with hb1 | hb1
  · have hp1 := hb1; try simp only [Bool.and_eq_true, Bool.or_eq_true, Bool.not_eq_true', Bool.not_eq_false', Bool.and_eq_false_iff, Bool.or_eq_false_iff, decide_eq_true_eq, decide_eq_false_iff_not, beq_iff_eq, bne_iff_ne, beq_eq_false_iff_ne, bne_eq_false_iff_eq, ne_eq, Bool.false_eq_true, not_false_eq_true, not_true_eq_false, vIn_t, vIn_f] at hp1
    refine CE.cond_t rfl hb1 ?_
    refine CE.skip' ?_
    refine NE.code ?_
    refine CE.seq ?_
    refine CE.block ?_
    refine CE.region ?_
    refine WL.det (op_move rfl) rfl rfl rfl ?_
    refine WL.det (op_move rfl) rfl rfl rfl ?_
    refine WL.det (op_move rfl) rfl rfl rfl ?_
    refine WL.det (op_indexSl (off' := ol + i) rfl (hAl (by omega)) rfl Try.runUnderlying22 Try.sizeOf25 (by omega) (by omega) (by omega)) rfl rfl rfl ?_
    refine WL.det (op_load1 (i := i) rfl Try.isAgg25 (Rng.youngS rl ((Rng.youngS rl (((((rl.ext m1).ext m2).ext m3).ext m4).ext m5) m6 (allge_cons (lT (lT (lT (lT m1.size m2.size) m3.size) m4.size) lR) allge_nil)).ext m7) m8 (allge_cons (lT (lT (lT (lT m1.size m2.size) m3.size) m4.size) lR) (allge_cons (lT (lT (lT m1.size m2.size) m3.size) ge1) (allge_cons (lT (lT (lT m1.size m2.size) m3.size) ge2) allge_nil)))) rfl (fl_get (by have eL : List.length ss = l := ls; omega))) rfl rfl rfl ?_
    refine WL.call (oc_call (vs := [vP w4.heap.size 0, vF (ss.getD i 0)]) (cap := []) rfl rfl rfl Try.call84 (c_l05Step n c'1 b'1 ((bowAt n m dk dc0 dc1 dc2 sl lo xs i0 ys h0 ds0 ds1 (fun j => ss.getD j 0) i).xs) m c2'1 d'1 ((bowAt n m dk dc0 dc1 dc2 sl lo xs i0 ys h0 ds0 ds1 (fun j => ss.getD j 0) i).ys) ((bowAt n m dk dc0 dc1 dc2 sl lo xs i0 ys h0 ds0 ds1 (fun j => ss.getD j 0) i).i) ((bowAt n m dk dc0 dc1 dc2 sl lo xs i0 ys h0 ds0 ds1 (fun j => ss.getD j 0) i).h) dk dc0 dc1 dc2 ((bowAt n m dk dc0 dc1 dc2 sl lo xs i0 ys h0 ds0 ds1 (fun j => ss.getD j 0) i).s0) ((bowAt n m dk dc0 dc1 dc2 sl lo xs i0 ys h0 ds0 ds1 (fun j => ss.getD j 0) i).s1) sl lo w4.heap.size 0 [vS b'1 0 n c'1, vI (((bowAt n m dk dc0 dc1 dc2 sl lo xs i0 ys h0 ds0 ds1 (fun j => ss.getD j 0) i).i : Nat) : Int), vS d'1 0 m c2'1, vI (((bowAt n m dk dc0 dc1 dc2 sl lo xs i0 ys h0 ds0 ds1 (fun j => ss.getD j 0) i).h : Nat) : Int), vI dk, vF dc0, vF dc1, vF dc2, vF ((bowAt n m dk dc0 dc1 dc2 sl lo xs i0 ys h0 ds0 ds1 (fun j => ss.getD j 0) i).s0), vF ((bowAt n m dk dc0 dc1 dc2 sl lo xs i0 ys h0 ds0 ds1 (fun j => ss.getD j 0) i).s1), vF sl, vF lo] (ss.getD i 0) (ss.getD i 0) hl hl2 (by omega) (by omega) (by omega) (by omega) b0 b1 (lB rfl) hx hx2 rfl (wl.get _) w8 (Row.congr r9 rfl) r10 r11 (lG (lL r3.lt lR)) (lG (lL r4.lt lR)) ne1)) rfl rfl (ltb rfl) ?_
    rintro _ w9 ⟨rfl, h1, h2, h3, h4, r12, r13, r14, m9⟩
    have r15 : Row w9 w4.heap.size 0 [vS b'1 0 n c'1, vI (((((bowAt n m dk dc0 dc1 dc2 sl lo xs i0 ys h0 ds0 ds1 (fun j => ss.getD j 0) i).i) + 1) % n : Nat) : Int), vS d'1 0 m c2'1, vI (((((bowAt n m dk dc0 dc1 dc2 sl lo xs i0 ys h0 ds0 ds1 (fun j => ss.getD j 0) i).h) + 1) % m : Nat) : Int), vI dk, vF dc0, vF dc1, vF dc2, vF (stepS dk dc0 dc1 dc2 ((bowAt n m dk dc0 dc1 dc2 sl lo xs i0 ys h0 ds0 ds1 (fun j => ss.getD j 0) i).s0) ((bowAt n m dk dc0 dc1 dc2 sl lo xs i0 ys h0 ds0 ds1 (fun j => ss.getD j 0) i).s1) (((bowAt n m dk dc0 dc1 dc2 sl lo xs i0 ys h0 ds0 ds1 (fun j => ss.getD j 0) i).ys).getD ((bowAt n m dk dc0 dc1 dc2 sl lo xs i0 ys h0 ds0 ds1 (fun j => ss.getD j 0) i).h) 0)), vF (stepT dk dc0 dc1 dc2 ((bowAt n m dk dc0 dc1 dc2 sl lo xs i0 ys h0 ds0 ds1 (fun j => ss.getD j 0) i).s0) ((bowAt n m dk dc0 dc1 dc2 sl lo xs i0 ys h0 ds0 ds1 (fun j => ss.getD j 0) i).s1) (((bowAt n m dk dc0 dc1 dc2 sl lo xs i0 ys h0 ds0 ds1 (fun j => ss.getD j 0) i).ys).getD ((bowAt n m dk dc0 dc1 dc2 sl lo xs i0 ys h0 ds0 ds1 (fun j => ss.getD j 0) i).h) 0)), vF sl, vF lo] := r12
    refine WL.op (op_buildSl (qs := [(0, vF (((bowAt n m dk dc0 dc1 dc2 sl lo xs i0 ys h0 ds0 ds1 (fun j => ss.getD j 0) i).ys).getD ((bowAt n m dk dc0 dc1 dc2 sl lo xs i0 ys h0 ds0 ds1 (fun j => ss.getD j 0) i).h) 0))]) (cells := #[vF (((bowAt n m dk dc0 dc1 dc2 sl lo xs i0 ys h0 ds0 ds1 (fun j => ss.getD j 0) i).ys).getD ((bowAt n m dk dc0 dc1 dc2 sl lo xs i0 ys h0 ds0 ds1 (fun j => ss.getD j 0) i).h) 0)]) rfl Try.runUnderlying22 Try.sizeOf25 Try.zeroValue25 (by decide) (by decide) (by kernel_rfl)) rfl rfl (ltb rfl) ?_
    rintro _ w10 ⟨rfl, r16, m10, z6⟩
    refine WL.op (op_app (i := Try.t25) (m := 1) (bt := 4) (news := [vF (((bowAt n m dk dc0 dc1 dc2 sl lo xs i0 ys h0 ds0 ds1 (fun j => ss.getD j 0) i).ys).getD ((bowAt n m dk dc0 dc1 dc2 sl lo xs i0 ys h0 ds0 ds1 (fun j => ss.getD j 0) i).h) 0)]) rfl rfl Try.underlying22 rfl rfl rfl rfl rfl (by decide) r16.rng rfl rfl ((ow1.mod m9 (altC (lL r5.lt (lT m6.size m7.size)) (altC (lL r3.lt (lT (lT m5.size m6.size) m7.size)) (altC (lL r4.lt (lT (lT m5.size m6.size) m7.size)) altN)))).ext m10) (lT (lT m8.size m9.size) m10.size) (by omega) (by decide)) rfl rfl (ltb rfl) ?_
    rintro _ w11 ⟨A1, c1, b1, rfl, ow2, ge3, m11⟩
    refine WL.det (op_assign rfl) rfl rfl rfl ?_
    refine WL.end ?_
    refine NE.blk ?_
    refine NE.code ?_
    refine CE.region ?_
    refine WL.det (op_move rfl) rfl rfl rfl ?_
    refine WL.det (op_add (r := ((i + 1 : Nat) : Int)) rfl rfl (w_i64 (by omega) (by omega))) rfl rfl rfl ?_
    refine WL.det (op_assign rfl) rfl rfl rfl ?_
    refine WL.end ?_
    exact NE.again ((i + 1), A1, c1) (⟨rfl, rfl, rfl, rfl, rfl, rfl, rfl, trivial⟩) ⟨(by omega), (by rw [bowAt_succ]; exact Nat.mod_lt _ (by omega)), (by rw [bowAt_succ]; exact Nat.mod_lt _ (by omega)), (by rw [bowAt_succ]; exact (List.length_set).trans hl), (by rw [bowAt_succ]; exact (List.length_set).trans hl2), (by rw [bowAt_succ]; exact W32.set hx (by assumption)), (by rw [bowAt_succ]; exact W32.set hx2 (by assumption)), (by rw [bowAt_succ]; assumption), (by rw [bowAt_succ]; assumption), (Row.congr ((r15.ext m10).mod m11 (nC (lE (lL (lL r5.lt (lT m6.size m7.size)) ge3)) nN)) (by rw [bowAt_succ]; rfl)), (Row.congr ((r13.ext m10).mod m11 (nC (lE (lL (lL r3.lt (lT (lT m5.size m6.size) m7.size)) ge3)) nN)) (by rw [bowAt_succ]; rfl)), (Row.congr ((r14.ext m10).mod m11 (nC (lE (lL (lL r4.lt (lT (lT m5.size m6.size) m7.size)) ge3)) nN)) (by rw [bowAt_succ]; rfl)), (Own.congr ow2 (outs_succ _ _)), (((m8.then m9 ((aC (.inl (by simp)) (aC (.inl (by simp)) (aC (.inl (by simp)) aN))))).nt m10).then m11 ((aC (.inr ge3) aN)))⟩ (by first | (dsimp only; omega) | omega)
  · have hp1 := hb1; try simp only [Bool.and_eq_true, Bool.or_eq_true, Bool.not_eq_true', Bool.not_eq_false', Bool.and_eq_false_iff, Bool.or_eq_false_iff, decide_eq_true_eq, decide_eq_false_iff_not, beq_iff_eq, bne_iff_ne, beq_eq_false_iff_ne, bne_eq_false_iff_eq, ne_eq, Bool.false_eq_true, not_false_eq_true, not_true_eq_false, vIn_t, vIn_f] at hp1
    refine CE.cond_f rfl hb1 ?_
    refine CE.exit' ?_
    refine XE.exit_then ?_
    refine XE.exit_then ?_
    refine XE.exit_here ?_
    refine NE.code ?_
    refine CE.seq ?_
    refine CE.region ?_
    refine WL.det (op_loadA (i := 0) (cs := [vS b'1 0 n c'1, vI (((bowAt n m dk dc0 dc1 dc2 sl lo xs i0 ys h0 ds0 ds1 (fun j => ss.getD j 0) i).i : Nat) : Int), vS d'1 0 m c2'1, vI (((bowAt n m dk dc0 dc1 dc2 sl lo xs i0 ys h0 ds0 ds1 (fun j => ss.getD j 0) i).h : Nat) : Int), vI dk, vF dc0, vF dc1, vF dc2, vF ((bowAt n m dk dc0 dc1 dc2 sl lo xs i0 ys h0 ds0 ds1 (fun j => ss.getD j 0) i).s0), vF ((bowAt n m dk dc0 dc1 dc2 sl lo xs i0 ys h0 ds0 ds1 (fun j => ss.getD j 0) i).s1), vF sl, vF lo]) rfl Try.isAgg36 Try.sizeOf36 r9.rng rfl rfl rfl) rfl rfl rfl ?_
    refine WL.det (op_move rfl) rfl rfl rfl ?_
    refine WL.op0 (op_store (i := 0) (cs := [vS b'1 0 n c'1, vI (((bowAt n m dk dc0 dc1 dc2 sl lo xs i0 ys h0 ds0 ds1 (fun j => ss.getD j 0) i).i : Nat) : Int), vS d'1 0 m c2'1, vI (((bowAt n m dk dc0 dc1 dc2 sl lo xs i0 ys h0 ds0 ds1 (fun j => ss.getD j 0) i).h : Nat) : Int), vI dk, vF dc0, vF dc1, vF dc2, vF ((bowAt n m dk dc0 dc1 dc2 sl lo xs i0 ys h0 ds0 ds1 (fun j => ss.getD j 0) i).s0), vF ((bowAt n m dk dc0 dc1 dc2 sl lo xs i0 ys h0 ds0 ds1 (fun j => ss.getD j 0) i).s1), vF sl, vF lo]) rfl rfl rfl Try.sizeOf36 rfl ((((((r2.ext m3).ext m4).ext m5).mod m6 (nC (lE (lL (lL r2.lt (lT m3.size m4.size)) lR)) nN)).ext m7).mod m8 (nC (lE (lL (lL r2.lt (lT m3.size m4.size)) lR)) (nC (lE (lL (lL r2.lt m3.size) ge1)) (nC (lE (lL (lL r2.lt m3.size) ge2)) nN)))) rfl (lB rfl) rfl) rfl rfl ?_
    rintro _ w12 ⟨r17, m12, z7⟩
    have r18 : Row w12 w1.heap.size 0 [vS b'1 0 n c'1, vI (((bowAt n m dk dc0 dc1 dc2 sl lo xs i0 ys h0 ds0 ds1 (fun j => ss.getD j 0) i).i : Nat) : Int), vS d'1 0 m c2'1, vI (((bowAt n m dk dc0 dc1 dc2 sl lo xs i0 ys h0 ds0 ds1 (fun j => ss.getD j 0) i).h : Nat) : Int), vI dk, vF dc0, vF dc1, vF dc2, vF ((bowAt n m dk dc0 dc1 dc2 sl lo xs i0 ys h0 ds0 ds1 (fun j => ss.getD j 0) i).s0), vF ((bowAt n m dk dc0 dc1 dc2 sl lo xs i0 ys h0 ds0 ds1 (fun j => ss.getD j 0) i).s1), vF sl, vF lo] := Row.congr r17 rfl
    refine WL.det (op_assign rfl) rfl rfl rfl ?_
    refine WL.det (op_assign rfl) rfl rfl rfl ?_
    refine WL.end ?_
    refine NE.code ?_
    refine CE.ret' ?_
    have ei : l = i := by omega
    subst ei
    obtain ⟨b2, hA1, r19, hq1⟩ := Own.out (ow1.mod m12 (altC (lL r2.lt (lT (lT (lT (lT m3.size m4.size) m5.size) m6.size) m7.size)) altN)) (r9.mod m12 (nC (lG (lL (lL r2.lt (lT m3.size m4.size)) lR)) nN))
    refine XE.leaveT Try.results46 (res_agg (cs := [vS b'1 0 n c'1, vI (((bowAt n m dk dc0 dc1 dc2 sl lo xs i0 ys h0 ds0 ds1 (fun j => ss.getD j 0) l).i : Nat) : Int), vS d'1 0 m c2'1, vI (((bowAt n m dk dc0 dc1 dc2 sl lo xs i0 ys h0 ds0 ds1 (fun j => ss.getD j 0) l).h : Nat) : Int), vI dk, vF dc0, vF dc1, vF dc2, vF ((bowAt n m dk dc0 dc1 dc2 sl lo xs i0 ys h0 ds0 ds1 (fun j => ss.getD j 0) l).s0), vF ((bowAt n m dk dc0 dc1 dc2 sl lo xs i0 ys h0 ds0 ds1 (fun j => ss.getD j 0) l).s1), vF sl, vF lo]) rfl Try.isAgg36 Try.sizeOf36 r18.rng rfl (res_tmp rfl (res_tmp rfl res_nil))) ?_
    refine ⟨b'1, c'1, d'1, c2'1, b2, cc, A, ?_, ?_, ?_, ?_, hA1, (Row.congr (r10.mod m12 (nC (lG (lL (lL r2.lt m3.size) ge1)) nN)) ?_), (Row.congr (r11.mod m12 (nC (lG (lL (lL r2.lt m3.size) ge2)) nN)) ?_), (Row.congr r19 ?_), (lT (lT (lT m1.size m2.size) m3.size) ge1), (lT (lT (lT m1.size m2.size) m3.size) ge2), (own_ge hq1 (lT (lT (lT (lT m1.size m2.size) m3.size) m4.size) lR) (lT (lT (lT (lT (lT (lT m1.size m2.size) m3.size) m4.size) m5.size) m6.size) m7.size)), ne1, (own_ne hq1 (lE (lL r3.lt lR)) (lL r3.lt (lT (lT m5.size m6.size) m7.size))), (own_ne hq1 (lE (lL r4.lt lR)) (lL r4.lt (lT (lT m5.size m6.size) m7.size))), ((((((((((Mod.refl [] w).nt m1).nt m2).nt m3).nt m4).nt m5).then m6 ((aC (.inr (lT (lT (lT (lT m1.size m2.size) m3.size) m4.size) lR)) aN))).nt m7).then m8 ((aC (.inr (lT (lT (lT (lT m1.size m2.size) m3.size) m4.size) lR)) (aC (.inr (lT (lT (lT m1.size m2.size) m3.size) ge1)) (aC (.inr (lT (lT (lT m1.size m2.size) m3.size) ge2)) aN))))).then m12 ((aC (.inr (lT m1.size lR)) aN)))⟩
    all_goals subst hze
    all_goals subst hoe
    all_goals first | assumption | exact outs_len _ _ | rfl

set_option maxRecDepth 100000 in
set_option maxHeartbeats 2000000 in
theorem c_sPlayBow_lim (n : Nat) (c : Nat) (b : Nat) (xs : List Nat) (m : Nat) (c2 : Nat) (d : Nat) (ys : List Nat) (i0 : Nat) (h0 : Nat) (dk : Int) (dc0 : Nat) (dc1 : Nat) (dc2 : Nat) (ds0 : Nat) (ds1 : Nat) (sl : Nat) (lo : Nat) (l : Nat) (cl : Nat) (Al : Option Addr) (bl : Nat) (ol : Nat) (ss : List Nat) (ln : xs.length = n) (lm : ys.length = m) (hi0 : i0 < n) (hh0 : h0 < m) (hn : n ≤ 1024) (hm : m ≤ 1024) (wx : W32 xs) (wy : W32 ys) (lds0 : ds0 < wid .f32) (lds1 : ds1 < wid .f32) (ls : ss.length = l) (hAl : 0 < l → Al = some ⟨bl, ol, none⟩) (wl : W32 ss) (hll : 4096 < l) (hl2 : l ≤ 1048576) (hv : vBow n ((i0 : Nat) : Int) m ((h0 : Nat) : Int) xs ys dk dc0 dc1 dc2 ds0 ds1 sl lo = true) (w : World) (r : Rng w b 0 (fl xs)) (ry : Rng w d 0 (fl ys)) (rl : Rng w bl ol (fl ss)) : Cl Try.prog 46 #[.agg #[vS b 0 n c, vI ((i0 : Nat) : Int), vS d 0 m c2, vI ((h0 : Nat) : Int), vI dk, vF dc0, vF dc1, vF dc2, vF ds0, vF ds1, vF sl, vF lo], .slice Al l cl] w fun v w' => ∃ (e' : Nat), v = .tuple #[.agg #[.slice none 0 0, vI 0, .slice none 0 0, vI 0, vI 0, vF 0, vF 0, vF 0, vF 0, vF 0, vF 0, vF 0], vS e' 0 0 0, vI 3] ∧ Row w' e' 0 [] ∧ w.heap.size ≤ e' ∧ Mod [] w w' := by
  refine Cl.of Try.func46 Try.ntmps46 rfl rfl (ρ := [(0, .agg #[vS b 0 n c, vI ((i0 : Nat) : Int), vS d 0 m c2, vI ((h0 : Nat) : Int), vI dk, vF dc0, vF dc1, vF dc2, vF ds0, vF ds1, vF sl, vF lo]), (1, .slice Al l cl)]) rfl ?_
  refine CE.seq ?_
  refine CE.region ?_
  refine WL.op (op_box (cs := [vS b 0 n c, vI ((i0 : Nat) : Int), vS d 0 m c2, vI ((h0 : Nat) : Int), vI dk, vF dc0, vF dc1, vF dc2, vF ds0, vF ds1, vF sl, vF lo]) rfl rfl) rfl rfl (ltb rfl) ?_
  rintro _ w1 ⟨rfl, r1, m1, z1⟩
  refine WL.op (op_alloc (cs := [.slice none 0 0, vI 0, .slice none 0 0, vI 0, vI 0, vF 0, vF 0, vF 0, vF 0, vF 0, vF 0, vF 0]) Try.zeroValue36 rfl) rfl rfl (ltb rfl) ?_
  rintro _ w2 ⟨rfl, r2, m2, z2⟩
  refine WL.det (op_assign rfl) rfl rfl rfl ?_
  refine WL.det (op_assign rfl) rfl rfl rfl ?_
  refine WL.end ?_
  refine NE.code ?_
  refine CE.seq ?_
  refine CE.seq ?_
  refine CE.region ?_
  refine WL.call (oc_call (vs := [vP w.heap.size 0]) (cap := []) rfl rfl rfl Try.call55 (c_l05Bow n c b xs m c2 d ys ((i0 : Nat) : Int) ((h0 : Nat) : Int) dk dc0 dc1 dc2 ds0 ds1 sl lo w.heap.size 0 [vS b 0 n c, vI ((i0 : Nat) : Int), vS d 0 m c2, vI ((h0 : Nat) : Int), vI dk, vF dc0, vF dc1, vF dc2, vF ds0, vF ds1, vF sl, vF lo] ln lm (by omega) (by omega) (lB rfl) w2 (Row.congr (r1.ext m2) rfl).rng ((r.ext m1).ext m2) ((ry.ext m1).ext m2))) rfl rfl (ltb rfl) ?_
  rintro _ w3 ⟨rfl, m3⟩
  refine WL.det (op_not rfl) rfl rfl rfl ?_
  refine WL.end ?_
  refine NE.code ?_
  refine CE.cond_f rfl (bnot_t hv) ?_
  refine CE.skip' ?_
  refine NE.code ?_
  refine CE.seq ?_
  refine CE.seq ?_
  refine CE.region ?_
  refine WL.det (op_move rfl) rfl rfl rfl ?_
  refine WL.det (op_len rfl Try.runUnderlying22) rfl rfl rfl ?_
  refine WL.det (op_gti rfl rfl) rfl rfl rfl ?_
  refine WL.end ?_
  refine NE.code ?_
  refine CE.cond_t rfl (decide_eq_true (by omega)) ?_
  refine CE.seq ?_
  refine CE.region ?_
  refine WL.det (op_build (qs := []) (cells := #[.slice none 0 0, vI 0, .slice none 0 0, vI 0, vI 0, vF 0, vF 0, vF 0, vF 0, vF 0, vF 0, vF 0]) rfl (by kernel_rfl)) rfl rfl rfl ?_
  refine WL.op (op_emptySl rfl Try.runUnderlying22 Try.sizeOf25) rfl rfl (ltb rfl) ?_
  rintro _ w4 ⟨rfl, r3, m4, z3⟩
  refine WL.op0 (op_store (i := 0) (cs := [.slice none 0 0, vI 0, .slice none 0 0, vI 0, vI 0, vF 0, vF 0, vF 0, vF 0, vF 0, vF 0, vF 0]) rfl rfl rfl Try.sizeOf36 rfl ((r2.ext m3).ext m4) rfl (lB rfl) rfl) rfl rfl ?_
  rintro _ w5 ⟨r4, m5, z4⟩
  have r5 : Row w5 w1.heap.size 0 [.slice none 0 0, vI 0, .slice none 0 0, vI 0, vI 0, vF 0, vF 0, vF 0, vF 0, vF 0, vF 0, vF 0] := Row.congr r4 rfl
  refine WL.det (op_assign rfl) rfl rfl rfl ?_
  refine WL.det (op_assign rfl) rfl rfl rfl ?_
  refine WL.end ?_
  refine NE.code ?_
  refine CE.ret' ?_
  refine XE.ret_then ?_
  refine XE.leaveT Try.results46 (res_agg (cs := [.slice none 0 0, vI 0, .slice none 0 0, vI 0, vI 0, vF 0, vF 0, vF 0, vF 0, vF 0, vF 0, vF 0]) rfl Try.isAgg36 Try.sizeOf36 r5.rng rfl (res_tmp rfl (res_tmp rfl res_nil))) ?_
  refine ⟨w3.heap.size, rfl, (r3.mod m5 (nC (lG (lL (lL r2.lt m3.size) lR)) nN)), (lT (lT (lT m1.size m2.size) m3.size) lR), ((((((Mod.refl [] w).nt m1).nt m2).nt m3).nt m4).then m5 ((aC (.inr (lT m1.size lR)) aN)))⟩

set_option maxRecDepth 100000 in
set_option maxHeartbeats 2000000 in
theorem c_sPlayBow_bad (n : Nat) (c : Nat) (b : Nat) (xs : List Nat) (m : Nat) (c2 : Nat) (d : Nat) (ys : List Nat) (j : Int) (jj : Int) (dk : Int) (dc0 : Nat) (dc1 : Nat) (dc2 : Nat) (ds0 : Nat) (ds1 : Nat) (sl : Nat) (lo : Nat) (l : Nat) (cl : Nat) (Al : Option Addr) (bl : Nat) (ol : Nat) (ss : List Nat) (ln : xs.length = n) (lm : ys.length = m) (hn : n ≤ 1048576) (hm : m ≤ 1048576) (lds0 : ds0 < wid .f32) (lds1 : ds1 < wid .f32) (ls : ss.length = l) (hAl : 0 < l → Al = some ⟨bl, ol, none⟩) (wl : W32 ss) (hl2 : l ≤ 1048576) (hv : vBow n j m jj xs ys dk dc0 dc1 dc2 ds0 ds1 sl lo = false) (w : World) (r : Rng w b 0 (fl xs)) (ry : Rng w d 0 (fl ys)) (rl : Rng w bl ol (fl ss)) : Cl Try.prog 46 #[.agg #[vS b 0 n c, vI j, vS d 0 m c2, vI jj, vI dk, vF dc0, vF dc1, vF dc2, vF ds0, vF ds1, vF sl, vF lo], .slice Al l cl] w fun v w' => ∃ (e' : Nat), v = .tuple #[.agg #[.slice none 0 0, vI 0, .slice none 0 0, vI 0, vI 0, vF 0, vF 0, vF 0, vF 0, vF 0, vF 0, vF 0], vS e' 0 0 0, vI 1] ∧ Row w' e' 0 [] ∧ w.heap.size ≤ e' ∧ Mod [] w w' := by
  refine Cl.of Try.func46 Try.ntmps46 rfl rfl (ρ := [(0, .agg #[vS b 0 n c, vI j, vS d 0 m c2, vI jj, vI dk, vF dc0, vF dc1, vF dc2, vF ds0, vF ds1, vF sl, vF lo]), (1, .slice Al l cl)]) rfl ?_
  refine CE.seq ?_
  refine CE.region ?_
  refine WL.op (op_box (cs := [vS b 0 n c, vI j, vS d 0 m c2, vI jj, vI dk, vF dc0, vF dc1, vF dc2, vF ds0, vF ds1, vF sl, vF lo]) rfl rfl) rfl rfl (ltb rfl) ?_
  rintro _ w1 ⟨rfl, r1, m1, z1⟩
  refine WL.op (op_alloc (cs := [.slice none 0 0, vI 0, .slice none 0 0, vI 0, vI 0, vF 0, vF 0, vF 0, vF 0, vF 0, vF 0, vF 0]) Try.zeroValue36 rfl) rfl rfl (ltb rfl) ?_
  rintro _ w2 ⟨rfl, r2, m2, z2⟩
  refine WL.det (op_assign rfl) rfl rfl rfl ?_
  refine WL.det (op_assign rfl) rfl rfl rfl ?_
  refine WL.end ?_
  refine NE.code ?_
  refine CE.seq ?_
  refine CE.seq ?_
  refine CE.region ?_
  refine WL.call (oc_call (vs := [vP w.heap.size 0]) (cap := []) rfl rfl rfl Try.call55 (c_l05Bow n c b xs m c2 d ys j jj dk dc0 dc1 dc2 ds0 ds1 sl lo w.heap.size 0 [vS b 0 n c, vI j, vS d 0 m c2, vI jj, vI dk, vF dc0, vF dc1, vF dc2, vF ds0, vF ds1, vF sl, vF lo] ln lm (by omega) (by omega) (lB rfl) w2 (Row.congr (r1.ext m2) rfl).rng ((r.ext m1).ext m2) ((ry.ext m1).ext m2))) rfl rfl (ltb rfl) ?_
  rintro _ w3 ⟨rfl, m3⟩
  refine WL.det (op_not rfl) rfl rfl rfl ?_
  refine WL.end ?_
  refine NE.code ?_
  refine CE.cond_t rfl (bnot_f hv) ?_
  refine CE.seq ?_
  refine CE.region ?_
  refine WL.det (op_build (qs := []) (cells := #[.slice none 0 0, vI 0, .slice none 0 0, vI 0, vI 0, vF 0, vF 0, vF 0, vF 0, vF 0, vF 0, vF 0]) rfl (by kernel_rfl)) rfl rfl rfl ?_
  refine WL.op (op_emptySl rfl Try.runUnderlying22 Try.sizeOf25) rfl rfl (ltb rfl) ?_
  rintro _ w4 ⟨rfl, r3, m4, z3⟩
  refine WL.op0 (op_store (i := 0) (cs := [.slice none 0 0, vI 0, .slice none 0 0, vI 0, vI 0, vF 0, vF 0, vF 0, vF 0, vF 0, vF 0, vF 0]) rfl rfl rfl Try.sizeOf36 rfl ((r2.ext m3).ext m4) rfl (lB rfl) rfl) rfl rfl ?_
  rintro _ w5 ⟨r4, m5, z4⟩
  have r5 : Row w5 w1.heap.size 0 [.slice none 0 0, vI 0, .slice none 0 0, vI 0, vI 0, vF 0, vF 0, vF 0, vF 0, vF 0, vF 0, vF 0] := Row.congr r4 rfl
  refine WL.det (op_assign rfl) rfl rfl rfl ?_
  refine WL.det (op_assign rfl) rfl rfl rfl ?_
  refine WL.end ?_
  refine NE.code ?_
  refine CE.ret' ?_
  refine XE.ret_then ?_
  refine XE.leaveT Try.results46 (res_agg (cs := [.slice none 0 0, vI 0, .slice none 0 0, vI 0, vI 0, vF 0, vF 0, vF 0, vF 0, vF 0, vF 0, vF 0]) rfl Try.isAgg36 Try.sizeOf36 r5.rng rfl (res_tmp rfl (res_tmp rfl res_nil))) ?_
  refine ⟨w3.heap.size, rfl, (r3.mod m5 (nC (lG (lL (lL r2.lt m3.size) lR)) nN)), (lT (lT (lT m1.size m2.size) m3.size) lR), ((((((Mod.refl [] w).nt m1).nt m2).nt m3).nt m4).then m5 ((aC (.inr (lT m1.size lR)) aN)))⟩

set_option maxRecDepth 100000 in
set_option maxHeartbeats 2000000 in
theorem c_iPlayBow (n : Nat) (c : Nat) (b : Nat) (xs : List Nat) (m : Nat) (c2 : Nat) (d : Nat) (ys : List Nat) (i0 : Nat) (h0 : Nat) (dk : Int) (dc0 : Nat) (dc1 : Nat) (dc2 : Nat) (ds0 : Nat) (ds1 : Nat) (sl : Nat) (lo : Nat) (l : Nat) (cl : Nat) (Al : Option Addr) (bl : Nat) (ol : Nat) (ss : List Nat) (z : BowSt) (ou : List Nat) (ln : xs.length = n) (lm : ys.length = m) (hi0 : i0 < n) (hh0 : h0 < m) (hn : n ≤ 1024) (hm : m ≤ 1024) (wx : W32 xs) (wy : W32 ys) (lds0 : ds0 < wid .f32) (lds1 : ds1 < wid .f32) (ls : ss.length = l) (hAl : 0 < l → Al = some ⟨bl, ol, none⟩) (wl : W32 ss) (hze : z = (bowAt n m dk dc0 dc1 dc2 sl lo xs i0 ys h0 ds0 ds1 (fun j => ss.getD j 0) l)) (hoe : ou = (outs (bowOut n m dk dc0 dc1 dc2 sl lo xs i0 ys h0 ds0 ds1 (fun j => ss.getD j 0)) l)) (hll : l ≤ 4096) (hv : vBow n ((i0 : Nat) : Int) m ((h0 : Nat) : Int) xs ys dk dc0 dc1 dc2 ds0 ds1 sl lo = true) (w : World) (r : Rng w b 0 (fl xs)) (ry : Rng w d 0 (fl ys)) (rl : Rng w bl ol (fl ss)) : Cl Try.prog 47 #[.agg #[vS b 0 n c, vI ((i0 : Nat) : Int), vS d 0 m c2, vI ((h0 : Nat) : Int), vI dk, vF dc0, vF dc1, vF dc2, vF ds0, vF ds1, vF sl, vF lo], .slice Al l cl] w fun v w' => ∃ (b' : Nat) (c' : Nat) (d' : Nat) (c2' : Nat) (e' : Nat) (c3' : Nat) (A' : Option Addr), v = .tuple #[.agg #[vS b' 0 n c', vI ((z.i : Nat) : Int), vS d' 0 m c2', vI ((z.h : Nat) : Int), vI dk, vF dc0, vF dc1, vF dc2, vF z.s0, vF z.s1, vF sl, vF lo], .slice A' l c3', vI 0] ∧ (z.xs.length = n) ∧ (z.ys.length = m) ∧ (ou.length = l) ∧ (0 < l → A' = some ⟨e', 0, none⟩) ∧ Row w' b' 0 (fl z.xs) ∧ Row w' d' 0 (fl z.ys) ∧ Row w' e' 0 (fl ou) ∧ w.heap.size ≤ b' ∧ w.heap.size ≤ d' ∧ w.heap.size ≤ e' ∧ b' ≠ d' ∧ b' ≠ e' ∧ d' ≠ e' ∧ Mod [] w w' := by
  refine Cl.of Try.func47 Try.ntmps47 rfl rfl (ρ := [(0, .agg #[vS b 0 n c, vI ((i0 : Nat) : Int), vS d 0 m c2, vI ((h0 : Nat) : Int), vI dk, vF dc0, vF dc1, vF dc2, vF ds0, vF ds1, vF sl, vF lo]), (1, .slice Al l cl)]) rfl ?_
  refine CE.seq ?_
  refine CE.region ?_
  refine WL.op (op_box (cs := [vS b 0 n c, vI ((i0 : Nat) : Int), vS d 0 m c2, vI ((h0 : Nat) : Int), vI dk, vF dc0, vF dc1, vF dc2, vF ds0, vF ds1, vF sl, vF lo]) rfl rfl) rfl rfl (ltb rfl) ?_
  rintro _ w1 ⟨rfl, r1, m1, z1⟩
  refine WL.op (op_alloc (cs := [.slice none 0 0, vI 0, .slice none 0 0, vI 0, vI 0, vF 0, vF 0, vF 0, vF 0, vF 0, vF 0, vF 0]) Try.zeroValue36 rfl) rfl rfl (ltb rfl) ?_
  rintro _ w2 ⟨rfl, r2, m2, z2⟩
  refine WL.det (op_assign rfl) rfl rfl rfl ?_
  refine WL.det (op_assign rfl) rfl rfl rfl ?_
  refine WL.end ?_
  refine NE.code ?_
  refine CE.seq ?_
  refine CE.block ?_
  refine CE.seq ?_
  refine CE.region ?_
  refine WL.det (op_loadA (i := 0) (cs := [vS b 0 n c, vI ((i0 : Nat) : Int), vS d 0 m c2, vI ((h0 : Nat) : Int), vI dk, vF dc0, vF dc1, vF dc2, vF ds0, vF ds1, vF sl, vF lo]) rfl Try.isAgg36 Try.sizeOf36 (r1.ext m2).rng rfl rfl rfl) rfl rfl rfl ?_
  refine WL.call (oc_call (vs := [.agg #[vS b 0 n c, vI ((i0 : Nat) : Int), vS d 0 m c2, vI ((h0 : Nat) : Int), vI dk, vF dc0, vF dc1, vF dc2, vF ds0, vF ds1, vF sl, vF lo]]) (cap := []) rfl rfl rfl Try.call61 (c_ValidBow n c b xs m c2 d ys ((i0 : Nat) : Int) ((h0 : Nat) : Int) dk dc0 dc1 dc2 ds0 ds1 sl lo ln lm (by omega) (by omega) w2 ((r.ext m1).ext m2) ((ry.ext m1).ext m2))) rfl rfl (ltb rfl) ?_
  rintro _ w3 ⟨rfl, m3⟩
  refine WL.det (op_not rfl) rfl rfl rfl ?_
  refine WL.det (op_assign rfl) rfl rfl rfl ?_
  refine WL.end ?_
  refine NE.code ?_
  refine CE.cond_f rfl (bnot_t hv) ?_
  refine CE.seq ?_
  refine CE.region ?_
  refine WL.det (op_move rfl) rfl rfl rfl ?_
  refine WL.det (op_len rfl Try.runUnderlying22) rfl rfl rfl ?_
  refine WL.det (op_gti rfl rfl) rfl rfl rfl ?_
  refine WL.det (op_assign rfl) rfl rfl rfl ?_
  refine WL.end ?_
  refine NE.code ?_
  refine CE.cond_f rfl (decide_eq_false (by omega)) ?_
  refine CE.skip' ?_
  refine NE.blk ?_
  refine NE.code ?_
  refine CE.seq ?_
  refine CE.region ?_
  refine WL.det (op_loadA (i := 0) (cs := [vS b 0 n c, vI ((i0 : Nat) : Int), vS d 0 m c2, vI ((h0 : Nat) : Int), vI dk, vF dc0, vF dc1, vF dc2, vF ds0, vF ds1, vF sl, vF lo]) rfl Try.isAgg36 Try.sizeOf36 ((r1.ext m2).ext m3).rng rfl rfl rfl) rfl rfl rfl ?_
  refine WL.call (oc_call (vs := [.agg #[vS b 0 n c, vI ((i0 : Nat) : Int), vS d 0 m c2, vI ((h0 : Nat) : Int), vI dk, vF dc0, vF dc1, vF dc2, vF ds0, vF ds1, vF sl, vF lo]]) (cap := []) rfl rfl rfl Try.call63 (c_cloneBow n c b xs m c2 d ys ((i0 : Nat) : Int) ((h0 : Nat) : Int) dk dc0 dc1 dc2 ds0 ds1 sl lo ln lm (by omega) (by omega) (by omega) (by omega) w3 (((r.ext m1).ext m2).ext m3) (((ry.ext m1).ext m2).ext m3))) rfl rfl (ltb rfl) ?_
  rintro _ w4 ⟨b'1, c'1, d'1, c2'1, rfl, r3, r4, ge1, ge2, ne1, m4⟩
  refine WL.op0 (op_store (i := 0) (cs := [vS b'1 0 n c'1, vI ((i0 : Nat) : Int), vS d'1 0 m c2'1, vI ((h0 : Nat) : Int), vI dk, vF dc0, vF dc1, vF dc2, vF ds0, vF ds1, vF sl, vF lo]) rfl rfl rfl Try.sizeOf36 rfl (((r1.ext m2).ext m3).ext m4) rfl (lB rfl) rfl) rfl rfl ?_
  rintro _ w5 ⟨r5, m5, z3⟩
  have r6 : Row w5 w.heap.size 0 [vS b'1 0 n c'1, vI ((i0 : Nat) : Int), vS d'1 0 m c2'1, vI ((h0 : Nat) : Int), vI dk, vF dc0, vF dc1, vF dc2, vF ds0, vF ds1, vF sl, vF lo] := Row.congr r5 rfl
  refine WL.end ?_
  refine NE.code ?_
  refine CE.seq ?_
  refine CE.region ?_
  refine WL.det (op_assign rfl) rfl rfl rfl ?_
  refine WL.end ?_
  refine NE.code ?_
  refine CE.seq ?_
  refine CE.seq ?_
  refine CE.region ?_
  refine WL.det (op_move rfl) rfl rfl rfl ?_
  refine WL.det (op_len rfl Try.runUnderlying22) rfl rfl rfl ?_
  refine WL.det (op_move rfl) rfl rfl rfl ?_
  refine WL.end ?_
  refine NE.code ?_
  refine CE.block ?_
  refine CE.loop (fun (z : Nat × Option Addr × Nat) => [(24, vI ((z.1 : Nat) : Int)), (7, .slice z.2.1 z.1 z.2.2), (2, vP w.heap.size 0), (4, vP w1.heap.size 0), (5, .slice none 0 0), (6, vI 0), (22, .slice Al l cl), (23, vI ((l : Nat) : Int))]) (fun (z : Nat × Option Addr × Nat) => fun W => (z.1 ≤ l) ∧ ((bowAt n m dk dc0 dc1 dc2 sl lo xs i0 ys h0 ds0 ds1 (fun j => ss.getD j 0) z.1).i < n) ∧ ((bowAt n m dk dc0 dc1 dc2 sl lo xs i0 ys h0 ds0 ds1 (fun j => ss.getD j 0) z.1).h < m) ∧ ((bowAt n m dk dc0 dc1 dc2 sl lo xs i0 ys h0 ds0 ds1 (fun j => ss.getD j 0) z.1).xs.length = n) ∧ ((bowAt n m dk dc0 dc1 dc2 sl lo xs i0 ys h0 ds0 ds1 (fun j => ss.getD j 0) z.1).ys.length = m) ∧ (W32 (bowAt n m dk dc0 dc1 dc2 sl lo xs i0 ys h0 ds0 ds1 (fun j => ss.getD j 0) z.1).xs) ∧ (W32 (bowAt n m dk dc0 dc1 dc2 sl lo xs i0 ys h0 ds0 ds1 (fun j => ss.getD j 0) z.1).ys) ∧ ((bowAt n m dk dc0 dc1 dc2 sl lo xs i0 ys h0 ds0 ds1 (fun j => ss.getD j 0) z.1).s0 < wid .f32) ∧ ((bowAt n m dk dc0 dc1 dc2 sl lo xs i0 ys h0 ds0 ds1 (fun j => ss.getD j 0) z.1).s1 < wid .f32) ∧ Row W w.heap.size 0 [vS b'1 0 n c'1, vI (((bowAt n m dk dc0 dc1 dc2 sl lo xs i0 ys h0 ds0 ds1 (fun j => ss.getD j 0) z.1).i : Nat) : Int), vS d'1 0 m c2'1, vI (((bowAt n m dk dc0 dc1 dc2 sl lo xs i0 ys h0 ds0 ds1 (fun j => ss.getD j 0) z.1).h : Nat) : Int), vI dk, vF dc0, vF dc1, vF dc2, vF ((bowAt n m dk dc0 dc1 dc2 sl lo xs i0 ys h0 ds0 ds1 (fun j => ss.getD j 0) z.1).s0), vF ((bowAt n m dk dc0 dc1 dc2 sl lo xs i0 ys h0 ds0 ds1 (fun j => ss.getD j 0) z.1).s1), vF sl, vF lo] ∧ Row W b'1 0 (fl ((bowAt n m dk dc0 dc1 dc2 sl lo xs i0 ys h0 ds0 ds1 (fun j => ss.getD j 0) z.1).xs)) ∧ Row W d'1 0 (fl ((bowAt n m dk dc0 dc1 dc2 sl lo xs i0 ys h0 ds0 ds1 (fun j => ss.getD j 0) z.1).ys)) ∧ Own 25 1 w5.heap.size W z.2.1 z.1 z.2.2 (fl (outs (bowOut n m dk dc0 dc1 dc2 sl lo xs i0 ys h0 ds0 ds1 (fun j => ss.getD j 0)) z.1)) ∧ Mod [w.heap.size, b'1, d'1] w5 W) (fun (z : Nat × Option Addr × Nat) => l - z.1) (0, none, 0) (⟨rfl, rfl, rfl, rfl, rfl, rfl, rfl, rfl, trivial⟩) ⟨(by omega), (by rw [bowAt_zero]; exact hi0), (by rw [bowAt_zero]; exact hh0), (by rw [bowAt_zero]; exact ln), (by rw [bowAt_zero]; exact lm), (by rw [bowAt_zero]; exact wx), (by rw [bowAt_zero]; exact wy), (by rw [bowAt_zero]; assumption), (by rw [bowAt_zero]; assumption), (Row.congr r6 (by rw [bowAt_zero])), (Row.congr (r3.mod m5 (nC (lG (lL (lL r1.lt (lT m2.size m3.size)) ge1)) nN)) (by rw [bowAt_zero])), (Row.congr (r4.mod m5 (nC (lG (lL (lL r1.lt (lT m2.size m3.size)) ge2)) nN)) (by rw [bowAt_zero])), (Own.congr Own.nil (outs_zero _)), Mod.refl _ _⟩ ?_
  rintro ⟨i, A, cc⟩ w6 ⟨hi, hz, hy, hl, hl2, hx, hx2, b0, b1, r7, r8, r9, ow1, m6⟩
  replace hi : i ≤ l := hi
  replace hz : (bowAt n m dk dc0 dc1 dc2 sl lo xs i0 ys h0 ds0 ds1 (fun j => ss.getD j 0) i).i < n := hz
  replace hy : (bowAt n m dk dc0 dc1 dc2 sl lo xs i0 ys h0 ds0 ds1 (fun j => ss.getD j 0) i).h < m := hy
  replace hl : (bowAt n m dk dc0 dc1 dc2 sl lo xs i0 ys h0 ds0 ds1 (fun j => ss.getD j 0) i).xs.length = n := hl
  replace hl2 : (bowAt n m dk dc0 dc1 dc2 sl lo xs i0 ys h0 ds0 ds1 (fun j => ss.getD j 0) i).ys.length = m := hl2
  replace hx : W32 (bowAt n m dk dc0 dc1 dc2 sl lo xs i0 ys h0 ds0 ds1 (fun j => ss.getD j 0) i).xs := hx
  replace hx2 : W32 (bowAt n m dk dc0 dc1 dc2 sl lo xs i0 ys h0 ds0 ds1 (fun j => ss.getD j 0) i).ys := hx2
  replace b0 : (bowAt n m dk dc0 dc1 dc2 sl lo xs i0 ys h0 ds0 ds1 (fun j => ss.getD j 0) i).s0 < wid .f32 := b0
  replace b1 : (bowAt n m dk dc0 dc1 dc2 sl lo xs i0 ys h0 ds0 ds1 (fun j => ss.getD j 0) i).s1 < wid .f32 := b1
  replace r7 : Row w6 w.heap.size 0 [vS b'1 0 n c'1, vI (((bowAt n m dk dc0 dc1 dc2 sl lo xs i0 ys h0 ds0 ds1 (fun j => ss.getD j 0) i).i : Nat) : Int), vS d'1 0 m c2'1, vI (((bowAt n m dk dc0 dc1 dc2 sl lo xs i0 ys h0 ds0 ds1 (fun j => ss.getD j 0) i).h : Nat) : Int), vI dk, vF dc0, vF dc1, vF dc2, vF ((bowAt n m dk dc0 dc1 dc2 sl lo xs i0 ys h0 ds0 ds1 (fun j => ss.getD j 0) i).s0), vF ((bowAt n m dk dc0 dc1 dc2 sl lo xs i0 ys h0 ds0 ds1 (fun j => ss.getD j 0) i).s1), vF sl, vF lo] := r7
  replace r8 : Row w6 b'1 0 (fl ((bowAt n m dk dc0 dc1 dc2 sl lo xs i0 ys h0 ds0 ds1 (fun j => ss.getD j 0) i).xs)) := r8
  replace r9 : Row w6 d'1 0 (fl ((bowAt n m dk dc0 dc1 dc2 sl lo xs i0 ys h0 ds0 ds1 (fun j => ss.getD j 0) i).ys)) := r9
  replace ow1 : Own 25 1 w5.heap.size w6 A i cc (fl (outs (bowOut n m dk dc0 dc1 dc2 sl lo xs i0 ys h0 ds0 ds1 (fun j => ss.getD j 0)) i)) := ow1
  show CE _ _ _ _ [(24, vI ((i : Nat) : Int)), (7, .slice A i cc), (2, vP w.heap.size 0), (4, vP w1.heap.size 0), (5, .slice none 0 0), (6, vI 0), (22, .slice Al l cl), (23, vI ((l : Nat) : Int))] _
  refine CE.seq ?_
  refine CE.region ?_
  refine WL.det (op_lti rfl rfl) rfl rfl rfl ?_
  refine WL.end ?_
  refine NE.code ?_
  refine CE.seq ?_
  rcases Bool.eq_false_or_eq_true (decide (((i : Nat) : Int) < ((l : Nat) : Int))) with hb1 | hb1
  · have hp1 := hb1; try simp only [Bool.and_eq_true, Bool.or_eq_true, Bool.not_eq_true', Bool.not_eq_false', Bool.and_eq_false_iff, Bool.or_eq_false_iff, decide_eq_true_eq, decide_eq_false_iff_not, beq_iff_eq, bne_iff_ne, beq_eq_false_iff_ne, bne_eq_false_iff_eq, ne_eq, Bool.false_eq_true, not_false_eq_true, not_true_eq_false, vIn_t, vIn_f] at hp1
    refine CE.cond_t rfl hb1 ?_
    refine CE.skip' ?_
    refine NE.code ?_
    refine CE.seq ?_
    refine CE.block ?_
    refine CE.seq ?_
    refine CE.region ?_
    refine WL.det (op_indexSl (off' := ol + i) rfl (hAl (by omega)) rfl Try.runUnderlying22 Try.sizeOf25 (by omega) (by omega) (by omega)) rfl rfl rfl ?_
    refine WL.det (op_load1 (i := i) rfl Try.isAgg25 (Rng.youngS rl (Rng.youngS rl ((((rl.ext m1).ext m2).ext m3).ext m4) m5 (allge_cons lR allge_nil)) m6 (allge_cons lR (allge_cons (lT (lT (lT m1.size m2.size) m3.size) ge1) (allge_cons (lT (lT (lT m1.size m2.size) m3.size) ge2) allge_nil)))) rfl (fl_get (by have eL : List.length ss = l := ls; omega))) rfl rfl rfl ?_
    refine WL.det (op_assign rfl) rfl rfl rfl ?_
    refine WL.end ?_
    refine NE.code ?_
    refine CE.region ?_
    refine WL.det (op_move rfl) rfl rfl rfl ?_
    refine WL.det (op_move rfl) rfl rfl rfl ?_
    refine WL.call (oc_call (vs := [vP w.heap.size 0, vF (ss.getD i 0)]) (cap := []) rfl rfl rfl Try.call85 (c_bowStep n c'1 b'1 ((bowAt n m dk dc0 dc1 dc2 sl lo xs i0 ys h0 ds0 ds1 (fun j => ss.getD j 0) i).xs) m c2'1 d'1 ((bowAt n m dk dc0 dc1 dc2 sl lo xs i0 ys h0 ds0 ds1 (fun j => ss.getD j 0) i).ys) ((bowAt n m dk dc0 dc1 dc2 sl lo xs i0 ys h0 ds0 ds1 (fun j => ss.getD j 0) i).i) ((bowAt n m dk dc0 dc1 dc2 sl lo xs i0 ys h0 ds0 ds1 (fun j => ss.getD j 0) i).h) dk dc0 dc1 dc2 ((bowAt n m dk dc0 dc1 dc2 sl lo xs i0 ys h0 ds0 ds1 (fun j => ss.getD j 0) i).s0) ((bowAt n m dk dc0 dc1 dc2 sl lo xs i0 ys h0 ds0 ds1 (fun j => ss.getD j 0) i).s1) sl lo w.heap.size 0 [vS b'1 0 n c'1, vI (((bowAt n m dk dc0 dc1 dc2 sl lo xs i0 ys h0 ds0 ds1 (fun j => ss.getD j 0) i).i : Nat) : Int), vS d'1 0 m c2'1, vI (((bowAt n m dk dc0 dc1 dc2 sl lo xs i0 ys h0 ds0 ds1 (fun j => ss.getD j 0) i).h : Nat) : Int), vI dk, vF dc0, vF dc1, vF dc2, vF ((bowAt n m dk dc0 dc1 dc2 sl lo xs i0 ys h0 ds0 ds1 (fun j => ss.getD j 0) i).s0), vF ((bowAt n m dk dc0 dc1 dc2 sl lo xs i0 ys h0 ds0 ds1 (fun j => ss.getD j 0) i).s1), vF sl, vF lo] (ss.getD i 0) (ss.getD i 0) hl hl2 (by omega) (by omega) (by omega) (by omega) b0 b1 (lB rfl) hx hx2 rfl (wl.get _) w6 (Row.congr r7 rfl) r8 r9 (lE (lL (lL r1.lt (lT m2.size m3.size)) ge1)) (lE (lL (lL r1.lt (lT m2.size m3.size)) ge2)) ne1)) rfl rfl (ltb rfl) ?_
    rintro _ w7 ⟨rfl, h1, h2, h3, h4, r10, r11, r12, m7⟩
    have r13 : Row w7 w.heap.size 0 [vS b'1 0 n c'1, vI (((((bowAt n m dk dc0 dc1 dc2 sl lo xs i0 ys h0 ds0 ds1 (fun j => ss.getD j 0) i).i) + 1) % n : Nat) : Int), vS d'1 0 m c2'1, vI (((((bowAt n m dk dc0 dc1 dc2 sl lo xs i0 ys h0 ds0 ds1 (fun j => ss.getD j 0) i).h) + 1) % m : Nat) : Int), vI dk, vF dc0, vF dc1, vF dc2, vF (stepS dk dc0 dc1 dc2 ((bowAt n m dk dc0 dc1 dc2 sl lo xs i0 ys h0 ds0 ds1 (fun j => ss.getD j 0) i).s0) ((bowAt n m dk dc0 dc1 dc2 sl lo xs i0 ys h0 ds0 ds1 (fun j => ss.getD j 0) i).s1) (((bowAt n m dk dc0 dc1 dc2 sl lo xs i0 ys h0 ds0 ds1 (fun j => ss.getD j 0) i).ys).getD ((bowAt n m dk dc0 dc1 dc2 sl lo xs i0 ys h0 ds0 ds1 (fun j => ss.getD j 0) i).h) 0)), vF (stepT dk dc0 dc1 dc2 ((bowAt n m dk dc0 dc1 dc2 sl lo xs i0 ys h0 ds0 ds1 (fun j => ss.getD j 0) i).s0) ((bowAt n m dk dc0 dc1 dc2 sl lo xs i0 ys h0 ds0 ds1 (fun j => ss.getD j 0) i).s1) (((bowAt n m dk dc0 dc1 dc2 sl lo xs i0 ys h0 ds0 ds1 (fun j => ss.getD j 0) i).ys).getD ((bowAt n m dk dc0 dc1 dc2 sl lo xs i0 ys h0 ds0 ds1 (fun j => ss.getD j 0) i).h) 0)), vF sl, vF lo] := r10
    refine WL.op (op_buildSl (qs := [(0, vF (((bowAt n m dk dc0 dc1 dc2 sl lo xs i0 ys h0 ds0 ds1 (fun j => ss.getD j 0) i).ys).getD ((bowAt n m dk dc0 dc1 dc2 sl lo xs i0 ys h0 ds0 ds1 (fun j => ss.getD j 0) i).h) 0))]) (cells := #[vF (((bowAt n m dk dc0 dc1 dc2 sl lo xs i0 ys h0 ds0 ds1 (fun j => ss.getD j 0) i).ys).getD ((bowAt n m dk dc0 dc1 dc2 sl lo xs i0 ys h0 ds0 ds1 (fun j => ss.getD j 0) i).h) 0)]) rfl Try.runUnderlying22 Try.sizeOf25 Try.zeroValue25 (by decide) (by decide) (by kernel_rfl)) rfl rfl (ltb rfl) ?_
    rintro _ w8 ⟨rfl, r14, m8, z4⟩
    refine WL.op (op_app (i := Try.t25) (m := 1) (bt := 4) (news := [vF (((bowAt n m dk dc0 dc1 dc2 sl lo xs i0 ys h0 ds0 ds1 (fun j => ss.getD j 0) i).ys).getD ((bowAt n m dk dc0 dc1 dc2 sl lo xs i0 ys h0 ds0 ds1 (fun j => ss.getD j 0) i).h) 0)]) rfl rfl Try.underlying22 rfl rfl rfl rfl rfl (by decide) r14.rng rfl rfl ((ow1.mod m7 (altC (lL r1.lt (lT (lT (lT m2.size m3.size) m4.size) m5.size)) (altC (lL r3.lt m5.size) (altC (lL r4.lt m5.size) altN)))).ext m8) (lT (lT m6.size m7.size) m8.size) (by omega) (by decide)) rfl rfl (ltb rfl) ?_
    rintro _ w9 ⟨A1, c1, b1, rfl, ow2, ge3, m9⟩
    refine WL.det (op_assign rfl) rfl rfl rfl ?_
    refine WL.end ?_
    refine NE.blk ?_
    refine NE.code ?_
    refine CE.region ?_
    refine WL.det (op_add (r := ((i + 1 : Nat) : Int)) rfl rfl (w_i64 (by omega) (by omega))) rfl rfl rfl ?_
    refine WL.det (op_move rfl) rfl rfl rfl ?_
    refine WL.end ?_
    exact NE.again ((i + 1), A1, c1) (⟨rfl, rfl, rfl, rfl, rfl, rfl, rfl, rfl, trivial⟩) ⟨(by omega), (by rw [bowAt_succ]; exact Nat.mod_lt _ (by omega)), (by rw [bowAt_succ]; exact Nat.mod_lt _ (by omega)), (by rw [bowAt_succ]; exact (List.length_set).trans hl), (by rw [bowAt_succ]; exact (List.length_set).trans hl2), (by rw [bowAt_succ]; exact W32.set hx (by assumption)), (by rw [bowAt_succ]; exact W32.set hx2 (by assumption)), (by rw [bowAt_succ]; assumption), (by rw [bowAt_succ]; assumption), (Row.congr ((r13.ext m8).mod m9 (nC (lE (lL (lL r1.lt (lT (lT (lT m2.size m3.size) m4.size) m5.size)) ge3)) nN)) (by rw [bowAt_succ]; rfl)), (Row.congr ((r11.ext m8).mod m9 (nC (lE (lL (lL r3.lt m5.size) ge3)) nN)) (by rw [bowAt_succ]; rfl)), (Row.congr ((r12.ext m8).mod m9 (nC (lE (lL (lL r4.lt m5.size) ge3)) nN)) (by rw [bowAt_succ]; rfl)), (Own.congr ow2 (outs_succ _ _)), (((m6.then m7 ((aC (.inl (by simp)) (aC (.inl (by simp)) (aC (.inl (by simp)) aN))))).nt m8).then m9 ((aC (.inr ge3) aN)))⟩ (by first | (dsimp only; omega) | omega)
  · have hp1 := hb1; try simp only [Bool.and_eq_true, Bool.or_eq_true, Bool.not_eq_true', Bool.not_eq_false', Bool.and_eq_false_iff, Bool.or_eq_false_iff, decide_eq_true_eq, decide_eq_false_iff_not, beq_iff_eq, bne_iff_ne, beq_eq_false_iff_ne, bne_eq_false_iff_eq, ne_eq, Bool.false_eq_true, not_false_eq_true, not_true_eq_false, vIn_t, vIn_f] at hp1
    refine CE.cond_f rfl hb1 ?_
    refine CE.exit' ?_
    refine XE.exit_then ?_
    refine XE.exit_then ?_
    refine XE.exit_here ?_
    refine NE.code ?_
    refine CE.seq ?_
    refine CE.region ?_
    refine WL.det (op_loadA (i := 0) (cs := [vS b'1 0 n c'1, vI (((bowAt n m dk dc0 dc1 dc2 sl lo xs i0 ys h0 ds0 ds1 (fun j => ss.getD j 0) i).i : Nat) : Int), vS d'1 0 m c2'1, vI (((bowAt n m dk dc0 dc1 dc2 sl lo xs i0 ys h0 ds0 ds1 (fun j => ss.getD j 0) i).h : Nat) : Int), vI dk, vF dc0, vF dc1, vF dc2, vF ((bowAt n m dk dc0 dc1 dc2 sl lo xs i0 ys h0 ds0 ds1 (fun j => ss.getD j 0) i).s0), vF ((bowAt n m dk dc0 dc1 dc2 sl lo xs i0 ys h0 ds0 ds1 (fun j => ss.getD j 0) i).s1), vF sl, vF lo]) rfl Try.isAgg36 Try.sizeOf36 r7.rng rfl rfl rfl) rfl rfl rfl ?_
    refine WL.det (op_move rfl) rfl rfl rfl ?_
    refine WL.op0 (op_store (i := 0) (cs := [vS b'1 0 n c'1, vI (((bowAt n m dk dc0 dc1 dc2 sl lo xs i0 ys h0 ds0 ds1 (fun j => ss.getD j 0) i).i : Nat) : Int), vS d'1 0 m c2'1, vI (((bowAt n m dk dc0 dc1 dc2 sl lo xs i0 ys h0 ds0 ds1 (fun j => ss.getD j 0) i).h : Nat) : Int), vI dk, vF dc0, vF dc1, vF dc2, vF ((bowAt n m dk dc0 dc1 dc2 sl lo xs i0 ys h0 ds0 ds1 (fun j => ss.getD j 0) i).s0), vF ((bowAt n m dk dc0 dc1 dc2 sl lo xs i0 ys h0 ds0 ds1 (fun j => ss.getD j 0) i).s1), vF sl, vF lo]) rfl rfl rfl Try.sizeOf36 rfl ((((r2.ext m3).ext m4).mod m5 (nC (lG (lL r1.lt lR)) nN)).mod m6 (nC (lG (lL r1.lt lR)) (nC (lE (lL (lL r2.lt m3.size) ge1)) (nC (lE (lL (lL r2.lt m3.size) ge2)) nN)))) rfl (lB rfl) rfl) rfl rfl ?_
    rintro _ w10 ⟨r15, m10, z5⟩
    have r16 : Row w10 w1.heap.size 0 [vS b'1 0 n c'1, vI (((bowAt n m dk dc0 dc1 dc2 sl lo xs i0 ys h0 ds0 ds1 (fun j => ss.getD j 0) i).i : Nat) : Int), vS d'1 0 m c2'1, vI (((bowAt n m dk dc0 dc1 dc2 sl lo xs i0 ys h0 ds0 ds1 (fun j => ss.getD j 0) i).h : Nat) : Int), vI dk, vF dc0, vF dc1, vF dc2, vF ((bowAt n m dk dc0 dc1 dc2 sl lo xs i0 ys h0 ds0 ds1 (fun j => ss.getD j 0) i).s0), vF ((bowAt n m dk dc0 dc1 dc2 sl lo xs i0 ys h0 ds0 ds1 (fun j => ss.getD j 0) i).s1), vF sl, vF lo] := Row.congr r15 rfl
    refine WL.det (op_assign rfl) rfl rfl rfl ?_
    refine WL.det (op_assign rfl) rfl rfl rfl ?_
    refine WL.end ?_
    refine NE.code ?_
    refine CE.ret' ?_
    have ei : l = i := by omega
    subst ei
    obtain ⟨b2, hA1, r17, hq1⟩ := Own.out (ow1.mod m10 (altC (lL r2.lt (lT (lT m3.size m4.size) m5.size)) altN)) (r7.mod m10 (nC (lE (lL r1.lt lR)) nN))
    refine XE.leaveT Try.results47 (res_agg (cs := [vS b'1 0 n c'1, vI (((bowAt n m dk dc0 dc1 dc2 sl lo xs i0 ys h0 ds0 ds1 (fun j => ss.getD j 0) l).i : Nat) : Int), vS d'1 0 m c2'1, vI (((bowAt n m dk dc0 dc1 dc2 sl lo xs i0 ys h0 ds0 ds1 (fun j => ss.getD j 0) l).h : Nat) : Int), vI dk, vF dc0, vF dc1, vF dc2, vF ((bowAt n m dk dc0 dc1 dc2 sl lo xs i0 ys h0 ds0 ds1 (fun j => ss.getD j 0) l).s0), vF ((bowAt n m dk dc0 dc1 dc2 sl lo xs i0 ys h0 ds0 ds1 (fun j => ss.getD j 0) l).s1), vF sl, vF lo]) rfl Try.isAgg36 Try.sizeOf36 r16.rng rfl (res_tmp rfl (res_tmp rfl res_nil))) ?_
    refine ⟨b'1, c'1, d'1, c2'1, b2, cc, A, ?_, ?_, ?_, ?_, hA1, (Row.congr (r8.mod m10 (nC (lG (lL (lL r2.lt m3.size) ge1)) nN)) ?_), (Row.congr (r9.mod m10 (nC (lG (lL (lL r2.lt m3.size) ge2)) nN)) ?_), (Row.congr r17 ?_), (lT (lT (lT m1.size m2.size) m3.size) ge1), (lT (lT (lT m1.size m2.size) m3.size) ge2), (own_ge hq1 lR (lT (lT (lT (lT m1.size m2.size) m3.size) m4.size) m5.size)), ne1, (own_ne hq1 (lG (lL (lL r1.lt (lT m2.size m3.size)) ge1)) (lL r3.lt m5.size)), (own_ne hq1 (lG (lL (lL r1.lt (lT m2.size m3.size)) ge2)) (lL r4.lt m5.size)), ((((((((Mod.refl [] w).nt m1).nt m2).nt m3).nt m4).then m5 ((aC (.inr lR) aN))).then m6 ((aC (.inr lR) (aC (.inr (lT (lT (lT m1.size m2.size) m3.size) ge1)) (aC (.inr (lT (lT (lT m1.size m2.size) m3.size) ge2)) aN))))).then m10 ((aC (.inr (lT m1.size lR)) aN)))⟩
    all_goals subst hze
    all_goals subst hoe
    all_goals first | assumption | exact outs_len _ _ | rfl

set_option maxRecDepth 100000 in
set_option maxHeartbeats 2000000 in
theorem c_iPlayBow_lim (n : Nat) (c : Nat) (b : Nat) (xs : List Nat) (m : Nat) (c2 : Nat) (d : Nat) (ys : List Nat) (i0 : Nat) (h0 : Nat) (dk : Int) (dc0 : Nat) (dc1 : Nat) (dc2 : Nat) (ds0 : Nat) (ds1 : Nat) (sl : Nat) (lo : Nat) (l : Nat) (cl : Nat) (Al : Option Addr) (bl : Nat) (ol : Nat) (ss : List Nat) (ln : xs.length = n) (lm : ys.length = m) (hi0 : i0 < n) (hh0 : h0 < m) (hn : n ≤ 1024) (hm : m ≤ 1024) (wx : W32 xs) (wy : W32 ys) (lds0 : ds0 < wid .f32) (lds1 : ds1 < wid .f32) (ls : ss.length = l) (hAl : 0 < l → Al = some ⟨bl, ol, none⟩) (wl : W32 ss) (hll : 4096 < l) (hl2 : l ≤ 1048576) (hv : vBow n ((i0 : Nat) : Int) m ((h0 : Nat) : Int) xs ys dk dc0 dc1 dc2 ds0 ds1 sl lo = true) (w : World) (r : Rng w b 0 (fl xs)) (ry : Rng w d 0 (fl ys)) (rl : Rng w bl ol (fl ss)) : Cl Try.prog 47 #[.agg #[vS b 0 n c, vI ((i0 : Nat) : Int), vS d 0 m c2, vI ((h0 : Nat) : Int), vI dk, vF dc0, vF dc1, vF dc2, vF ds0, vF ds1, vF sl, vF lo], .slice Al l cl] w fun v w' => v = .tuple #[.agg #[.slice none 0 0, vI 0, .slice none 0 0, vI 0, vI 0, vF 0, vF 0, vF 0, vF 0, vF 0, vF 0, vF 0], .slice none 0 0, vI 3] ∧ Mod [] w w' := by
  refine Cl.of Try.func47 Try.ntmps47 rfl rfl (ρ := [(0, .agg #[vS b 0 n c, vI ((i0 : Nat) : Int), vS d 0 m c2, vI ((h0 : Nat) : Int), vI dk, vF dc0, vF dc1, vF dc2, vF ds0, vF ds1, vF sl, vF lo]), (1, .slice Al l cl)]) rfl ?_
  refine CE.seq ?_
  refine CE.region ?_
  refine WL.op (op_box (cs := [vS b 0 n c, vI ((i0 : Nat) : Int), vS d 0 m c2, vI ((h0 : Nat) : Int), vI dk, vF dc0, vF dc1, vF dc2, vF ds0, vF ds1, vF sl, vF lo]) rfl rfl) rfl rfl (ltb rfl) ?_
  rintro _ w1 ⟨rfl, r1, m1, z1⟩
  refine WL.op (op_alloc (cs := [.slice none 0 0, vI 0, .slice none 0 0, vI 0, vI 0, vF 0, vF 0, vF 0, vF 0, vF 0, vF 0, vF 0]) Try.zeroValue36 rfl) rfl rfl (ltb rfl) ?_
  rintro _ w2 ⟨rfl, r2, m2, z2⟩
  refine WL.det (op_assign rfl) rfl rfl rfl ?_
  refine WL.det (op_assign rfl) rfl rfl rfl ?_
  refine WL.end ?_
  refine NE.code ?_
  refine CE.seq ?_
  refine CE.block ?_
  refine CE.seq ?_
  refine CE.region ?_
  refine WL.det (op_loadA (i := 0) (cs := [vS b 0 n c, vI ((i0 : Nat) : Int), vS d 0 m c2, vI ((h0 : Nat) : Int), vI dk, vF dc0, vF dc1, vF dc2, vF ds0, vF ds1, vF sl, vF lo]) rfl Try.isAgg36 Try.sizeOf36 (r1.ext m2).rng rfl rfl rfl) rfl rfl rfl ?_
  refine WL.call (oc_call (vs := [.agg #[vS b 0 n c, vI ((i0 : Nat) : Int), vS d 0 m c2, vI ((h0 : Nat) : Int), vI dk, vF dc0, vF dc1, vF dc2, vF ds0, vF ds1, vF sl, vF lo]]) (cap := []) rfl rfl rfl Try.call61 (c_ValidBow n c b xs m c2 d ys ((i0 : Nat) : Int) ((h0 : Nat) : Int) dk dc0 dc1 dc2 ds0 ds1 sl lo ln lm (by omega) (by omega) w2 ((r.ext m1).ext m2) ((ry.ext m1).ext m2))) rfl rfl (ltb rfl) ?_
  rintro _ w3 ⟨rfl, m3⟩
  refine WL.det (op_not rfl) rfl rfl rfl ?_
  refine WL.det (op_assign rfl) rfl rfl rfl ?_
  refine WL.end ?_
  refine NE.code ?_
  refine CE.cond_f rfl (bnot_t hv) ?_
  refine CE.seq ?_
  refine CE.region ?_
  refine WL.det (op_move rfl) rfl rfl rfl ?_
  refine WL.det (op_len rfl Try.runUnderlying22) rfl rfl rfl ?_
  refine WL.det (op_gti rfl rfl) rfl rfl rfl ?_
  refine WL.det (op_assign rfl) rfl rfl rfl ?_
  refine WL.end ?_
  refine NE.code ?_
  refine CE.cond_t rfl (decide_eq_true (by omega)) ?_
  refine CE.seq ?_
  refine CE.region ?_
  refine WL.det (op_build (qs := []) (cells := #[.slice none 0 0, vI 0, .slice none 0 0, vI 0, vI 0, vF 0, vF 0, vF 0, vF 0, vF 0, vF 0, vF 0]) rfl (by kernel_rfl)) rfl rfl rfl ?_
  refine WL.op0 (op_store (i := 0) (cs := [.slice none 0 0, vI 0, .slice none 0 0, vI 0, vI 0, vF 0, vF 0, vF 0, vF 0, vF 0, vF 0, vF 0]) rfl rfl rfl Try.sizeOf36 rfl (r2.ext m3) rfl (lB rfl) rfl) rfl rfl ?_
  rintro _ w4 ⟨r3, m4, z3⟩
  have r4 : Row w4 w1.heap.size 0 [.slice none 0 0, vI 0, .slice none 0 0, vI 0, vI 0, vF 0, vF 0, vF 0, vF 0, vF 0, vF 0, vF 0] := Row.congr r3 rfl
  refine WL.det (op_assign rfl) rfl rfl rfl ?_
  refine WL.det (op_assign rfl) rfl rfl rfl ?_
  refine WL.end ?_
  refine NE.code ?_
  refine CE.ret' ?_
  refine XE.ret_blk ?_
  refine XE.ret_then ?_
  refine XE.leaveT Try.results47 (res_agg (cs := [.slice none 0 0, vI 0, .slice none 0 0, vI 0, vI 0, vF 0, vF 0, vF 0, vF 0, vF 0, vF 0, vF 0]) rfl Try.isAgg36 Try.sizeOf36 r4.rng rfl (res_tmp rfl (res_tmp rfl res_nil))) ?_
  refine ⟨rfl, (((((Mod.refl [] w).nt m1).nt m2).nt m3).then m4 ((aC (.inr (lT m1.size lR)) aN)))⟩

set_option maxRecDepth 100000 in
set_option maxHeartbeats 2000000 in
theorem c_iPlayBow_bad (n : Nat) (c : Nat) (b : Nat) (xs : List Nat) (m : Nat) (c2 : Nat) (d : Nat) (ys : List Nat) (j : Int) (jj : Int) (dk : Int) (dc0 : Nat) (dc1 : Nat) (dc2 : Nat) (ds0 : Nat) (ds1 : Nat) (sl : Nat) (lo : Nat) (l : Nat) (cl : Nat) (Al : Option Addr) (bl : Nat) (ol : Nat) (ss : List Nat) (ln : xs.length = n) (lm : ys.length = m) (hn : n ≤ 1048576) (hm : m ≤ 1048576) (lds0 : ds0 < wid .f32) (lds1 : ds1 < wid .f32) (ls : ss.length = l) (hAl : 0 < l → Al = some ⟨bl, ol, none⟩) (wl : W32 ss) (hl2 : l ≤ 1048576) (hv : vBow n j m jj xs ys dk dc0 dc1 dc2 ds0 ds1 sl lo = false) (w : World) (r : Rng w b 0 (fl xs)) (ry : Rng w d 0 (fl ys)) (rl : Rng w bl ol (fl ss)) : Cl Try.prog 47 #[.agg #[vS b 0 n c, vI j, vS d 0 m c2, vI jj, vI dk, vF dc0, vF dc1, vF dc2, vF ds0, vF ds1, vF sl, vF lo], .slice Al l cl] w fun v w' => v = .tuple #[.agg #[.slice none 0 0, vI 0, .slice none 0 0, vI 0, vI 0, vF 0, vF 0, vF 0, vF 0, vF 0, vF 0, vF 0], .slice none 0 0, vI 1] ∧ Mod [] w w' := by
  refine Cl.of Try.func47 Try.ntmps47 rfl rfl (ρ := [(0, .agg #[vS b 0 n c, vI j, vS d 0 m c2, vI jj, vI dk, vF dc0, vF dc1, vF dc2, vF ds0, vF ds1, vF sl, vF lo]), (1, .slice Al l cl)]) rfl ?_
  refine CE.seq ?_
  refine CE.region ?_
  refine WL.op (op_box (cs := [vS b 0 n c, vI j, vS d 0 m c2, vI jj, vI dk, vF dc0, vF dc1, vF dc2, vF ds0, vF ds1, vF sl, vF lo]) rfl rfl) rfl rfl (ltb rfl) ?_
  rintro _ w1 ⟨rfl, r1, m1, z1⟩
  refine WL.op (op_alloc (cs := [.slice none 0 0, vI 0, .slice none 0 0, vI 0, vI 0, vF 0, vF 0, vF 0, vF 0, vF 0, vF 0, vF 0]) Try.zeroValue36 rfl) rfl rfl (ltb rfl) ?_
  rintro _ w2 ⟨rfl, r2, m2, z2⟩
  refine WL.det (op_assign rfl) rfl rfl rfl ?_
  refine WL.det (op_assign rfl) rfl rfl rfl ?_
  refine WL.end ?_
  refine NE.code ?_
  refine CE.seq ?_
  refine CE.block ?_
  refine CE.seq ?_
  refine CE.region ?_
  refine WL.det (op_loadA (i := 0) (cs := [vS b 0 n c, vI j, vS d 0 m c2, vI jj, vI dk, vF dc0, vF dc1, vF dc2, vF ds0, vF ds1, vF sl, vF lo]) rfl Try.isAgg36 Try.sizeOf36 (r1.ext m2).rng rfl rfl rfl) rfl rfl rfl ?_
  refine WL.call (oc_call (vs := [.agg #[vS b 0 n c, vI j, vS d 0 m c2, vI jj, vI dk, vF dc0, vF dc1, vF dc2, vF ds0, vF ds1, vF sl, vF lo]]) (cap := []) rfl rfl rfl Try.call61 (c_ValidBow n c b xs m c2 d ys j jj dk dc0 dc1 dc2 ds0 ds1 sl lo ln lm (by omega) (by omega) w2 ((r.ext m1).ext m2) ((ry.ext m1).ext m2))) rfl rfl (ltb rfl) ?_
  rintro _ w3 ⟨rfl, m3⟩
  refine WL.det (op_not rfl) rfl rfl rfl ?_
  refine WL.det (op_assign rfl) rfl rfl rfl ?_
  refine WL.end ?_
  refine NE.code ?_
  refine CE.cond_t rfl (bnot_f hv) ?_
  refine CE.seq ?_
  refine CE.region ?_
  refine WL.det (op_build (qs := []) (cells := #[.slice none 0 0, vI 0, .slice none 0 0, vI 0, vI 0, vF 0, vF 0, vF 0, vF 0, vF 0, vF 0, vF 0]) rfl (by kernel_rfl)) rfl rfl rfl ?_
  refine WL.op0 (op_store (i := 0) (cs := [.slice none 0 0, vI 0, .slice none 0 0, vI 0, vI 0, vF 0, vF 0, vF 0, vF 0, vF 0, vF 0, vF 0]) rfl rfl rfl Try.sizeOf36 rfl (r2.ext m3) rfl (lB rfl) rfl) rfl rfl ?_
  rintro _ w4 ⟨r3, m4, z3⟩
  have r4 : Row w4 w1.heap.size 0 [.slice none 0 0, vI 0, .slice none 0 0, vI 0, vI 0, vF 0, vF 0, vF 0, vF 0, vF 0, vF 0, vF 0] := Row.congr r3 rfl
  refine WL.det (op_assign rfl) rfl rfl rfl ?_
  refine WL.det (op_assign rfl) rfl rfl rfl ?_
  refine WL.end ?_
  refine NE.code ?_
  refine CE.ret' ?_
  refine XE.ret_blk ?_
  refine XE.ret_then ?_
  refine XE.leaveT Try.results47 (res_agg (cs := [.slice none 0 0, vI 0, .slice none 0 0, vI 0, vI 0, vF 0, vF 0, vF 0, vF 0, vF 0, vF 0, vF 0]) rfl Try.isAgg36 Try.sizeOf36 r4.rng rfl (res_tmp rfl (res_tmp rfl res_nil))) ?_
  refine ⟨rfl, (((((Mod.refl [] w).nt m1).nt m2).nt m3).then m4 ((aC (.inr (lT m1.size lR)) aN)))⟩

set_option maxRecDepth 100000 in
set_option maxHeartbeats 2000000 in
theorem c_sPull (n : Nat) (c : Nat) (b : Nat) (xs : List Nat) (m : Nat) (c2 : Nat) (d : Nat) (ys : List Nat) (j : Int) (jj : Int) (dk : Int) (dc0 : Nat) (dc1 : Nat) (dc2 : Nat) (ds0 : Nat) (ds1 : Nat) (sl : Nat) (lo : Nat) (a : Nat) (ln : xs.length = n) (lm : ys.length = m) (hn : n ≤ 1024) (hm : m ≤ 1024) (h0 : 0 < n) (h1 : 0 < m) (lds0 : ds0 < wid .f32) (lds1 : ds1 < wid .f32) (wy : W32 ys) (la : a < wid .f32) (hv : vBow n j m jj xs ys dk dc0 dc1 dc2 ds0 ds1 sl lo = true) (hf : finF a = true) (w : World) (r : Rng w b 0 (fl xs)) (ry : Rng w d 0 (fl ys)) : Cl Try.prog 13 #[.agg #[vS b 0 n c, vI j, vS d 0 m c2, vI jj, vI dk, vF dc0, vF dc1, vF dc2, vF ds0, vF ds1, vF sl, vF lo], vF a] w fun v w' => ∃ (b' : Nat) (c' : Nat) (d' : Nat) (c2' : Nat), v = .tuple #[.agg #[vS b' 0 n c', vI j, vS d' 0 m c2', vI jj, vI dk, vF dc0, vF dc1, vF dc2, vF ds0, vF ds1, vF sl, vF lo], vI 0] ∧ Row w' b' 0 (fl xs) ∧ Row w' d' 0 (fl ((List.range m).map (fun j => keptF (fop .add .f32 (ys.getD j 0) a)))) ∧ w.heap.size ≤ b' ∧ w.heap.size ≤ d' ∧ b' ≠ d' ∧ Mod [] w w' := by
  refine Cl.of Try.func13 Try.ntmps13 rfl rfl (ρ := [(0, .agg #[vS b 0 n c, vI j, vS d 0 m c2, vI jj, vI dk, vF dc0, vF dc1, vF dc2, vF ds0, vF ds1, vF sl, vF lo]), (1, vF a)]) rfl ?_
  refine CE.seq ?_
  refine CE.region ?_
  refine WL.op (op_box (cs := [vS b 0 n c, vI j, vS d 0 m c2, vI jj, vI dk, vF dc0, vF dc1, vF dc2, vF ds0, vF ds1, vF sl, vF lo]) rfl rfl) rfl rfl (ltb rfl) ?_
  rintro _ w1 ⟨rfl, r1, m1, z1⟩
  refine WL.op (op_alloc (cs := [.slice none 0 0, vI 0, .slice none 0 0, vI 0, vI 0, vF 0, vF 0, vF 0, vF 0, vF 0, vF 0, vF 0]) Try.zeroValue36 rfl) rfl rfl (ltb rfl) ?_
  rintro _ w2 ⟨rfl, r2, m2, z2⟩
  refine WL.det (op_assign rfl) rfl rfl rfl ?_
  refine WL.end ?_
  refine NE.code ?_
  refine CE.seq ?_
  refine CE.seq ?_
  refine CE.region ?_
  refine WL.call (oc_call (vs := [vP w.heap.size 0]) (cap := []) rfl rfl rfl Try.call55 (c_l05Bow n c b xs m c2 d ys j jj dk dc0 dc1 dc2 ds0 ds1 sl lo w.heap.size 0 [vS b 0 n c, vI j, vS d 0 m c2, vI jj, vI dk, vF dc0, vF dc1, vF dc2, vF ds0, vF ds1, vF sl, vF lo] ln lm (by omega) (by omega) (lB rfl) w2 (Row.congr (r1.ext m2) rfl).rng ((r.ext m1).ext m2) ((ry.ext m1).ext m2))) rfl rfl (ltb rfl) ?_
  rintro _ w3 ⟨rfl, m3⟩
  refine WL.det (op_not rfl) rfl rfl rfl ?_
  refine WL.end ?_
  refine NE.code ?_
  refine CE.cond_f rfl (bnot_t hv) ?_
  refine CE.skip' ?_
  refine NE.code ?_
  refine CE.seq ?_
  refine CE.seq ?_
  refine CE.region ?_
  refine WL.det (op_move rfl) rfl rfl rfl ?_
  refine WL.call (oc_call (vs := [vF a]) (cap := []) rfl rfl rfl Try.call56 (c_l01Finite a a rfl w3)) rfl rfl (ltb rfl) ?_
  rintro _ w4 ⟨rfl, m4⟩
  refine WL.det (op_not rfl) rfl rfl rfl ?_
  refine WL.end ?_
  refine NE.code ?_
  refine CE.cond_f rfl (bnot_t hf) ?_
  refine CE.skip' ?_
  refine NE.code ?_
  refine CE.seq ?_
  refine CE.region ?_
  refine WL.call (oc_call (vs := [vP w.heap.size 0]) (cap := []) rfl rfl rfl Try.call57 (c_copyBow n c b xs m c2 d ys j jj dk dc0 dc1 dc2 ds0 ds1 sl lo w.heap.size 0 [vS b 0 n c, vI j, vS d 0 m c2, vI jj, vI dk, vF dc0, vF dc1, vF dc2, vF ds0, vF ds1, vF sl, vF lo] ln lm (by omega) (by omega) (by omega) (by omega) (lB rfl) w4 (Row.congr (((r1.ext m2).ext m3).ext m4) rfl).rng ((((r.ext m1).ext m2).ext m3).ext m4) ((((ry.ext m1).ext m2).ext m3).ext m4))) rfl rfl (ltb rfl) ?_
  rintro _ w5 ⟨b'1, c'1, d'1, c2'1, rfl, r3, r4, ge1, ge2, ne1, m5⟩
  refine WL.op (op_alloc (cs := [.slice none 0 0, vI 0, .slice none 0 0, vI 0, vI 0, vF 0, vF 0, vF 0, vF 0, vF 0, vF 0, vF 0]) Try.zeroValue36 rfl) rfl rfl (ltb rfl) ?_
  rintro _ w6 ⟨rfl, r5, m6, z3⟩
  refine WL.op0 (op_store (i := 0) (cs := [vS b'1 0 n c'1, vI j, vS d'1 0 m c2'1, vI jj, vI dk, vF dc0, vF dc1, vF dc2, vF ds0, vF ds1, vF sl, vF lo]) rfl rfl rfl Try.sizeOf36 rfl r5 rfl (lB rfl) rfl) rfl rfl ?_
  rintro _ w7 ⟨r6, m7, z4⟩
  have r7 : Row w7 w5.heap.size 0 [vS b'1 0 n c'1, vI j, vS d'1 0 m c2'1, vI jj, vI dk, vF dc0, vF dc1, vF dc2, vF ds0, vF ds1, vF sl, vF lo] := Row.congr r6 rfl
  refine WL.end ?_
  refine NE.code ?_
  refine CE.seq ?_
  refine CE.seq ?_
  refine CE.region ?_
  refine WL.det (op_assign rfl) rfl rfl rfl ?_
  refine WL.end ?_
  refine NE.code ?_
  refine CE.block ?_
  refine CE.loop (fun (i : Nat) => [(7, vI ((i : Nat) : Int)), (1, vF a), (4, vP w1.heap.size 0), (5, vI 0), (6, vP w5.heap.size 0)]) (fun (i : Nat) => fun W => (i ≤ m) ∧ Row W d'1 0 (fl (over (fun j => keptF (fop .add .f32 (ys.getD j 0) a)) ys i)) ∧ Mod [d'1] w7 W) (fun (i : Nat) => m - i) 0 (⟨rfl, rfl, rfl, rfl, rfl, trivial⟩) ⟨(by omega), (Row.congr ((r4.ext m6).mod m7 (nC (lE (lL r4.lt lR)) nN)) (over_zero _ _)), Mod.refl _ _⟩ ?_
  rintro i w8 ⟨hi, r8, m8⟩
  show CE _ _ _ _ [(7, vI ((i : Nat) : Int)), (1, vF a), (4, vP w1.heap.size 0), (5, vI 0), (6, vP w5.heap.size 0)] _
  refine CE.seq ?_
  refine CE.seq ?_
  refine CE.region ?_
  refine WL.det (op_move rfl) rfl rfl rfl ?_
  refine WL.det (op_fieldAddr (off' := 2) rfl Try.runUnderlying36 rfl rfl Try.sizeOf33 rfl) rfl rfl rfl ?_
  refine WL.det (op_fieldAddr (off' := 2) rfl Try.runUnderlying33 rfl rfl Try.sizeOf22 rfl) rfl rfl rfl ?_
  refine WL.det (op_load1 (i := 2) rfl Try.isAgg22 (r7.mod m8 (nC (lG (lL r4.lt lR)) nN)).rng rfl rfl) rfl rfl rfl ?_
  refine WL.det (op_len rfl Try.runUnderlying22) rfl rfl rfl ?_
  refine WL.det (op_lti rfl rfl) rfl rfl rfl ?_
  refine WL.end ?_
  refine NE.code ?_
  rcases Bool.eq_false_or_eq_true (decide (((i : Nat) : Int) < ((m : Nat) : Int))) with hb1 | hb1
  · have hp1 := hb1; try simp only [Bool.and_eq_true, Bool.or_eq_true, Bool.not_eq_true', Bool.not_eq_false', Bool.and_eq_false_iff, Bool.or_eq_false_iff, decide_eq_true_eq, decide_eq_false_iff_not, beq_iff_eq, bne_iff_ne, beq_eq_false_iff_ne, bne_eq_false_iff_eq, ne_eq, Bool.false_eq_true, not_false_eq_true, not_true_eq_false, vIn_t, vIn_f] at hp1
    refine CE.cond_t rfl hb1 ?_
    refine CE.skip' ?_
    refine NE.code ?_
    refine CE.seq ?_
    refine CE.block ?_
    refine CE.draw (fun | 12 => some (fun _ wA uA wB => uA = vF (keptF (fop .add .f32 (ys.getD i 0) a)) ∧ (keptF (fop .add .f32 (ys.getD i 0) a) < wid .f32) ∧ Mod [] wA wB) | _ => none) [0, 1, 2, 3, 4, 5, 6, 7, 8, 9, 10, 11, 12] [13, 14] [] (by kernel_rfl) (by kernel_rfl) ?_
    have md1 : Mod [] w8 w8.drew := (Mod.refl _ _).drew
    generalize w8.drew = w9 at md1 ⊢
    refine DR.det (i := 0) rfl rfl (by kernel_rfl) (.free rfl) rfl rfl (fun wD mD => op_fieldAddr (off' := 2) rfl Try.runUnderlying36 rfl rfl Try.sizeOf33 rfl) ?_
    refine DR.det (i := 1) rfl rfl (by kernel_rfl) (.free rfl) rfl rfl (fun wD mD => op_fieldAddr (off' := 2) rfl Try.runUnderlying33 rfl rfl Try.sizeOf22 rfl) ?_
    refine DR.det (i := 2) rfl rfl (by kernel_rfl) (.free rfl) rfl rfl (fun wD mD => op_load1 (i := 2) rfl Try.isAgg22 (((r7.mod m8 (nC (lG (lL r4.lt lR)) nN)).ext md1).ext mD).rng rfl rfl) ?_
    refine DR.det (i := 3) rfl rfl (by kernel_rfl) (.free rfl) rfl rfl (fun wD mD => op_move rfl) ?_
    refine DR.det (i := 4) rfl rfl (by kernel_rfl) (.free rfl) rfl rfl (fun wD mD => op_fieldAddr (off' := 2) rfl Try.runUnderlying36 rfl rfl Try.sizeOf33 rfl) ?_
    refine DR.det (i := 5) rfl rfl (by kernel_rfl) (.free rfl) rfl rfl (fun wD mD => op_fieldAddr (off' := 2) rfl Try.runUnderlying33 rfl rfl Try.sizeOf22 rfl) ?_
    refine DR.det (i := 6) rfl rfl (by kernel_rfl) (.free rfl) rfl rfl (fun wD mD => op_load1 (i := 2) rfl Try.isAgg22 (((r7.mod m8 (nC (lG (lL r4.lt lR)) nN)).ext md1).ext mD).rng rfl rfl) ?_
    refine DR.det (i := 7) rfl rfl (by kernel_rfl) (.free rfl) rfl rfl (fun wD mD => op_move rfl) ?_
    refine DR.det (i := 8) rfl rfl (by kernel_rfl) (.free rfl) rfl rfl (fun wD mD => op_indexSl (off' := 0 + i) rfl rfl rfl Try.runUnderlying22 Try.sizeOf25 (by omega) (by omega) (by omega)) ?_
    refine DR.det (i := 9) rfl rfl (by kernel_rfl) (.free rfl) rfl rfl (fun wD mD => op_load1 (i := i) rfl Try.isAgg25 ((r8.ext md1).ext mD).rng rfl (fl_get_eq (by have eL : List.length (over (fun j => keptF (fop .add .f32 (ys.getD j 0) a)) ys i) = m := (over_len lm (by omega)); omega) (over_get (Nat.le_refl _)))) ?_
    refine DR.det (i := 10) rfl rfl (by kernel_rfl) (.free rfl) rfl rfl (fun wD mD => op_move rfl) ?_
    refine DR.op (i := 11) (FOut .f32 (fop .add .f32 (ys.getD i 0) a)) rfl rfl (by kernel_rfl) (.free rfl) rfl (ltb rfl) (fun wD mD => op_farith (e := (fop .add .f32 (ys.getD i 0) a)) (.inl rfl) rfl rfl rfl rfl rfl) ?_
    rintro _ ⟨f1, rfl, hf1, lf1⟩
    refine DR.call (i := 12) (fun uA => uA = vF (keptF (fop .add .f32 (ys.getD i 0) a)) ∧ (keptF (fop .add .f32 (ys.getD i 0) a) < wid .f32)) rfl rfl (by kernel_rfl) (.free rfl) rfl (ltb rfl) ⟨_, rfl, keptF_wid hf1 lf1⟩ (vs := [.func (.func 58) #[] #[], vF f1]) rfl (fun wD mD => oc_call (vs := [vF f1]) (cap := []) rfl rfl rfl Try.call58 (c_l02Kept f1 (fop .add .f32 (ys.getD i 0) a) hf1 lf1 wD)) ?_ ?_
    · rintro w1 _ w2 m1 ⟨rfl, p0, m2⟩; exact ⟨⟨rfl, p0⟩, m2⟩
    rintro _ ⟨rfl, h1⟩
    refine DR.done rfl ?_
    intro w10 m9
    refine WO.det (op_indexSl (off' := 0 + i) rfl rfl rfl Try.runUnderlying22 Try.sizeOf25 (by omega) (by omega) (by omega)) rfl (.free rfl) rfl rfl ?_
    refine WO.op0 rfl (.free rfl) rfl (op_store (i := i) (cs := [vF (keptF (fop .add .f32 (ys.getD i 0) a))]) rfl rfl rfl Try.sizeOf25 rfl ((r8.ext md1).ext m9) rfl (by rw [fl_length]; have eL : List.length (over (fun j => keptF (fop .add .f32 (ys.getD j 0) a)) ys i) = m := (over_len lm (by omega)); omega) rfl) ?_
    rintro _ w11 ⟨r9, m10, z5⟩
    have r10 : Row w11 d'1 0 (fl ((over (fun j => keptF (fop .add .f32 (ys.getD j 0) a)) ys i).set i (keptF (fop .add .f32 (ys.getD i 0) a)))) := Row.congr r9 (fl_splice (by have eL : List.length (over (fun j => keptF (fop .add .f32 (ys.getD j 0) a)) ys i) = m := (over_len lm (by omega)); omega))
    refine WO.end ?_
    refine NE.blk ?_
    refine NE.code ?_
    refine CE.region ?_
    refine WL.det (op_move rfl) rfl rfl rfl ?_
    refine WL.det (op_add (r := ((i + 1 : Nat) : Int)) rfl rfl (w_i64 (by omega) (by omega))) rfl rfl rfl ?_
    refine WL.det (op_assign rfl) rfl rfl rfl ?_
    refine WL.end ?_
    exact NE.again (i + 1) (⟨rfl, rfl, rfl, rfl, rfl, trivial⟩) ⟨(by omega), (Row.congr r10 (over_set lm (by omega))), (((m8.nt md1).nt m9).then m10 ((aC (.inl (by simp)) aN)))⟩ (by first | (dsimp only; omega) | omega)
  · have hp1 := hb1; try simp only [Bool.and_eq_true, Bool.or_eq_true, Bool.not_eq_true', Bool.not_eq_false', Bool.and_eq_false_iff, Bool.or_eq_false_iff, decide_eq_true_eq, decide_eq_false_iff_not, beq_iff_eq, bne_iff_ne, beq_eq_false_iff_ne, bne_eq_false_iff_eq, ne_eq, Bool.false_eq_true, not_false_eq_true, not_true_eq_false, vIn_t, vIn_f] at hp1
    refine CE.cond_f rfl hb1 ?_
    refine CE.exit' ?_
    refine XE.exit_then ?_
    refine XE.exit_then ?_
    refine XE.exit_here ?_
    refine NE.code ?_
    refine CE.seq ?_
    refine CE.region ?_
    refine WL.det (op_loadA (i := 0) (cs := [vS b'1 0 n c'1, vI j, vS d'1 0 m c2'1, vI jj, vI dk, vF dc0, vF dc1, vF dc2, vF ds0, vF ds1, vF sl, vF lo]) rfl Try.isAgg36 Try.sizeOf36 (r7.mod m8 (nC (lG (lL r4.lt lR)) nN)).rng rfl rfl rfl) rfl rfl rfl ?_
    refine WL.op0 (op_store (i := 0) (cs := [vS b'1 0 n c'1, vI j, vS d'1 0 m c2'1, vI jj, vI dk, vF dc0, vF dc1, vF dc2, vF ds0, vF ds1, vF sl, vF lo]) rfl rfl rfl Try.sizeOf36 rfl ((((((r2.ext m3).ext m4).ext m5).ext m6).mod m7 (nC (lE (lL (lL r2.lt (lT (lT m3.size m4.size) m5.size)) lR)) nN)).mod m8 (nC (lE (lL (lL r2.lt (lT m3.size m4.size)) ge2)) nN)) rfl (lB rfl) rfl) rfl rfl ?_
    rintro _ w12 ⟨r11, m11, z6⟩
    have r12 : Row w12 w1.heap.size 0 [vS b'1 0 n c'1, vI j, vS d'1 0 m c2'1, vI jj, vI dk, vF dc0, vF dc1, vF dc2, vF ds0, vF ds1, vF sl, vF lo] := Row.congr r11 rfl
    refine WL.det (op_assign rfl) rfl rfl rfl ?_
    refine WL.end ?_
    refine NE.code ?_
    refine CE.ret' ?_
    refine XE.leaveT Try.results13 (res_agg (cs := [vS b'1 0 n c'1, vI j, vS d'1 0 m c2'1, vI jj, vI dk, vF dc0, vF dc1, vF dc2, vF ds0, vF ds1, vF sl, vF lo]) rfl Try.isAgg36 Try.sizeOf36 r12.rng rfl (res_tmp rfl res_nil)) ?_
    refine ⟨b'1, c'1, d'1, c2'1, rfl, ((((r3.ext m6).mod m7 (nC (lE (lL r3.lt lR)) nN)).mod m8 (nC ne1 nN)).mod m11 (nC (lG (lL (lL r2.lt (lT m3.size m4.size)) ge1)) nN)), (Row.congr (r8.mod m11 (nC (lG (lL (lL r2.lt (lT m3.size m4.size)) ge2)) nN)) ?_), (lT (lT (lT (lT m1.size m2.size) m3.size) m4.size) ge1), (lT (lT (lT (lT m1.size m2.size) m3.size) m4.size) ge2), ne1, ((((((((((Mod.refl [] w).nt m1).nt m2).nt m3).nt m4).nt m5).nt m6).then m7 ((aC (.inr (lT (lT (lT (lT (lT m1.size m2.size) m3.size) m4.size) m5.size) lR)) aN))).then m8 ((aC (.inr (lT (lT (lT (lT m1.size m2.size) m3.size) m4.size) ge2)) aN))).then m11 ((aC (.inr (lT m1.size lR)) aN)))⟩
    all_goals (have e : i = m := (by omega); subst e; exact over_full _ lm)

set_option maxRecDepth 100000 in
set_option maxHeartbeats 2000000 in
theorem c_sPull_inf (n : Nat) (c : Nat) (b : Nat) (xs : List Nat) (m : Nat) (c2 : Nat) (d : Nat) (ys : List Nat) (j : Int) (jj : Int) (dk : Int) (dc0 : Nat) (dc1 : Nat) (dc2 : Nat) (ds0 : Nat) (ds1 : Nat) (sl : Nat) (lo : Nat) (a : Nat) (ln : xs.length = n) (lm : ys.length = m) (hn : n ≤ 1048576) (hm : m ≤ 1048576) (lds0 : ds0 < wid .f32) (lds1 : ds1 < wid .f32) (la : a < wid .f32) (hv : vBow n j m jj xs ys dk dc0 dc1 dc2 ds0 ds1 sl lo = true) (hf : finF a = false) (w : World) (r : Rng w b 0 (fl xs)) (ry : Rng w d 0 (fl ys)) : Cl Try.prog 13 #[.agg #[vS b 0 n c, vI j, vS d 0 m c2, vI jj, vI dk, vF dc0, vF dc1, vF dc2, vF ds0, vF ds1, vF sl, vF lo], vF a] w fun v w' => v = .tuple #[.agg #[.slice none 0 0, vI 0, .slice none 0 0, vI 0, vI 0, vF 0, vF 0, vF 0, vF 0, vF 0, vF 0, vF 0], vI 2] ∧ Mod [] w w' := by
  refine Cl.of Try.func13 Try.ntmps13 rfl rfl (ρ := [(0, .agg #[vS b 0 n c, vI j, vS d 0 m c2, vI jj, vI dk, vF dc0, vF dc1, vF dc2, vF ds0, vF ds1, vF sl, vF lo]), (1, vF a)]) rfl ?_
  refine CE.seq ?_
  refine CE.region ?_
  refine WL.op (op_box (cs := [vS b 0 n c, vI j, vS d 0 m c2, vI jj, vI dk, vF dc0, vF dc1, vF dc2, vF ds0, vF ds1, vF sl, vF lo]) rfl rfl) rfl rfl (ltb rfl) ?_
  rintro _ w1 ⟨rfl, r1, m1, z1⟩
  refine WL.op (op_alloc (cs := [.slice none 0 0, vI 0, .slice none 0 0, vI 0, vI 0, vF 0, vF 0, vF 0, vF 0, vF 0, vF 0, vF 0]) Try.zeroValue36 rfl) rfl rfl (ltb rfl) ?_
  rintro _ w2 ⟨rfl, r2, m2, z2⟩
  refine WL.det (op_assign rfl) rfl rfl rfl ?_
  refine WL.end ?_
  refine NE.code ?_
  refine CE.seq ?_
  refine CE.seq ?_
  refine CE.region ?_
  refine WL.call (oc_call (vs := [vP w.heap.size 0]) (cap := []) rfl rfl rfl Try.call55 (c_l05Bow n c b xs m c2 d ys j jj dk dc0 dc1 dc2 ds0 ds1 sl lo w.heap.size 0 [vS b 0 n c, vI j, vS d 0 m c2, vI jj, vI dk, vF dc0, vF dc1, vF dc2, vF ds0, vF ds1, vF sl, vF lo] ln lm (by omega) (by omega) (lB rfl) w2 (Row.congr (r1.ext m2) rfl).rng ((r.ext m1).ext m2) ((ry.ext m1).ext m2))) rfl rfl (ltb rfl) ?_
  rintro _ w3 ⟨rfl, m3⟩
  refine WL.det (op_not rfl) rfl rfl rfl ?_
  refine WL.end ?_
  refine NE.code ?_
  refine CE.cond_f rfl (bnot_t hv) ?_
  refine CE.skip' ?_
  refine NE.code ?_
  refine CE.seq ?_
  refine CE.seq ?_
  refine CE.region ?_
  refine WL.det (op_move rfl) rfl rfl rfl ?_
  refine WL.call (oc_call (vs := [vF a]) (cap := []) rfl rfl rfl Try.call56 (c_l01Finite a a rfl w3)) rfl rfl (ltb rfl) ?_
  rintro _ w4 ⟨rfl, m4⟩
  refine WL.det (op_not rfl) rfl rfl rfl ?_
  refine WL.end ?_
  refine NE.code ?_
  refine CE.cond_t rfl (bnot_f hf) ?_
  refine CE.seq ?_
  refine CE.region ?_
  refine WL.det (op_build (qs := []) (cells := #[.slice none 0 0, vI 0, .slice none 0 0, vI 0, vI 0, vF 0, vF 0, vF 0, vF 0, vF 0, vF 0, vF 0]) rfl (by kernel_rfl)) rfl rfl rfl ?_
  refine WL.op0 (op_store (i := 0) (cs := [.slice none 0 0, vI 0, .slice none 0 0, vI 0, vI 0, vF 0, vF 0, vF 0, vF 0, vF 0, vF 0, vF 0]) rfl rfl rfl Try.sizeOf36 rfl ((r2.ext m3).ext m4) rfl (lB rfl) rfl) rfl rfl ?_
  rintro _ w5 ⟨r3, m5, z3⟩
  have r4 : Row w5 w1.heap.size 0 [.slice none 0 0, vI 0, .slice none 0 0, vI 0, vI 0, vF 0, vF 0, vF 0, vF 0, vF 0, vF 0, vF 0] := Row.congr r3 rfl
  refine WL.det (op_assign rfl) rfl rfl rfl ?_
  refine WL.end ?_
  refine NE.code ?_
  refine CE.ret' ?_
  refine XE.ret_then ?_
  refine XE.leaveT Try.results13 (res_agg (cs := [.slice none 0 0, vI 0, .slice none 0 0, vI 0, vI 0, vF 0, vF 0, vF 0, vF 0, vF 0, vF 0, vF 0]) rfl Try.isAgg36 Try.sizeOf36 r4.rng rfl (res_tmp rfl res_nil)) ?_
  refine ⟨rfl, ((((((Mod.refl [] w).nt m1).nt m2).nt m3).nt m4).then m5 ((aC (.inr (lT m1.size lR)) aN)))⟩

set_option maxRecDepth 100000 in
set_option maxHeartbeats 2000000 in
theorem c_sPull_bad (n : Nat) (c : Nat) (b : Nat) (xs : List Nat) (m : Nat) (c2 : Nat) (d : Nat) (ys : List Nat) (j : Int) (jj : Int) (dk : Int) (dc0 : Nat) (dc1 : Nat) (dc2 : Nat) (ds0 : Nat) (ds1 : Nat) (sl : Nat) (lo : Nat) (a : Nat) (ln : xs.length = n) (lm : ys.length = m) (hn : n ≤ 1048576) (hm : m ≤ 1048576) (lds0 : ds0 < wid .f32) (lds1 : ds1 < wid .f32) (la : a < wid .f32) (hv : vBow n j m jj xs ys dk dc0 dc1 dc2 ds0 ds1 sl lo = false) (w : World) (r : Rng w b 0 (fl xs)) (ry : Rng w d 0 (fl ys)) : Cl Try.prog 13 #[.agg #[vS b 0 n c, vI j, vS d 0 m c2, vI jj, vI dk, vF dc0, vF dc1, vF dc2, vF ds0, vF ds1, vF sl, vF lo], vF a] w fun v w' => v = .tuple #[.agg #[.slice none 0 0, vI 0, .slice none 0 0, vI 0, vI 0, vF 0, vF 0, vF 0, vF 0, vF 0, vF 0, vF 0], vI 1] ∧ Mod [] w w' := by
  refine Cl.of Try.func13 Try.ntmps13 rfl rfl (ρ := [(0, .agg #[vS b 0 n c, vI j, vS d 0 m c2, vI jj, vI dk, vF dc0, vF dc1, vF dc2, vF ds0, vF ds1, vF sl, vF lo]), (1, vF a)]) rfl ?_
  refine CE.seq ?_
  refine CE.region ?_
  refine WL.op (op_box (cs := [vS b 0 n c, vI j, vS d 0 m c2, vI jj, vI dk, vF dc0, vF dc1, vF dc2, vF ds0, vF ds1, vF sl, vF lo]) rfl rfl) rfl rfl (ltb rfl) ?_
  rintro _ w1 ⟨rfl, r1, m1, z1⟩
  refine WL.op (op_alloc (cs := [.slice none 0 0, vI 0, .slice none 0 0, vI 0, vI 0, vF 0, vF 0, vF 0, vF 0, vF 0, vF 0, vF 0]) Try.zeroValue36 rfl) rfl rfl (ltb rfl) ?_
  rintro _ w2 ⟨rfl, r2, m2, z2⟩
  refine WL.det (op_assign rfl) rfl rfl rfl ?_
  refine WL.end ?_
  refine NE.code ?_
  refine CE.seq ?_
  refine CE.seq ?_
  refine CE.region ?_
  refine WL.call (oc_call (vs := [vP w.heap.size 0]) (cap := []) rfl rfl rfl Try.call55 (c_l05Bow n c b xs m c2 d ys j jj dk dc0 dc1 dc2 ds0 ds1 sl lo w.heap.size 0 [vS b 0 n c, vI j, vS d 0 m c2, vI jj, vI dk, vF dc0, vF dc1, vF dc2, vF ds0, vF ds1, vF sl, vF lo] ln lm (by omega) (by omega) (lB rfl) w2 (Row.congr (r1.ext m2) rfl).rng ((r.ext m1).ext m2) ((ry.ext m1).ext m2))) rfl rfl (ltb rfl) ?_
  rintro _ w3 ⟨rfl, m3⟩
  refine WL.det (op_not rfl) rfl rfl rfl ?_
  refine WL.end ?_
  refine NE.code ?_
  refine CE.cond_t rfl (bnot_f hv) ?_
  refine CE.seq ?_
  refine CE.region ?_
  refine WL.det (op_build (qs := []) (cells := #[.slice none 0 0, vI 0, .slice none 0 0, vI 0, vI 0, vF 0, vF 0, vF 0, vF 0, vF 0, vF 0, vF 0]) rfl (by kernel_rfl)) rfl rfl rfl ?_
  refine WL.op0 (op_store (i := 0) (cs := [.slice none 0 0, vI 0, .slice none 0 0, vI 0, vI 0, vF 0, vF 0, vF 0, vF 0, vF 0, vF 0, vF 0]) rfl rfl rfl Try.sizeOf36 rfl (r2.ext m3) rfl (lB rfl) rfl) rfl rfl ?_
  rintro _ w4 ⟨r3, m4, z3⟩
  have r4 : Row w4 w1.heap.size 0 [.slice none 0 0, vI 0, .slice none 0 0, vI 0, vI 0, vF 0, vF 0, vF 0, vF 0, vF 0, vF 0, vF 0] := Row.congr r3 rfl
  refine WL.det (op_assign rfl) rfl rfl rfl ?_
  refine WL.end ?_
  refine NE.code ?_
  refine CE.ret' ?_
  refine XE.ret_then ?_
  refine XE.leaveT Try.results13 (res_agg (cs := [.slice none 0 0, vI 0, .slice none 0 0, vI 0, vI 0, vF 0, vF 0, vF 0, vF 0, vF 0, vF 0, vF 0]) rfl Try.isAgg36 Try.sizeOf36 r4.rng rfl (res_tmp rfl res_nil)) ?_
  refine ⟨rfl, (((((Mod.refl [] w).nt m1).nt m2).nt m3).then m4 ((aC (.inr (lT m1.size lR)) aN)))⟩

set_option maxRecDepth 100000 in
set_option maxHeartbeats 2000000 in
theorem c_iPull (n : Nat) (c : Nat) (b : Nat) (xs : List Nat) (m : Nat) (c2 : Nat) (d : Nat) (ys : List Nat) (j : Int) (jj : Int) (dk : Int) (dc0 : Nat) (dc1 : Nat) (dc2 : Nat) (ds0 : Nat) (ds1 : Nat) (sl : Nat) (lo : Nat) (a : Nat) (ln : xs.length = n) (lm : ys.length = m) (hn : n ≤ 1024) (hm : m ≤ 1024) (h0 : 0 < n) (h1 : 0 < m) (lds0 : ds0 < wid .f32) (lds1 : ds1 < wid .f32) (wy : W32 ys) (la : a < wid .f32) (hv : vBow n j m jj xs ys dk dc0 dc1 dc2 ds0 ds1 sl lo = true) (hf : finF a = true) (w : World) (r : Rng w b 0 (fl xs)) (ry : Rng w d 0 (fl ys)) : Cl Try.prog 15 #[.agg #[vS b 0 n c, vI j, vS d 0 m c2, vI jj, vI dk, vF dc0, vF dc1, vF dc2, vF ds0, vF ds1, vF sl, vF lo], vF a] w fun v w' => ∃ (b' : Nat) (c' : Nat) (d' : Nat) (c2' : Nat), v = .tuple #[.agg #[vS b' 0 n c', vI j, vS d' 0 m c2', vI jj, vI dk, vF dc0, vF dc1, vF dc2, vF ds0, vF ds1, vF sl, vF lo], vI 0] ∧ Row w' b' 0 (fl xs) ∧ Row w' d' 0 (fl ((List.range m).map (fun j => keptF (fop .add .f32 (ys.getD j 0) a)))) ∧ w.heap.size ≤ b' ∧ w.heap.size ≤ d' ∧ b' ≠ d' ∧ Mod [] w w' := by
  refine Cl.of Try.func15 Try.ntmps15 rfl rfl (ρ := [(0, .agg #[vS b 0 n c, vI j, vS d 0 m c2, vI jj, vI dk, vF dc0, vF dc1, vF dc2, vF ds0, vF ds1, vF sl, vF lo]), (1, vF a)]) rfl ?_
  refine CE.seq ?_
  refine CE.region ?_
  refine WL.op (op_box (cs := [vS b 0 n c, vI j, vS d 0 m c2, vI jj, vI dk, vF dc0, vF dc1, vF dc2, vF ds0, vF ds1, vF sl, vF lo]) rfl rfl) rfl rfl (ltb rfl) ?_
  rintro _ w1 ⟨rfl, r1, m1, z1⟩
  refine WL.op (op_alloc (cs := [.slice none 0 0, vI 0, .slice none 0 0, vI 0, vI 0, vF 0, vF 0, vF 0, vF 0, vF 0, vF 0, vF 0]) Try.zeroValue36 rfl) rfl rfl (ltb rfl) ?_
  rintro _ w2 ⟨rfl, r2, m2, z2⟩
  refine WL.det (op_assign rfl) rfl rfl rfl ?_
  refine WL.end ?_
  refine NE.code ?_
  refine CE.seq ?_
  refine CE.block ?_
  refine CE.seq ?_
  refine CE.region ?_
  refine WL.det (op_loadA (i := 0) (cs := [vS b 0 n c, vI j, vS d 0 m c2, vI jj, vI dk, vF dc0, vF dc1, vF dc2, vF ds0, vF ds1, vF sl, vF lo]) rfl Try.isAgg36 Try.sizeOf36 (r1.ext m2).rng rfl rfl rfl) rfl rfl rfl ?_
  refine WL.call (oc_call (vs := [.agg #[vS b 0 n c, vI j, vS d 0 m c2, vI jj, vI dk, vF dc0, vF dc1, vF dc2, vF ds0, vF ds1, vF sl, vF lo]]) (cap := []) rfl rfl rfl Try.call61 (c_ValidBow n c b xs m c2 d ys j jj dk dc0 dc1 dc2 ds0 ds1 sl lo ln lm (by omega) (by omega) w2 ((r.ext m1).ext m2) ((ry.ext m1).ext m2))) rfl rfl (ltb rfl) ?_
  rintro _ w3 ⟨rfl, m3⟩
  refine WL.det (op_not rfl) rfl rfl rfl ?_
  refine WL.det (op_assign rfl) rfl rfl rfl ?_
  refine WL.end ?_
  refine NE.code ?_
  refine CE.cond_f rfl (bnot_t hv) ?_
  refine CE.seq ?_
  refine CE.region ?_
  refine WL.det (op_move rfl) rfl rfl rfl ?_
  refine WL.call (oc_call (vs := [vF a]) (cap := []) rfl rfl rfl Try.call62 (c_isFinite a a rfl w3)) rfl rfl (ltb rfl) ?_
  rintro _ w4 ⟨rfl, m4⟩
  refine WL.det (op_not rfl) rfl rfl rfl ?_
  refine WL.det (op_assign rfl) rfl rfl rfl ?_
  refine WL.end ?_
  refine NE.code ?_
  refine CE.cond_f rfl (bnot_t hf) ?_
  refine CE.skip' ?_
  refine NE.blk ?_
  refine NE.code ?_
  refine CE.seq ?_
  refine CE.region ?_
  refine WL.det (op_loadA (i := 0) (cs := [vS b 0 n c, vI j, vS d 0 m c2, vI jj, vI dk, vF dc0, vF dc1, vF dc2, vF ds0, vF ds1, vF sl, vF lo]) rfl Try.isAgg36 Try.sizeOf36 (((r1.ext m2).ext m3).ext m4).rng rfl rfl rfl) rfl rfl rfl ?_
  refine WL.call (oc_call (vs := [.agg #[vS b 0 n c, vI j, vS d 0 m c2, vI jj, vI dk, vF dc0, vF dc1, vF dc2, vF ds0, vF ds1, vF sl, vF lo]]) (cap := []) rfl rfl rfl Try.call63 (c_cloneBow n c b xs m c2 d ys j jj dk dc0 dc1 dc2 ds0 ds1 sl lo ln lm (by omega) (by omega) (by omega) (by omega) w4 ((((r.ext m1).ext m2).ext m3).ext m4) ((((ry.ext m1).ext m2).ext m3).ext m4))) rfl rfl (ltb rfl) ?_
  rintro _ w5 ⟨b'1, c'1, d'1, c2'1, rfl, r3, r4, ge1, ge2, ne1, m5⟩
  refine WL.op0 (op_store (i := 0) (cs := [vS b'1 0 n c'1, vI j, vS d'1 0 m c2'1, vI jj, vI dk, vF dc0, vF dc1, vF dc2, vF ds0, vF ds1, vF sl, vF lo]) rfl rfl rfl Try.sizeOf36 rfl ((((r1.ext m2).ext m3).ext m4).ext m5) rfl (lB rfl) rfl) rfl rfl ?_
  rintro _ w6 ⟨r5, m6, z3⟩
  have r6 : Row w6 w.heap.size 0 [vS b'1 0 n c'1, vI j, vS d'1 0 m c2'1, vI jj, vI dk, vF dc0, vF dc1, vF dc2, vF ds0, vF ds1, vF sl, vF lo] := Row.congr r5 rfl
  refine WL.end ?_
  refine NE.code ?_
  refine CE.seq ?_
  refine CE.seq ?_
  refine CE.region ?_
  refine WL.det (op_fieldAddr (off' := 2) rfl Try.runUnderlying36 rfl rfl Try.sizeOf33 rfl) rfl rfl rfl ?_
  refine WL.det (op_fieldAddr (off' := 2) rfl Try.runUnderlying33 rfl rfl Try.sizeOf22 rfl) rfl rfl rfl ?_
  refine WL.det (op_load1 (i := 2) rfl Try.isAgg22 r6.rng rfl rfl) rfl rfl rfl ?_
  refine WL.det (op_len rfl Try.runUnderlying22) rfl rfl rfl ?_
  refine WL.det (op_move rfl) rfl rfl rfl ?_
  refine WL.end ?_
  refine NE.code ?_
  refine CE.block ?_
  refine CE.loop (fun (i : Nat) => [(24, vI ((i : Nat) : Int)), (1, vF a), (2, vP w.heap.size 0), (4, vP w1.heap.size 0), (5, vI 0), (22, vS d'1 0 m c2'1), (23, vI ((m : Nat) : Int))]) (fun (i : Nat) => fun W => (i ≤ m) ∧ Row W d'1 0 (fl (over (fun j => keptF (fop .add .f32 (ys.getD j 0) a)) ys i)) ∧ Mod [d'1] w6 W) (fun (i : Nat) => m - i) 0 (⟨rfl, rfl, rfl, rfl, rfl, rfl, rfl, trivial⟩) ⟨(by omega), (Row.congr (r4.mod m6 (nC (lG (lL (lL r1.lt (lT (lT m2.size m3.size) m4.size)) ge2)) nN)) (over_zero _ _)), Mod.refl _ _⟩ ?_
  rintro i w7 ⟨hi, r7, m7⟩
  show CE _ _ _ _ [(24, vI ((i : Nat) : Int)), (1, vF a), (2, vP w.heap.size 0), (4, vP w1.heap.size 0), (5, vI 0), (22, vS d'1 0 m c2'1), (23, vI ((m : Nat) : Int))] _
  refine CE.seq ?_
  refine CE.region ?_
  refine WL.det (op_lti rfl rfl) rfl rfl rfl ?_
  refine WL.end ?_
  refine NE.code ?_
  refine CE.seq ?_
  rcases Bool.eq_false_or_eq_true (decide (((i : Nat) : Int) < ((m : Nat) : Int))) with hb1 | hb1
  · have hp1 := hb1; try simp only [Bool.and_eq_true, Bool.or_eq_true, Bool.not_eq_true', Bool.not_eq_false', Bool.and_eq_false_iff, Bool.or_eq_false_iff, decide_eq_true_eq, decide_eq_false_iff_not, beq_iff_eq, bne_iff_ne, beq_eq_false_iff_ne, bne_eq_false_iff_eq, ne_eq, Bool.false_eq_true, not_false_eq_true, not_true_eq_false, vIn_t, vIn_f] at hp1
    refine CE.cond_t rfl hb1 ?_
    refine CE.skip' ?_
    refine NE.code ?_
    refine CE.seq ?_
    refine CE.block ?_
    refine CE.seq ?_
    refine CE.region ?_
    refine WL.det (op_move rfl) rfl rfl rfl ?_
    refine WL.det (op_indexSl (off' := 0 + i) rfl rfl rfl Try.runUnderlying22 Try.sizeOf25 (by omega) (by omega) (by omega)) rfl rfl rfl ?_
    refine WL.det (op_load1 (i := i) rfl Try.isAgg25 r7.rng rfl (fl_get_eq (by have eL : List.length (over (fun j => keptF (fop .add .f32 (ys.getD j 0) a)) ys i) = m := (over_len lm (by omega)); omega) (over_get (Nat.le_refl _)))) rfl rfl rfl ?_
    refine WL.det (op_assign rfl) rfl rfl rfl ?_
    refine WL.det (op_assign rfl) rfl rfl rfl ?_
    refine WL.end ?_
    refine NE.code ?_
    refine CE.draw (fun | 7 => some (fun _ wA uA wB => uA = vF (keptF (fop .add .f32 (ys.getD i 0) a)) ∧ (keptF (fop .add .f32 (ys.getD i 0) a) < wid .f32) ∧ Mod [] wA wB) | _ => none) [0, 1, 2, 3, 4, 5, 6, 7] [8, 9] [] (by kernel_rfl) (by kernel_rfl) ?_
    have md1 : Mod [] w7 w7.drew := (Mod.refl _ _).drew
    generalize w7.drew = w8 at md1 ⊢
    refine DR.det (i := 0) rfl rfl (by kernel_rfl) (.free rfl) rfl rfl (fun wD mD => op_fieldAddr (off' := 2) rfl Try.runUnderlying36 rfl rfl Try.sizeOf33 rfl) ?_
    refine DR.det (i := 1) rfl rfl (by kernel_rfl) (.free rfl) rfl rfl (fun wD mD => op_fieldAddr (off' := 2) rfl Try.runUnderlying33 rfl rfl Try.sizeOf22 rfl) ?_
    refine DR.det (i := 2) rfl rfl (by kernel_rfl) (.free rfl) rfl rfl (fun wD mD => op_load1 (i := 2) rfl Try.isAgg22 (((r6.mod m7 (nC (lE (lL (lL r1.lt (lT (lT m2.size m3.size) m4.size)) ge2)) nN)).ext md1).ext mD).rng rfl rfl) ?_
    refine DR.det (i := 3) rfl rfl (by kernel_rfl) (.free rfl) rfl rfl (fun wD mD => op_move rfl) ?_
    refine DR.det (i := 4) rfl rfl (by kernel_rfl) (.free rfl) rfl rfl (fun wD mD => op_move rfl) ?_
    refine DR.det (i := 5) rfl rfl (by kernel_rfl) (.free rfl) rfl rfl (fun wD mD => op_move rfl) ?_
    refine DR.op (i := 6) (FOut .f32 (fop .add .f32 (ys.getD i 0) a)) rfl rfl (by kernel_rfl) (.free rfl) rfl (ltb rfl) (fun wD mD => op_farith (e := (fop .add .f32 (ys.getD i 0) a)) (.inl rfl) rfl rfl rfl rfl rfl) ?_
    rintro _ ⟨f1, rfl, hf1, lf1⟩
    refine DR.call (i := 7) (fun uA => uA = vF (keptF (fop .add .f32 (ys.getD i 0) a)) ∧ (keptF (fop .add .f32 (ys.getD i 0) a) < wid .f32)) rfl rfl (by kernel_rfl) (.free rfl) rfl (ltb rfl) ⟨_, rfl, keptF_wid hf1 lf1⟩ (vs := [.func (.func 64) #[] #[], vF f1]) rfl (fun wD mD => oc_call (vs := [vF f1]) (cap := []) rfl rfl rfl Try.call64 (c_kept f1 (fop .add .f32 (ys.getD i 0) a) hf1 lf1 wD)) ?_ ?_
    · rintro w1 _ w2 m1 ⟨rfl, p0, m2⟩; exact ⟨⟨rfl, p0⟩, m2⟩
    rintro _ ⟨rfl, h1⟩
    refine DR.done rfl ?_
    intro w9 m8
    refine WO.det (op_indexSl (off' := 0 + i) rfl rfl rfl Try.runUnderlying22 Try.sizeOf25 (by omega) (by omega) (by omega)) rfl (.free rfl) rfl rfl ?_
    refine WO.op0 rfl (.free rfl) rfl (op_store (i := i) (cs := [vF (keptF (fop .add .f32 (ys.getD i 0) a))]) rfl rfl rfl Try.sizeOf25 rfl ((r7.ext md1).ext m8) rfl (by rw [fl_length]; have eL : List.length (over (fun j => keptF (fop .add .f32 (ys.getD j 0) a)) ys i) = m := (over_len lm (by omega)); omega) rfl) ?_
    rintro _ w10 ⟨r8, m9, z4⟩
    have r9 : Row w10 d'1 0 (fl ((over (fun j => keptF (fop .add .f32 (ys.getD j 0) a)) ys i).set i (keptF (fop .add .f32 (ys.getD i 0) a)))) := Row.congr r8 (fl_splice (by have eL : List.length (over (fun j => keptF (fop .add .f32 (ys.getD j 0) a)) ys i) = m := (over_len lm (by omega)); omega))
    refine WO.end ?_
    refine NE.blk ?_
    refine NE.code ?_
    refine CE.region ?_
    refine WL.det (op_add (r := ((i + 1 : Nat) : Int)) rfl rfl (w_i64 (by omega) (by omega))) rfl rfl rfl ?_
    refine WL.det (op_move rfl) rfl rfl rfl ?_
    refine WL.end ?_
    exact NE.again (i + 1) (⟨rfl, rfl, rfl, rfl, rfl, rfl, rfl, trivial⟩) ⟨(by omega), (Row.congr r9 (over_set lm (by omega))), (((m7.nt md1).nt m8).then m9 ((aC (.inl (by simp)) aN)))⟩ (by first | (dsimp only; omega) | omega)
  · have hp1 := hb1; try simp only [Bool.and_eq_true, Bool.or_eq_true, Bool.not_eq_true', Bool.not_eq_false', Bool.and_eq_false_iff, Bool.or_eq_false_iff, decide_eq_true_eq, decide_eq_false_iff_not, beq_iff_eq, bne_iff_ne, beq_eq_false_iff_ne, bne_eq_false_iff_eq, ne_eq, Bool.false_eq_true, not_false_eq_true, not_true_eq_false, vIn_t, vIn_f] at hp1
    refine CE.cond_f rfl hb1 ?_
    refine CE.exit' ?_
    refine XE.exit_then ?_
    refine XE.exit_then ?_
    refine XE.exit_here ?_
    refine NE.code ?_
    refine CE.seq ?_
    refine CE.region ?_
    refine WL.det (op_loadA (i := 0) (cs := [vS b'1 0 n c'1, vI j, vS d'1 0 m c2'1, vI jj, vI dk, vF dc0, vF dc1, vF dc2, vF ds0, vF ds1, vF sl, vF lo]) rfl Try.isAgg36 Try.sizeOf36 (r6.mod m7 (nC (lE (lL (lL r1.lt (lT (lT m2.size m3.size) m4.size)) ge2)) nN)).rng rfl rfl rfl) rfl rfl rfl ?_
    refine WL.op0 (op_store (i := 0) (cs := [vS b'1 0 n c'1, vI j, vS d'1 0 m c2'1, vI jj, vI dk, vF dc0, vF dc1, vF dc2, vF ds0, vF ds1, vF sl, vF lo]) rfl rfl rfl Try.sizeOf36 rfl (((((r2.ext m3).ext m4).ext m5).mod m6 (nC (lG (lL r1.lt lR)) nN)).mod m7 (nC (lE (lL (lL r2.lt (lT m3.size m4.size)) ge2)) nN)) rfl (lB rfl) rfl) rfl rfl ?_
    rintro _ w11 ⟨r10, m10, z5⟩
    have r11 : Row w11 w1.heap.size 0 [vS b'1 0 n c'1, vI j, vS d'1 0 m c2'1, vI jj, vI dk, vF dc0, vF dc1, vF dc2, vF ds0, vF ds1, vF sl, vF lo] := Row.congr r10 rfl
    refine WL.det (op_assign rfl) rfl rfl rfl ?_
    refine WL.end ?_
    refine NE.code ?_
    refine CE.ret' ?_
    refine XE.leaveT Try.results15 (res_agg (cs := [vS b'1 0 n c'1, vI j, vS d'1 0 m c2'1, vI jj, vI dk, vF dc0, vF dc1, vF dc2, vF ds0, vF ds1, vF sl, vF lo]) rfl Try.isAgg36 Try.sizeOf36 r11.rng rfl (res_tmp rfl res_nil)) ?_
    refine ⟨b'1, c'1, d'1, c2'1, rfl, (((r3.mod m6 (nC (lG (lL (lL r1.lt (lT (lT m2.size m3.size) m4.size)) ge1)) nN)).mod m7 (nC ne1 nN)).mod m10 (nC (lG (lL (lL r2.lt (lT m3.size m4.size)) ge1)) nN)), (Row.congr (r7.mod m10 (nC (lG (lL (lL r2.lt (lT m3.size m4.size)) ge2)) nN)) ?_), (lT (lT (lT (lT m1.size m2.size) m3.size) m4.size) ge1), (lT (lT (lT (lT m1.size m2.size) m3.size) m4.size) ge2), ne1, (((((((((Mod.refl [] w).nt m1).nt m2).nt m3).nt m4).nt m5).then m6 ((aC (.inr lR) aN))).then m7 ((aC (.inr (lT (lT (lT (lT m1.size m2.size) m3.size) m4.size) ge2)) aN))).then m10 ((aC (.inr (lT m1.size lR)) aN)))⟩
    all_goals (have e : i = m := (by omega); subst e; exact over_full _ lm)

set_option maxRecDepth 100000 in
set_option maxHeartbeats 2000000 in
theorem c_iPull_inf (n : Nat) (c : Nat) (b : Nat) (xs : List Nat) (m : Nat) (c2 : Nat) (d : Nat) (ys : List Nat) (j : Int) (jj : Int) (dk : Int) (dc0 : Nat) (dc1 : Nat) (dc2 : Nat) (ds0 : Nat) (ds1 : Nat) (sl : Nat) (lo : Nat) (a : Nat) (ln : xs.length = n) (lm : ys.length = m) (hn : n ≤ 1048576) (hm : m ≤ 1048576) (lds0 : ds0 < wid .f32) (lds1 : ds1 < wid .f32) (la : a < wid .f32) (hv : vBow n j m jj xs ys dk dc0 dc1 dc2 ds0 ds1 sl lo = true) (hf : finF a = false) (w : World) (r : Rng w b 0 (fl xs)) (ry : Rng w d 0 (fl ys)) : Cl Try.prog 15 #[.agg #[vS b 0 n c, vI j, vS d 0 m c2, vI jj, vI dk, vF dc0, vF dc1, vF dc2, vF ds0, vF ds1, vF sl, vF lo], vF a] w fun v w' => v = .tuple #[.agg #[.slice none 0 0, vI 0, .slice none 0 0, vI 0, vI 0, vF 0, vF 0, vF 0, vF 0, vF 0, vF 0, vF 0], vI 2] ∧ Mod [] w w' := by
  refine Cl.of Try.func15 Try.ntmps15 rfl rfl (ρ := [(0, .agg #[vS b 0 n c, vI j, vS d 0 m c2, vI jj, vI dk, vF dc0, vF dc1, vF dc2, vF ds0, vF ds1, vF sl, vF lo]), (1, vF a)]) rfl ?_
  refine CE.seq ?_
  refine CE.region ?_
  refine WL.op (op_box (cs := [vS b 0 n c, vI j, vS d 0 m c2, vI jj, vI dk, vF dc0, vF dc1, vF dc2, vF ds0, vF ds1, vF sl, vF lo]) rfl rfl) rfl rfl (ltb rfl) ?_
  rintro _ w1 ⟨rfl, r1, m1, z1⟩
  refine WL.op (op_alloc (cs := [.slice none 0 0, vI 0, .slice none 0 0, vI 0, vI 0, vF 0, vF 0, vF 0, vF 0, vF 0, vF 0, vF 0]) Try.zeroValue36 rfl) rfl rfl (ltb rfl) ?_
  rintro _ w2 ⟨rfl, r2, m2, z2⟩
  refine WL.det (op_assign rfl) rfl rfl rfl ?_
  refine WL.end ?_
  refine NE.code ?_
  refine CE.seq ?_
  refine CE.block ?_
  refine CE.seq ?_
  refine CE.region ?_
  refine WL.det (op_loadA (i := 0) (cs := [vS b 0 n c, vI j, vS d 0 m c2, vI jj, vI dk, vF dc0, vF dc1, vF dc2, vF ds0, vF ds1, vF sl, vF lo]) rfl Try.isAgg36 Try.sizeOf36 (r1.ext m2).rng rfl rfl rfl) rfl rfl rfl ?_
  refine WL.call (oc_call (vs := [.agg #[vS b 0 n c, vI j, vS d 0 m c2, vI jj, vI dk, vF dc0, vF dc1, vF dc2, vF ds0, vF ds1, vF sl, vF lo]]) (cap := []) rfl rfl rfl Try.call61 (c_ValidBow n c b xs m c2 d ys j jj dk dc0 dc1 dc2 ds0 ds1 sl lo ln lm (by omega) (by omega) w2 ((r.ext m1).ext m2) ((ry.ext m1).ext m2))) rfl rfl (ltb rfl) ?_
  rintro _ w3 ⟨rfl, m3⟩
  refine WL.det (op_not rfl) rfl rfl rfl ?_
  refine WL.det (op_assign rfl) rfl rfl rfl ?_
  refine WL.end ?_
  refine NE.code ?_
  refine CE.cond_f rfl (bnot_t hv) ?_
  refine CE.seq ?_
  refine CE.region ?_
  refine WL.det (op_move rfl) rfl rfl rfl ?_
  refine WL.call (oc_call (vs := [vF a]) (cap := []) rfl rfl rfl Try.call62 (c_isFinite a a rfl w3)) rfl rfl (ltb rfl) ?_
  rintro _ w4 ⟨rfl, m4⟩
  refine WL.det (op_not rfl) rfl rfl rfl ?_
  refine WL.det (op_assign rfl) rfl rfl rfl ?_
  refine WL.end ?_
  refine NE.code ?_
  refine CE.cond_t rfl (bnot_f hf) ?_
  refine CE.seq ?_
  refine CE.region ?_
  refine WL.det (op_build (qs := []) (cells := #[.slice none 0 0, vI 0, .slice none 0 0, vI 0, vI 0, vF 0, vF 0, vF 0, vF 0, vF 0, vF 0, vF 0]) rfl (by kernel_rfl)) rfl rfl rfl ?_
  refine WL.op0 (op_store (i := 0) (cs := [.slice none 0 0, vI 0, .slice none 0 0, vI 0, vI 0, vF 0, vF 0, vF 0, vF 0, vF 0, vF 0, vF 0]) rfl rfl rfl Try.sizeOf36 rfl ((r2.ext m3).ext m4) rfl (lB rfl) rfl) rfl rfl ?_
  rintro _ w5 ⟨r3, m5, z3⟩
  have r4 : Row w5 w1.heap.size 0 [.slice none 0 0, vI 0, .slice none 0 0, vI 0, vI 0, vF 0, vF 0, vF 0, vF 0, vF 0, vF 0, vF 0] := Row.congr r3 rfl
  refine WL.det (op_assign rfl) rfl rfl rfl ?_
  refine WL.end ?_
  refine NE.code ?_
  refine CE.ret' ?_
  refine XE.ret_blk ?_
  refine XE.ret_then ?_
  refine XE.leaveT Try.results15 (res_agg (cs := [.slice none 0 0, vI 0, .slice none 0 0, vI 0, vI 0, vF 0, vF 0, vF 0, vF 0, vF 0, vF 0, vF 0]) rfl Try.isAgg36 Try.sizeOf36 r4.rng rfl (res_tmp rfl res_nil)) ?_
  refine ⟨rfl, ((((((Mod.refl [] w).nt m1).nt m2).nt m3).nt m4).then m5 ((aC (.inr (lT m1.size lR)) aN)))⟩

set_option maxRecDepth 100000 in
set_option maxHeartbeats 2000000 in
theorem c_iPull_bad (n : Nat) (c : Nat) (b : Nat) (xs : List Nat) (m : Nat) (c2 : Nat) (d : Nat) (ys : List Nat) (j : Int) (jj : Int) (dk : Int) (dc0 : Nat) (dc1 : Nat) (dc2 : Nat) (ds0 : Nat) (ds1 : Nat) (sl : Nat) (lo : Nat) (a : Nat) (ln : xs.length = n) (lm : ys.length = m) (hn : n ≤ 1048576) (hm : m ≤ 1048576) (lds0 : ds0 < wid .f32) (lds1 : ds1 < wid .f32) (la : a < wid .f32) (hv : vBow n j m jj xs ys dk dc0 dc1 dc2 ds0 ds1 sl lo = false) (w : World) (r : Rng w b 0 (fl xs)) (ry : Rng w d 0 (fl ys)) : Cl Try.prog 15 #[.agg #[vS b 0 n c, vI j, vS d 0 m c2, vI jj, vI dk, vF dc0, vF dc1, vF dc2, vF ds0, vF ds1, vF sl, vF lo], vF a] w fun v w' => v = .tuple #[.agg #[.slice none 0 0, vI 0, .slice none 0 0, vI 0, vI 0, vF 0, vF 0, vF 0, vF 0, vF 0, vF 0, vF 0], vI 1] ∧ Mod [] w w' := by
  refine Cl.of Try.func15 Try.ntmps15 rfl rfl (ρ := [(0, .agg #[vS b 0 n c, vI j, vS d 0 m c2, vI jj, vI dk, vF dc0, vF dc1, vF dc2, vF ds0, vF ds1, vF sl, vF lo]), (1, vF a)]) rfl ?_
  refine CE.seq ?_
  refine CE.region ?_
  refine WL.op (op_box (cs := [vS b 0 n c, vI j, vS d 0 m c2, vI jj, vI dk, vF dc0, vF dc1, vF dc2, vF ds0, vF ds1, vF sl, vF lo]) rfl rfl) rfl rfl (ltb rfl) ?_
  rintro _ w1 ⟨rfl, r1, m1, z1⟩
  refine WL.op (op_alloc (cs := [.slice none 0 0, vI 0, .slice none 0 0, vI 0, vI 0, vF 0, vF 0, vF 0, vF 0, vF 0, vF 0, vF 0]) Try.zeroValue36 rfl) rfl rfl (ltb rfl) ?_
  rintro _ w2 ⟨rfl, r2, m2, z2⟩
  refine WL.det (op_assign rfl) rfl rfl rfl ?_
  refine WL.end ?_
  refine NE.code ?_
  refine CE.seq ?_
  refine CE.block ?_
  refine CE.seq ?_
  refine CE.region ?_
  refine WL.det (op_loadA (i := 0) (cs := [vS b 0 n c, vI j, vS d 0 m c2, vI jj, vI dk, vF dc0, vF dc1, vF dc2, vF ds0, vF ds1, vF sl, vF lo]) rfl Try.isAgg36 Try.sizeOf36 (r1.ext m2).rng rfl rfl rfl) rfl rfl rfl ?_
  refine WL.call (oc_call (vs := [.agg #[vS b 0 n c, vI j, vS d 0 m c2, vI jj, vI dk, vF dc0, vF dc1, vF dc2, vF ds0, vF ds1, vF sl, vF lo]]) (cap := []) rfl rfl rfl Try.call61 (c_ValidBow n c b xs m c2 d ys j jj dk dc0 dc1 dc2 ds0 ds1 sl lo ln lm (by omega) (by omega) w2 ((r.ext m1).ext m2) ((ry.ext m1).ext m2))) rfl rfl (ltb rfl) ?_
  rintro _ w3 ⟨rfl, m3⟩
  refine WL.det (op_not rfl) rfl rfl rfl ?_
  refine WL.det (op_assign rfl) rfl rfl rfl ?_
  refine WL.end ?_
  refine NE.code ?_
  refine CE.cond_t rfl (bnot_f hv) ?_
  refine CE.seq ?_
  refine CE.region ?_
  refine WL.det (op_build (qs := []) (cells := #[.slice none 0 0, vI 0, .slice none 0 0, vI 0, vI 0, vF 0, vF 0, vF 0, vF 0, vF 0, vF 0, vF 0]) rfl (by kernel_rfl)) rfl rfl rfl ?_
  refine WL.op0 (op_store (i := 0) (cs := [.slice none 0 0, vI 0, .slice none 0 0, vI 0, vI 0, vF 0, vF 0, vF 0, vF 0, vF 0, vF 0, vF 0]) rfl rfl rfl Try.sizeOf36 rfl (r2.ext m3) rfl (lB rfl) rfl) rfl rfl ?_
  rintro _ w4 ⟨r3, m4, z3⟩
  have r4 : Row w4 w1.heap.size 0 [.slice none 0 0, vI 0, .slice none 0 0, vI 0, vI 0, vF 0, vF 0, vF 0, vF 0, vF 0, vF 0, vF 0] := Row.congr r3 rfl
  refine WL.det (op_assign rfl) rfl rfl rfl ?_
  refine WL.end ?_
  refine NE.code ?_
  refine CE.ret' ?_
  refine XE.ret_blk ?_
  refine XE.ret_then ?_
  refine XE.leaveT Try.results15 (res_agg (cs := [.slice none 0 0, vI 0, .slice none 0 0, vI 0, vI 0, vF 0, vF 0, vF 0, vF 0, vF 0, vF 0, vF 0]) rfl Try.isAgg36 Try.sizeOf36 r4.rng rfl (res_tmp rfl res_nil)) ?_
  refine ⟨rfl, (((((Mod.refl [] w).nt m1).nt m2).nt m3).then m4 ((aC (.inr (lT m1.size lR)) aN)))⟩

end Go.Proofs.Ytkgdhlhmckdcmaa
