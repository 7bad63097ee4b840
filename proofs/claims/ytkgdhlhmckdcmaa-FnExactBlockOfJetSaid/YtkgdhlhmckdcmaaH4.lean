/- What a jet makes of a block. -/
import Derived.Test.YtkgdhlhmckdcmaaH3
import Derived.Test.YtkgdhlhmckdcmaaB4
import Derived.Test.YtkgdhlhmckdcmaaE11
set_option linter.unusedVariables false
set_option linter.unusedSimpArgs false
namespace Go.Proofs.Ytkgdhlhmckdcmaa

structure JetSt where
  xs : List Nat
  i : Nat
  ys : List Nat
  h : Nat
  s0 : Nat
  s1 : Nat
  t0 : Nat
  t1 : Nat
def jetAtNext (n m : Nat) (lk : Int) (lc0 lc1 lc2 : Nat) (dk : Int) (dc0 dc1 dc2 ne fa : Nat) (z : JetSt) (x : Nat) : JetSt :=
  ⟨z.xs.set z.i (keptF (fop .sub .f32 x (fop .mul .f32 ne (stepY dk dc0 dc1 dc2 z.t0 z.t1 (stepY lk lc0 lc1 lc2 z.s0 z.s1 (z.ys.getD z.h 0)))))), (z.i + 1) % n, z.ys.set z.h (keptF (fop .add .f32 (jetF (z.xs.getD z.i 0)) (fop .mul .f32 fa (stepY dk dc0 dc1 dc2 z.t0 z.t1 (stepY lk lc0 lc1 lc2 z.s0 z.s1 (z.ys.getD z.h 0)))))), (z.h + 1) % m, (stepS lk lc0 lc1 lc2 z.s0 z.s1 (z.ys.getD z.h 0)), (stepT lk lc0 lc1 lc2 z.s0 z.s1 (z.ys.getD z.h 0)), (stepS dk dc0 dc1 dc2 z.t0 z.t1 (stepY lk lc0 lc1 lc2 z.s0 z.s1 (z.ys.getD z.h 0))), (stepT dk dc0 dc1 dc2 z.t0 z.t1 (stepY lk lc0 lc1 lc2 z.s0 z.s1 (z.ys.getD z.h 0)))⟩
/-- the same before step number `q`, where step `j` is given `f j` -/
def jetAt (n m : Nat) (lk : Int) (lc0 lc1 lc2 : Nat) (dk : Int) (dc0 dc1 dc2 ne fa : Nat) (xs : List Nat) (i0 : Nat) (ys : List Nat) (h0 : Nat) (ls0 ls1 ds0 ds1 : Nat) (f : Nat → Nat) (q : Nat) : JetSt :=
  if h : q = 0 then ⟨xs, i0, ys, h0, ls0, ls1, ds0, ds1⟩ else jetAtNext n m lk lc0 lc1 lc2 dk dc0 dc1 dc2 ne fa (jetAt n m lk lc0 lc1 lc2 dk dc0 dc1 dc2 ne fa xs i0 ys h0 ls0 ls1 ds0 ds1 f (q - 1)) (f (q - 1))
termination_by q
decreasing_by omega
section
variable {n m : Nat} {lk : Int} {lc0 lc1 lc2 : Nat} {dk : Int} {dc0 dc1 dc2 ne fa : Nat} {xs : List Nat} {i0 : Nat} {ys : List Nat} {h0 : Nat} {ls0 ls1 ds0 ds1 : Nat} {f : Nat → Nat} {q : Nat}
theorem jetAt_zero : jetAt n m lk lc0 lc1 lc2 dk dc0 dc1 dc2 ne fa xs i0 ys h0 ls0 ls1 ds0 ds1 f 0 = ⟨xs, i0, ys, h0, ls0, ls1, ds0, ds1⟩ := by rw [jetAt]; simp
theorem jetAt_succ : jetAt n m lk lc0 lc1 lc2 dk dc0 dc1 dc2 ne fa xs i0 ys h0 ls0 ls1 ds0 ds1 f (q + 1) = jetAtNext n m lk lc0 lc1 lc2 dk dc0 dc1 dc2 ne fa (jetAt n m lk lc0 lc1 lc2 dk dc0 dc1 dc2 ne fa xs i0 ys h0 ls0 ls1 ds0 ds1 f q) (f q) := by rw [jetAt]; simp
end
def jetOut (n m : Nat) (lk : Int) (lc0 lc1 lc2 : Nat) (dk : Int) (dc0 dc1 dc2 ne fa : Nat) (xs : List Nat) (i0 : Nat) (ys : List Nat) (h0 : Nat) (ls0 ls1 ds0 ds1 : Nat) (f : Nat → Nat) (q : Nat) : Nat :=
  (jetAt n m lk lc0 lc1 lc2 dk dc0 dc1 dc2 ne fa xs i0 ys h0 ls0 ls1 ds0 ds1 f q).ys.getD (jetAt n m lk lc0 lc1 lc2 dk dc0 dc1 dc2 ne fa xs i0 ys h0 ls0 ls1 ds0 ds1 f q).h 0

set_option maxRecDepth 100000 in
set_option maxHeartbeats 2000000 in
theorem c_blockJet1 (n : Nat) (c : Nat) (b : Nat) (xs : List Nat) (m : Nat) (c2 : Nat) (d : Nat) (ys : List Nat) (i0 : Nat) (h0 : Nat) (lk : Int) (lc0 : Nat) (lc1 : Nat) (lc2 : Nat) (ls0 : Nat) (ls1 : Nat) (dk : Int) (dc0 : Nat) (dc1 : Nat) (dc2 : Nat) (ds0 : Nat) (ds1 : Nat) (ne : Nat) (fa : Nat) (p : Nat) (k : Nat) (vs : List Value) (bs : List Nat) (e : Nat) (i : Nat) (ln : xs.length = n) (lm : ys.length = m) (hi0 : i0 < n) (hh0 : h0 < m) (hn : n ≤ 1024) (hm : m ≤ 1024) (wx : W32 xs) (wy : W32 ys) (lls0 : ls0 < wid .f32) (lls1 : ls1 < wid .f32) (lds0 : ds0 < wid .f32) (lds1 : ds1 < wid .f32) (hk : k + 18 ≤ vs.length) (lb : bs.length = 16) (wb : W32 bs) (hi : i < 16) (w : World) (q : Row w p 0 (splice vs k [vS b 0 n c, vI ((i0 : Nat) : Int), vS d 0 m c2, vI ((h0 : Nat) : Int), vI lk, vF lc0, vF lc1, vF lc2, vF ls0, vF ls1, vI dk, vF dc0, vF dc1, vF dc2, vF ds0, vF ds1, vF ne, vF fa])) (r : Row w b 0 (fl xs)) (ry : Row w d 0 (fl ys)) (re : Rng w e 0 (fl bs)) (ne1 : p ≠ b) (ne2 : p ≠ d) (ne3 : b ≠ d) (ne4 : e ≠ p) (ne5 : e ≠ b) (ne6 : e ≠ d) : Cl Try.prog 87 #[vI ((i : Nat) : Int), vP p k, vP e 0] w fun v w' => v = vF (ys.getD h0 0) ∧ ((keptF (fop .sub .f32 (bs.getD i 0) (fop .mul .f32 ne (stepY dk dc0 dc1 dc2 ds0 ds1 (stepY lk lc0 lc1 lc2 ls0 ls1 (ys.getD h0 0)))))) < wid .f32) ∧ ((keptF (fop .add .f32 (jetF (xs.getD i0 0)) (fop .mul .f32 fa (stepY dk dc0 dc1 dc2 ds0 ds1 (stepY lk lc0 lc1 lc2 ls0 ls1 (ys.getD h0 0)))))) < wid .f32) ∧ ((stepS lk lc0 lc1 lc2 ls0 ls1 (ys.getD h0 0)) < wid .f32) ∧ ((stepT lk lc0 lc1 lc2 ls0 ls1 (ys.getD h0 0)) < wid .f32) ∧ ((stepS dk dc0 dc1 dc2 ds0 ds1 (stepY lk lc0 lc1 lc2 ls0 ls1 (ys.getD h0 0))) < wid .f32) ∧ ((stepT dk dc0 dc1 dc2 ds0 ds1 (stepY lk lc0 lc1 lc2 ls0 ls1 (ys.getD h0 0))) < wid .f32) ∧ Row w' p 0 (splice vs k [vS b 0 n c, vI (((i0 + 1) % n : Nat) : Int), vS d 0 m c2, vI (((h0 + 1) % m : Nat) : Int), vI lk, vF lc0, vF lc1, vF lc2, vF (stepS lk lc0 lc1 lc2 ls0 ls1 (ys.getD h0 0)), vF (stepT lk lc0 lc1 lc2 ls0 ls1 (ys.getD h0 0)), vI dk, vF dc0, vF dc1, vF dc2, vF (stepS dk dc0 dc1 dc2 ds0 ds1 (stepY lk lc0 lc1 lc2 ls0 ls1 (ys.getD h0 0))), vF (stepT dk dc0 dc1 dc2 ds0 ds1 (stepY lk lc0 lc1 lc2 ls0 ls1 (ys.getD h0 0))), vF ne, vF fa]) ∧ Row w' b 0 (fl (xs.set i0 (keptF (fop .sub .f32 (bs.getD i 0) (fop .mul .f32 ne (stepY dk dc0 dc1 dc2 ds0 ds1 (stepY lk lc0 lc1 lc2 ls0 ls1 (ys.getD h0 0)))))))) ∧ Row w' d 0 (fl (ys.set h0 (keptF (fop .add .f32 (jetF (xs.getD i0 0)) (fop .mul .f32 fa (stepY dk dc0 dc1 dc2 ds0 ds1 (stepY lk lc0 lc1 lc2 ls0 ls1 (ys.getD h0 0)))))))) ∧ Mod [p, b, d] w w' := by
  refine Cl.of Try.func87 Try.ntmps87 rfl rfl (ρ := [(0, vI ((i : Nat) : Int)), (1, vP p k), (2, vP e 0)]) rfl ?_
  refine CE.seq ?_
  refine CE.region ?_
  refine WL.det (op_assign rfl) rfl rfl rfl ?_
  refine WL.end ?_
  refine NE.code ?_
  refine CE.seq ?_
  refine CE.region ?_
  refine WL.det (op_move rfl) rfl rfl rfl ?_
  refine WL.det (op_indexArr (off' := 0 + i) rfl rfl Try.runUnderlying82 Try.sizeOf25 (by omega) (by omega) (by omega)) rfl rfl rfl ?_
  refine WL.det (op_load1 (i := i) rfl Try.isAgg25 re rfl (fl_get (by have eL : List.length bs = 16 := lb; omega))) rfl rfl rfl ?_
  refine WL.call (oc_call (vs := [vP p k, vF (bs.getD i 0)]) (cap := []) rfl rfl rfl Try.call83 (c_jetStep n c b xs m c2 d ys i0 h0 lk lc0 lc1 lc2 ls0 ls1 dk dc0 dc1 dc2 ds0 ds1 ne fa p k (splice vs k [vS b 0 n c, vI ((i0 : Nat) : Int), vS d 0 m c2, vI ((h0 : Nat) : Int), vI lk, vF lc0, vF lc1, vF lc2, vF ls0, vF ls1, vI dk, vF dc0, vF dc1, vF dc2, vF ds0, vF ds1, vF ne, vF fa]) (bs.getD i 0) (bs.getD i 0) ln lm (by omega) (by omega) (by omega) (by omega) lls0 lls1 lds0 lds1 (sub_fit (i := 0) hk (lB rfl)) wx wy rfl (wb.get _) w (Row.congr q (sub_same (i := 0) hk (lB rfl) rfl)) r ry ne1 ne2 ne3)) rfl rfl (ltb rfl) ?_
  rintro _ w1 ⟨rfl, h1, h2, h3, h4, h5, h6, r1, r2, r3, m1⟩
  have r4 : Row w1 p 0 (splice vs k [vS b 0 n c, vI (((i0 + 1) % n : Nat) : Int), vS d 0 m c2, vI (((h0 + 1) % m : Nat) : Int), vI lk, vF lc0, vF lc1, vF lc2, vF (stepS lk lc0 lc1 lc2 ls0 ls1 (ys.getD h0 0)), vF (stepT lk lc0 lc1 lc2 ls0 ls1 (ys.getD h0 0)), vI dk, vF dc0, vF dc1, vF dc2, vF (stepS dk dc0 dc1 dc2 ds0 ds1 (stepY lk lc0 lc1 lc2 ls0 ls1 (ys.getD h0 0))), vF (stepT dk dc0 dc1 dc2 ds0 ds1 (stepY lk lc0 lc1 lc2 ls0 ls1 (ys.getD h0 0))), vF ne, vF fa]) := Row.congr r1 (sub_put (i := 0) hk (lB rfl) rfl)
  refine WL.det (op_assign rfl) rfl rfl rfl ?_
  refine WL.end ?_
  refine NE.code ?_
  refine CE.ret' ?_
  refine XE.leave1 Try.results87 rfl ?_
  refine ⟨rfl, ?_, ?_, ?_, ?_, ?_, ?_, r4, r2, r3, ((Mod.refl [p, b, d] w).then m1 ((aC (.inl (by simp)) (aC (.inl (by simp)) (aC (.inl (by simp)) aN)))))⟩
  all_goals first | assumption | rfl

set_option maxRecDepth 100000 in
set_option maxHeartbeats 2000000 in
theorem c_made_blockJet (n : Nat) (c : Nat) (b : Nat) (xs : List Nat) (m : Nat) (c2 : Nat) (d : Nat) (ys : List Nat) (i0 : Nat) (h0 : Nat) (lk : Int) (lc0 : Nat) (lc1 : Nat) (lc2 : Nat) (ls0 : Nat) (ls1 : Nat) (dk : Int) (dc0 : Nat) (dc1 : Nat) (dc2 : Nat) (ds0 : Nat) (ds1 : Nat) (ne : Nat) (fa : Nat) (p : Nat) (k : Nat) (vs : List Value) (bs : List Nat) (e : Nat) (ln : xs.length = n) (lm : ys.length = m) (hi0 : i0 < n) (hh0 : h0 < m) (hn : n ≤ 1024) (hm : m ≤ 1024) (wx : W32 xs) (wy : W32 ys) (lls0 : ls0 < wid .f32) (lls1 : ls1 < wid .f32) (lds0 : ds0 < wid .f32) (lds1 : ds1 < wid .f32) (hk : k + 18 ≤ vs.length) (lb : bs.length = 16) (wb : W32 bs) (w : World) (q : Row w p 0 (splice vs k [vS b 0 n c, vI ((i0 : Nat) : Int), vS d 0 m c2, vI ((h0 : Nat) : Int), vI lk, vF lc0, vF lc1, vF lc2, vF ls0, vF ls1, vI dk, vF dc0, vF dc1, vF dc2, vF ds0, vF ds1, vF ne, vF fa])) (r : Row w b 0 (fl xs)) (ry : Row w d 0 (fl ys)) (re : Rng w e 0 (fl bs)) (ne1 : p ≠ b) (ne2 : p ≠ d) (ne3 : b ≠ d) (ne4 : e ≠ p) (ne5 : e ≠ b) (ne6 : e ≠ d) : Cl Try.prog 86 #[.func (.func 87) #[] #[vP p k, vP e 0]] w fun v w' => v = .agg (fl ((List.range 16).map (jetOut n m lk lc0 lc1 lc2 dk dc0 dc1 dc2 ne fa xs i0 ys h0 ls0 ls1 ds0 ds1 (fun j => bs.getD j 0)))).toArray ∧ ((jetAt n m lk lc0 lc1 lc2 dk dc0 dc1 dc2 ne fa xs i0 ys h0 ls0 ls1 ds0 ds1 (fun j => bs.getD j 0) 16).xs.length = n) ∧ ((jetAt n m lk lc0 lc1 lc2 dk dc0 dc1 dc2 ne fa xs i0 ys h0 ls0 ls1 ds0 ds1 (fun j => bs.getD j 0) 16).ys.length = m) ∧ Row w' p 0 (splice vs k [vS b 0 n c, vI (((jetAt n m lk lc0 lc1 lc2 dk dc0 dc1 dc2 ne fa xs i0 ys h0 ls0 ls1 ds0 ds1 (fun j => bs.getD j 0) 16).i : Nat) : Int), vS d 0 m c2, vI (((jetAt n m lk lc0 lc1 lc2 dk dc0 dc1 dc2 ne fa xs i0 ys h0 ls0 ls1 ds0 ds1 (fun j => bs.getD j 0) 16).h : Nat) : Int), vI lk, vF lc0, vF lc1, vF lc2, vF ((jetAt n m lk lc0 lc1 lc2 dk dc0 dc1 dc2 ne fa xs i0 ys h0 ls0 ls1 ds0 ds1 (fun j => bs.getD j 0) 16).s0), vF ((jetAt n m lk lc0 lc1 lc2 dk dc0 dc1 dc2 ne fa xs i0 ys h0 ls0 ls1 ds0 ds1 (fun j => bs.getD j 0) 16).s1), vI dk, vF dc0, vF dc1, vF dc2, vF ((jetAt n m lk lc0 lc1 lc2 dk dc0 dc1 dc2 ne fa xs i0 ys h0 ls0 ls1 ds0 ds1 (fun j => bs.getD j 0) 16).t0), vF ((jetAt n m lk lc0 lc1 lc2 dk dc0 dc1 dc2 ne fa xs i0 ys h0 ls0 ls1 ds0 ds1 (fun j => bs.getD j 0) 16).t1), vF ne, vF fa]) ∧ Row w' b 0 (fl ((jetAt n m lk lc0 lc1 lc2 dk dc0 dc1 dc2 ne fa xs i0 ys h0 ls0 ls1 ds0 ds1 (fun j => bs.getD j 0) 16).xs)) ∧ Row w' d 0 (fl ((jetAt n m lk lc0 lc1 lc2 dk dc0 dc1 dc2 ne fa xs i0 ys h0 ls0 ls1 ds0 ds1 (fun j => bs.getD j 0) 16).ys)) ∧ Mod [p, b, d] w w' := by
  refine Cl.of Try.func86 Try.ntmps86 rfl rfl (ρ := [(0, .func (.func 87) #[] #[vP p k, vP e 0])]) rfl ?_
  refine CE.seq ?_
  refine CE.region ?_
  refine WL.op (op_alloc (cs := fl (List.replicate 16 0)) Try.zeroValue82 rfl) rfl rfl (ltb rfl) ?_
  rintro _ w1 ⟨rfl, r1, m1, z1⟩
  refine WL.end ?_
  refine NE.code ?_
  refine CE.seq ?_
  refine CE.region ?_
  refine WL.op (op_alloc (cs := fl (List.replicate 16 0)) Try.zeroValue82 rfl) rfl rfl (ltb rfl) ?_
  rintro _ w2 ⟨rfl, r2, m2, z2⟩
  refine WL.end ?_
  refine NE.code ?_
  refine CE.seq ?_
  refine CE.seq ?_
  refine CE.region ?_
  refine WL.det (op_move rfl) rfl rfl rfl ?_
  refine WL.end ?_
  refine NE.code ?_
  refine CE.block ?_
  refine CE.loop (fun (i : Nat) => [(5, vI ((i : Nat) : Int)), (0, .func (.func 87) #[] #[vP p k, vP e 0]), (2, vP w.heap.size 0), (3, vP w1.heap.size 0)]) (fun (i : Nat) => fun W => (i ≤ 16) ∧ ((jetAt n m lk lc0 lc1 lc2 dk dc0 dc1 dc2 ne fa xs i0 ys h0 ls0 ls1 ds0 ds1 (fun j => bs.getD j 0) i).i < n) ∧ ((jetAt n m lk lc0 lc1 lc2 dk dc0 dc1 dc2 ne fa xs i0 ys h0 ls0 ls1 ds0 ds1 (fun j => bs.getD j 0) i).h < m) ∧ ((jetAt n m lk lc0 lc1 lc2 dk dc0 dc1 dc2 ne fa xs i0 ys h0 ls0 ls1 ds0 ds1 (fun j => bs.getD j 0) i).xs.length = n) ∧ ((jetAt n m lk lc0 lc1 lc2 dk dc0 dc1 dc2 ne fa xs i0 ys h0 ls0 ls1 ds0 ds1 (fun j => bs.getD j 0) i).ys.length = m) ∧ (W32 (jetAt n m lk lc0 lc1 lc2 dk dc0 dc1 dc2 ne fa xs i0 ys h0 ls0 ls1 ds0 ds1 (fun j => bs.getD j 0) i).xs) ∧ (W32 (jetAt n m lk lc0 lc1 lc2 dk dc0 dc1 dc2 ne fa xs i0 ys h0 ls0 ls1 ds0 ds1 (fun j => bs.getD j 0) i).ys) ∧ ((jetAt n m lk lc0 lc1 lc2 dk dc0 dc1 dc2 ne fa xs i0 ys h0 ls0 ls1 ds0 ds1 (fun j => bs.getD j 0) i).s0 < wid .f32) ∧ ((jetAt n m lk lc0 lc1 lc2 dk dc0 dc1 dc2 ne fa xs i0 ys h0 ls0 ls1 ds0 ds1 (fun j => bs.getD j 0) i).s1 < wid .f32) ∧ ((jetAt n m lk lc0 lc1 lc2 dk dc0 dc1 dc2 ne fa xs i0 ys h0 ls0 ls1 ds0 ds1 (fun j => bs.getD j 0) i).t0 < wid .f32) ∧ ((jetAt n m lk lc0 lc1 lc2 dk dc0 dc1 dc2 ne fa xs i0 ys h0 ls0 ls1 ds0 ds1 (fun j => bs.getD j 0) i).t1 < wid .f32) ∧ Row W p 0 (splice vs k [vS b 0 n c, vI (((jetAt n m lk lc0 lc1 lc2 dk dc0 dc1 dc2 ne fa xs i0 ys h0 ls0 ls1 ds0 ds1 (fun j => bs.getD j 0) i).i : Nat) : Int), vS d 0 m c2, vI (((jetAt n m lk lc0 lc1 lc2 dk dc0 dc1 dc2 ne fa xs i0 ys h0 ls0 ls1 ds0 ds1 (fun j => bs.getD j 0) i).h : Nat) : Int), vI lk, vF lc0, vF lc1, vF lc2, vF ((jetAt n m lk lc0 lc1 lc2 dk dc0 dc1 dc2 ne fa xs i0 ys h0 ls0 ls1 ds0 ds1 (fun j => bs.getD j 0) i).s0), vF ((jetAt n m lk lc0 lc1 lc2 dk dc0 dc1 dc2 ne fa xs i0 ys h0 ls0 ls1 ds0 ds1 (fun j => bs.getD j 0) i).s1), vI dk, vF dc0, vF dc1, vF dc2, vF ((jetAt n m lk lc0 lc1 lc2 dk dc0 dc1 dc2 ne fa xs i0 ys h0 ls0 ls1 ds0 ds1 (fun j => bs.getD j 0) i).t0), vF ((jetAt n m lk lc0 lc1 lc2 dk dc0 dc1 dc2 ne fa xs i0 ys h0 ls0 ls1 ds0 ds1 (fun j => bs.getD j 0) i).t1), vF ne, vF fa]) ∧ Row W b 0 (fl ((jetAt n m lk lc0 lc1 lc2 dk dc0 dc1 dc2 ne fa xs i0 ys h0 ls0 ls1 ds0 ds1 (fun j => bs.getD j 0) i).xs)) ∧ Row W d 0 (fl ((jetAt n m lk lc0 lc1 lc2 dk dc0 dc1 dc2 ne fa xs i0 ys h0 ls0 ls1 ds0 ds1 (fun j => bs.getD j 0) i).ys)) ∧ Row W w1.heap.size 0 (fl (over (jetOut n m lk lc0 lc1 lc2 dk dc0 dc1 dc2 ne fa xs i0 ys h0 ls0 ls1 ds0 ds1 (fun j => bs.getD j 0)) (List.replicate 16 0) i)) ∧ Mod [p, b, d, w1.heap.size] w2 W) (fun (i : Nat) => 16 - i) 0 (⟨rfl, rfl, rfl, rfl, trivial⟩) ⟨(by omega), (by rw [jetAt_zero]; exact hi0), (by rw [jetAt_zero]; exact hh0), (by rw [jetAt_zero]; exact ln), (by rw [jetAt_zero]; exact lm), (by rw [jetAt_zero]; exact wx), (by rw [jetAt_zero]; exact wy), (by rw [jetAt_zero]; assumption), (by rw [jetAt_zero]; assumption), (by rw [jetAt_zero]; assumption), (by rw [jetAt_zero]; assumption), (Row.congr ((q.ext m1).ext m2) (by rw [jetAt_zero])), (Row.congr ((r.ext m1).ext m2) (by rw [jetAt_zero])), (Row.congr ((ry.ext m1).ext m2) (by rw [jetAt_zero])), (Row.congr r2 (over_zero _ _)), Mod.refl _ _⟩ ?_
  rintro i w3 ⟨hi, hz, hy, hl, hl2, hx, hx2, b0, b1, b2, b3, r3, r4, r5, r6, m3⟩
  show CE _ _ _ _ [(5, vI ((i : Nat) : Int)), (0, .func (.func 87) #[] #[vP p k, vP e 0]), (2, vP w.heap.size 0), (3, vP w1.heap.size 0)] _
  refine CE.seq ?_
  refine CE.region ?_
  refine WL.det (op_lti rfl rfl) rfl rfl rfl ?_
  refine WL.end ?_
  refine NE.code ?_
  refine CE.seq ?_
  rcases Bool.eq_false_or_eq_true (decide (((i : Nat) : Int) < (16 : Int))) with hb1 | hb1
  · have hp1 := hb1; try simp only [Bool.and_eq_true, Bool.or_eq_true, Bool.not_eq_true', Bool.not_eq_false', Bool.and_eq_false_iff, Bool.or_eq_false_iff, decide_eq_true_eq, decide_eq_false_iff_not, beq_iff_eq, bne_iff_ne, beq_eq_false_iff_ne, bne_eq_false_iff_eq, ne_eq, Bool.false_eq_true, not_false_eq_true, not_true_eq_false, vIn_t, vIn_f] at hp1
    refine CE.cond_t rfl hb1 ?_
    refine CE.skip' ?_
    refine NE.code ?_
    refine CE.seq ?_
    refine CE.block ?_
    refine CE.seq ?_
    refine CE.region ?_
    refine WL.det (op_move rfl) rfl rfl rfl ?_
    refine WL.det (op_assign rfl) rfl rfl rfl ?_
    refine WL.end ?_
    refine NE.code ?_
    refine CE.region ?_
    refine WL.det (op_move rfl) rfl rfl rfl ?_
    refine WL.det (op_move rfl) rfl rfl rfl ?_
    refine WL.det (op_move rfl) rfl rfl rfl ?_
    refine WL.call (oc_call (vs := [vI ((i : Nat) : Int)]) (cap := [vP p k, vP e 0]) rfl rfl rfl Try.call87 (c_blockJet1 n c b ((jetAt n m lk lc0 lc1 lc2 dk dc0 dc1 dc2 ne fa xs i0 ys h0 ls0 ls1 ds0 ds1 (fun j => bs.getD j 0) i).xs) m c2 d ((jetAt n m lk lc0 lc1 lc2 dk dc0 dc1 dc2 ne fa xs i0 ys h0 ls0 ls1 ds0 ds1 (fun j => bs.getD j 0) i).ys) ((jetAt n m lk lc0 lc1 lc2 dk dc0 dc1 dc2 ne fa xs i0 ys h0 ls0 ls1 ds0 ds1 (fun j => bs.getD j 0) i).i) ((jetAt n m lk lc0 lc1 lc2 dk dc0 dc1 dc2 ne fa xs i0 ys h0 ls0 ls1 ds0 ds1 (fun j => bs.getD j 0) i).h) lk lc0 lc1 lc2 ((jetAt n m lk lc0 lc1 lc2 dk dc0 dc1 dc2 ne fa xs i0 ys h0 ls0 ls1 ds0 ds1 (fun j => bs.getD j 0) i).s0) ((jetAt n m lk lc0 lc1 lc2 dk dc0 dc1 dc2 ne fa xs i0 ys h0 ls0 ls1 ds0 ds1 (fun j => bs.getD j 0) i).s1) dk dc0 dc1 dc2 ((jetAt n m lk lc0 lc1 lc2 dk dc0 dc1 dc2 ne fa xs i0 ys h0 ls0 ls1 ds0 ds1 (fun j => bs.getD j 0) i).t0) ((jetAt n m lk lc0 lc1 lc2 dk dc0 dc1 dc2 ne fa xs i0 ys h0 ls0 ls1 ds0 ds1 (fun j => bs.getD j 0) i).t1) ne fa p k (splice vs k [vS b 0 n c, vI (((jetAt n m lk lc0 lc1 lc2 dk dc0 dc1 dc2 ne fa xs i0 ys h0 ls0 ls1 ds0 ds1 (fun j => bs.getD j 0) i).i : Nat) : Int), vS d 0 m c2, vI (((jetAt n m lk lc0 lc1 lc2 dk dc0 dc1 dc2 ne fa xs i0 ys h0 ls0 ls1 ds0 ds1 (fun j => bs.getD j 0) i).h : Nat) : Int), vI lk, vF lc0, vF lc1, vF lc2, vF ((jetAt n m lk lc0 lc1 lc2 dk dc0 dc1 dc2 ne fa xs i0 ys h0 ls0 ls1 ds0 ds1 (fun j => bs.getD j 0) i).s0), vF ((jetAt n m lk lc0 lc1 lc2 dk dc0 dc1 dc2 ne fa xs i0 ys h0 ls0 ls1 ds0 ds1 (fun j => bs.getD j 0) i).s1), vI dk, vF dc0, vF dc1, vF dc2, vF ((jetAt n m lk lc0 lc1 lc2 dk dc0 dc1 dc2 ne fa xs i0 ys h0 ls0 ls1 ds0 ds1 (fun j => bs.getD j 0) i).t0), vF ((jetAt n m lk lc0 lc1 lc2 dk dc0 dc1 dc2 ne fa xs i0 ys h0 ls0 ls1 ds0 ds1 (fun j => bs.getD j 0) i).t1), vF ne, vF fa]) bs e i hl hl2 (by omega) (by omega) (by omega) (by omega) hx hx2 b0 b1 b2 b3 (sub_fit (i := 0) hk (lB rfl)) lb wb (by omega) w3 (Row.congr r3 (sub_same (i := 0) hk (lB rfl) rfl)) r4 r5 (((re.ext m1).ext m2).mod m3 (nC ne4 (nC ne5 (nC ne6 (nC (lE (lL (lL (re.lt (by have eL : List.length bs = 16 := lb; rw [fl_length]; omega)) m1.size) lR)) nN))))) ne1 ne2 ne3 ne4 ne5 ne6)) rfl rfl (ltb rfl) ?_
    rintro _ w4 ⟨rfl, h1, h2, h3, h4, h5, h6, r7, r8, r9, m4⟩
    have r10 : Row w4 p 0 (splice vs k [vS b 0 n c, vI (((((jetAt n m lk lc0 lc1 lc2 dk dc0 dc1 dc2 ne fa xs i0 ys h0 ls0 ls1 ds0 ds1 (fun j => bs.getD j 0) i).i) + 1) % n : Nat) : Int), vS d 0 m c2, vI (((((jetAt n m lk lc0 lc1 lc2 dk dc0 dc1 dc2 ne fa xs i0 ys h0 ls0 ls1 ds0 ds1 (fun j => bs.getD j 0) i).h) + 1) % m : Nat) : Int), vI lk, vF lc0, vF lc1, vF lc2, vF (stepS lk lc0 lc1 lc2 ((jetAt n m lk lc0 lc1 lc2 dk dc0 dc1 dc2 ne fa xs i0 ys h0 ls0 ls1 ds0 ds1 (fun j => bs.getD j 0) i).s0) ((jetAt n m lk lc0 lc1 lc2 dk dc0 dc1 dc2 ne fa xs i0 ys h0 ls0 ls1 ds0 ds1 (fun j => bs.getD j 0) i).s1) (((jetAt n m lk lc0 lc1 lc2 dk dc0 dc1 dc2 ne fa xs i0 ys h0 ls0 ls1 ds0 ds1 (fun j => bs.getD j 0) i).ys).getD ((jetAt n m lk lc0 lc1 lc2 dk dc0 dc1 dc2 ne fa xs i0 ys h0 ls0 ls1 ds0 ds1 (fun j => bs.getD j 0) i).h) 0)), vF (stepT lk lc0 lc1 lc2 ((jetAt n m lk lc0 lc1 lc2 dk dc0 dc1 dc2 ne fa xs i0 ys h0 ls0 ls1 ds0 ds1 (fun j => bs.getD j 0) i).s0) ((jetAt n m lk lc0 lc1 lc2 dk dc0 dc1 dc2 ne fa xs i0 ys h0 ls0 ls1 ds0 ds1 (fun j => bs.getD j 0) i).s1) (((jetAt n m lk lc0 lc1 lc2 dk dc0 dc1 dc2 ne fa xs i0 ys h0 ls0 ls1 ds0 ds1 (fun j => bs.getD j 0) i).ys).getD ((jetAt n m lk lc0 lc1 lc2 dk dc0 dc1 dc2 ne fa xs i0 ys h0 ls0 ls1 ds0 ds1 (fun j => bs.getD j 0) i).h) 0)), vI dk, vF dc0, vF dc1, vF dc2, vF (stepS dk dc0 dc1 dc2 ((jetAt n m lk lc0 lc1 lc2 dk dc0 dc1 dc2 ne fa xs i0 ys h0 ls0 ls1 ds0 ds1 (fun j => bs.getD j 0) i).t0) ((jetAt n m lk lc0 lc1 lc2 dk dc0 dc1 dc2 ne fa xs i0 ys h0 ls0 ls1 ds0 ds1 (fun j => bs.getD j 0) i).t1) (stepY lk lc0 lc1 lc2 ((jetAt n m lk lc0 lc1 lc2 dk dc0 dc1 dc2 ne fa xs i0 ys h0 ls0 ls1 ds0 ds1 (fun j => bs.getD j 0) i).s0) ((jetAt n m lk lc0 lc1 lc2 dk dc0 dc1 dc2 ne fa xs i0 ys h0 ls0 ls1 ds0 ds1 (fun j => bs.getD j 0) i).s1) (((jetAt n m lk lc0 lc1 lc2 dk dc0 dc1 dc2 ne fa xs i0 ys h0 ls0 ls1 ds0 ds1 (fun j => bs.getD j 0) i).ys).getD ((jetAt n m lk lc0 lc1 lc2 dk dc0 dc1 dc2 ne fa xs i0 ys h0 ls0 ls1 ds0 ds1 (fun j => bs.getD j 0) i).h) 0))), vF (stepT dk dc0 dc1 dc2 ((jetAt n m lk lc0 lc1 lc2 dk dc0 dc1 dc2 ne fa xs i0 ys h0 ls0 ls1 ds0 ds1 (fun j => bs.getD j 0) i).t0) ((jetAt n m lk lc0 lc1 lc2 dk dc0 dc1 dc2 ne fa xs i0 ys h0 ls0 ls1 ds0 ds1 (fun j => bs.getD j 0) i).t1) (stepY lk lc0 lc1 lc2 ((jetAt n m lk lc0 lc1 lc2 dk dc0 dc1 dc2 ne fa xs i0 ys h0 ls0 ls1 ds0 ds1 (fun j => bs.getD j 0) i).s0) ((jetAt n m lk lc0 lc1 lc2 dk dc0 dc1 dc2 ne fa xs i0 ys h0 ls0 ls1 ds0 ds1 (fun j => bs.getD j 0) i).s1) (((jetAt n m lk lc0 lc1 lc2 dk dc0 dc1 dc2 ne fa xs i0 ys h0 ls0 ls1 ds0 ds1 (fun j => bs.getD j 0) i).ys).getD ((jetAt n m lk lc0 lc1 lc2 dk dc0 dc1 dc2 ne fa xs i0 ys h0 ls0 ls1 ds0 ds1 (fun j => bs.getD j 0) i).h) 0))), vF ne, vF fa]) := Row.congr r7 (sub_put (i := 0) hk (lB rfl) rfl)
    refine WL.det (op_indexArr (off' := 0 + i) rfl rfl Try.runUnderlying82 Try.sizeOf25 (by omega) (by omega) (by omega)) rfl rfl rfl ?_
    refine WL.op0 (op_store (i := i) (cs := [vF (((jetAt n m lk lc0 lc1 lc2 dk dc0 dc1 dc2 ne fa xs i0 ys h0 ls0 ls1 ds0 ds1 (fun j => bs.getD j 0) i).ys).getD ((jetAt n m lk lc0 lc1 lc2 dk dc0 dc1 dc2 ne fa xs i0 ys h0 ls0 ls1 ds0 ds1 (fun j => bs.getD j 0) i).h) 0)]) rfl rfl rfl Try.sizeOf25 rfl (r6.mod m4 (nC (lG (lL (lL q.lt m1.size) lR)) (nC (lG (lL (lL r.lt m1.size) lR)) (nC (lG (lL (lL ry.lt m1.size) lR)) nN)))) rfl (by rw [fl_length]; have eL : List.length (over (jetOut n m lk lc0 lc1 lc2 dk dc0 dc1 dc2 ne fa xs i0 ys h0 ls0 ls1 ds0 ds1 (fun j => bs.getD j 0)) (List.replicate 16 0) i) = 16 := (over_len List.length_replicate (by omega)); omega) rfl) rfl rfl ?_
    rintro _ w5 ⟨r11, m5, z3⟩
    have r12 : Row w5 w1.heap.size 0 (fl ((over (jetOut n m lk lc0 lc1 lc2 dk dc0 dc1 dc2 ne fa xs i0 ys h0 ls0 ls1 ds0 ds1 (fun j => bs.getD j 0)) (List.replicate 16 0) i).set i (((jetAt n m lk lc0 lc1 lc2 dk dc0 dc1 dc2 ne fa xs i0 ys h0 ls0 ls1 ds0 ds1 (fun j => bs.getD j 0) i).ys).getD ((jetAt n m lk lc0 lc1 lc2 dk dc0 dc1 dc2 ne fa xs i0 ys h0 ls0 ls1 ds0 ds1 (fun j => bs.getD j 0) i).h) 0))) := Row.congr r11 (fl_splice (by have eL : List.length (over (jetOut n m lk lc0 lc1 lc2 dk dc0 dc1 dc2 ne fa xs i0 ys h0 ls0 ls1 ds0 ds1 (fun j => bs.getD j 0)) (List.replicate 16 0) i) = 16 := (over_len List.length_replicate (by omega)); omega))
    refine WL.end ?_
    refine NE.blk ?_
    refine NE.code ?_
    refine CE.region ?_
    refine WL.det (op_add (r := ((i + 1 : Nat) : Int)) rfl rfl (w_i64 (by omega) (by omega))) rfl rfl rfl ?_
    refine WL.det (op_move rfl) rfl rfl rfl ?_
    refine WL.end ?_
    exact NE.again (i + 1) (⟨rfl, rfl, rfl, rfl, trivial⟩) ⟨(by omega), (by rw [jetAt_succ]; exact Nat.mod_lt _ (by omega)), (by rw [jetAt_succ]; exact Nat.mod_lt _ (by omega)), (by rw [jetAt_succ]; exact (List.length_set).trans hl), (by rw [jetAt_succ]; exact (List.length_set).trans hl2), (by rw [jetAt_succ]; exact W32.set hx (by assumption)), (by rw [jetAt_succ]; exact W32.set hx2 (by assumption)), (by rw [jetAt_succ]; assumption), (by rw [jetAt_succ]; assumption), (by rw [jetAt_succ]; assumption), (by rw [jetAt_succ]; assumption), (Row.congr (r10.mod m5 (nC (lE (lL (lL q.lt m1.size) lR)) nN)) (by rw [jetAt_succ]; rfl)), (Row.congr (r8.mod m5 (nC (lE (lL (lL r.lt m1.size) lR)) nN)) (by rw [jetAt_succ]; rfl)), (Row.congr (r9.mod m5 (nC (lE (lL (lL ry.lt m1.size) lR)) nN)) (by rw [jetAt_succ]; rfl)), (Row.congr r12 (over_set List.length_replicate (by omega))), ((m3.then m4 ((aC (.inl (by simp)) (aC (.inl (by simp)) (aC (.inl (by simp)) aN))))).then m5 ((aC (.inl (by simp)) aN)))⟩ (by first | (dsimp only; omega) | omega)
  · have hp1 := hb1; try simp only [Bool.and_eq_true, Bool.or_eq_true, Bool.not_eq_true', Bool.not_eq_false', Bool.and_eq_false_iff, Bool.or_eq_false_iff, decide_eq_true_eq, decide_eq_false_iff_not, beq_iff_eq, bne_iff_ne, beq_eq_false_iff_ne, bne_eq_false_iff_eq, ne_eq, Bool.false_eq_true, not_false_eq_true, not_true_eq_false, vIn_t, vIn_f] at hp1
    refine CE.cond_f rfl hb1 ?_
    refine CE.exit' ?_
    refine XE.exit_then ?_
    refine XE.exit_then ?_
    refine XE.exit_here ?_
    refine NE.code ?_
    refine CE.seq ?_
    refine CE.region ?_
    refine WL.det (op_loadA (i := 0) (cs := fl (over (jetOut n m lk lc0 lc1 lc2 dk dc0 dc1 dc2 ne fa xs i0 ys h0 ls0 ls1 ds0 ds1 (fun j => bs.getD j 0)) (List.replicate 16 0) i)) rfl Try.isAgg82 Try.sizeOf82 r6.rng rfl (fl_whole (over_len List.length_replicate (by omega))) (fl_len (over_len List.length_replicate (by omega)))) rfl rfl rfl ?_
    refine WL.op0 (op_store (i := 0) (cs := fl (over (jetOut n m lk lc0 lc1 lc2 dk dc0 dc1 dc2 ne fa xs i0 ys h0 ls0 ls1 ds0 ds1 (fun j => bs.getD j 0)) (List.replicate 16 0) i)) rfl rfl rfl Try.sizeOf82 (fl_len (over_len List.length_replicate (by omega))) ((r1.ext m2).mod m3 (nC (lG (lL q.lt lR)) (nC (lG (lL r.lt lR)) (nC (lG (lL ry.lt lR)) (nC (lE (lL r1.lt lR)) nN))))) rfl (by rw [fl_length, List.length_replicate]; decide) (fl_one _)) rfl rfl ?_
    rintro _ w6 ⟨r13, m6, z4⟩
    have r14 : Row w6 w.heap.size 0 (fl (over (jetOut n m lk lc0 lc1 lc2 dk dc0 dc1 dc2 ne fa xs i0 ys h0 ls0 ls1 ds0 ds1 (fun j => bs.getD j 0)) (List.replicate 16 0) i)) := Row.congr r13 (splice_all ((fl_len (List.length_replicate)).trans (fl_len ((over_len List.length_replicate (by omega)))).symm))
    refine WL.end ?_
    refine NE.code ?_
    refine CE.ret' ?_
    refine XE.leaveC Try.results86 (res_agg (cs := fl (over (jetOut n m lk lc0 lc1 lc2 dk dc0 dc1 dc2 ne fa xs i0 ys h0 ls0 ls1 ds0 ds1 (fun j => bs.getD j 0)) (List.replicate 16 0) i)) rfl Try.isAgg82 Try.sizeOf82 r14.rng (fl_len (over_len List.length_replicate (by omega))) res_nil) ?_
    refine ⟨?_, ?_, ?_, (Row.congr (r3.mod m6 (nC (lE (lL q.lt lR)) nN)) ?_), (Row.congr (r4.mod m6 (nC (lE (lL r.lt lR)) nN)) ?_), (Row.congr (r5.mod m6 (nC (lE (lL ry.lt lR)) nN)) ?_), (((((Mod.refl [p, b, d] w).nt m1).nt m2).then m3 ((aC (.inl (by simp)) (aC (.inl (by simp)) (aC (.inl (by simp)) (aC (.inr (lT m1.size lR)) aN)))))).then m6 ((aC (.inr lR) aN)))⟩
    all_goals first | assumption | (have e : i = 16 := (by omega); subst e; first | assumption | (rw [over_full _ List.length_replicate]; done) | rfl) | rfl

set_option maxRecDepth 100000 in
set_option maxHeartbeats 2000000 in
theorem c_sBlockJet (n : Nat) (c : Nat) (b : Nat) (xs : List Nat) (m : Nat) (c2 : Nat) (d : Nat) (ys : List Nat) (i0 : Nat) (h0 : Nat) (lk : Int) (lc0 : Nat) (lc1 : Nat) (lc2 : Nat) (ls0 : Nat) (ls1 : Nat) (dk : Int) (dc0 : Nat) (dc1 : Nat) (dc2 : Nat) (ds0 : Nat) (ds1 : Nat) (ne : Nat) (fa : Nat) (bs : List Nat) (z : JetSt) (ou : List Nat) (ln : xs.length = n) (lm : ys.length = m) (hi0 : i0 < n) (hh0 : h0 < m) (hn : n ≤ 1024) (hm : m ≤ 1024) (wx : W32 xs) (wy : W32 ys) (lls0 : ls0 < wid .f32) (lls1 : ls1 < wid .f32) (lds0 : ds0 < wid .f32) (lds1 : ds1 < wid .f32) (lb : bs.length = 16) (wb : W32 bs) (hze : z = (jetAt n m lk lc0 lc1 lc2 dk dc0 dc1 dc2 ne fa xs i0 ys h0 ls0 ls1 ds0 ds1 (fun j => bs.getD j 0) 16)) (hoe : ou = ((List.range 16).map (jetOut n m lk lc0 lc1 lc2 dk dc0 dc1 dc2 ne fa xs i0 ys h0 ls0 ls1 ds0 ds1 (fun j => bs.getD j 0)))) (hv : vJet n ((i0 : Nat) : Int) m ((h0 : Nat) : Int) xs ys lk lc0 lc1 lc2 ls0 ls1 dk dc0 dc1 dc2 ds0 ds1 ne fa = true) (w : World) (r : Rng w b 0 (fl xs)) (ry : Rng w d 0 (fl ys)) : Cl Try.prog 48 #[.agg #[vS b 0 n c, vI ((i0 : Nat) : Int), vS d 0 m c2, vI ((h0 : Nat) : Int), vI lk, vF lc0, vF lc1, vF lc2, vF ls0, vF ls1, vI dk, vF dc0, vF dc1, vF dc2, vF ds0, vF ds1, vF ne, vF fa], .agg (fl bs).toArray] w fun v w' => ∃ (b' : Nat) (c' : Nat) (d' : Nat) (c2' : Nat), v = .tuple #[.agg #[vS b' 0 n c', vI ((z.i : Nat) : Int), vS d' 0 m c2', vI ((z.h : Nat) : Int), vI lk, vF lc0, vF lc1, vF lc2, vF z.s0, vF z.s1, vI dk, vF dc0, vF dc1, vF dc2, vF z.t0, vF z.t1, vF ne, vF fa], .agg (fl ou).toArray, vI 0] ∧ (z.xs.length = n) ∧ (z.ys.length = m) ∧ (ou.length = 16) ∧ Row w' b' 0 (fl z.xs) ∧ Row w' d' 0 (fl z.ys) ∧ w.heap.size ≤ b' ∧ w.heap.size ≤ d' ∧ b' ≠ d' ∧ Mod [] w w' := by
  refine Cl.of Try.func48 Try.ntmps48 rfl rfl (ρ := [(0, .agg #[vS b 0 n c, vI ((i0 : Nat) : Int), vS d 0 m c2, vI ((h0 : Nat) : Int), vI lk, vF lc0, vF lc1, vF lc2, vF ls0, vF ls1, vI dk, vF dc0, vF dc1, vF dc2, vF ds0, vF ds1, vF ne, vF fa]), (1, .agg (fl bs).toArray)]) rfl ?_
  refine CE.seq ?_
  refine CE.region ?_
  refine WL.op (op_box (cs := [vS b 0 n c, vI ((i0 : Nat) : Int), vS d 0 m c2, vI ((h0 : Nat) : Int), vI lk, vF lc0, vF lc1, vF lc2, vF ls0, vF ls1, vI dk, vF dc0, vF dc1, vF dc2, vF ds0, vF ds1, vF ne, vF fa]) rfl rfl) rfl rfl (ltb rfl) ?_
  rintro _ w1 ⟨rfl, r1, m1, z1⟩
  refine WL.op (op_box (cs := fl bs) rfl rfl) rfl rfl (ltb rfl) ?_
  rintro _ w2 ⟨rfl, r2, m2, z2⟩
  refine WL.op (op_alloc (cs := [.slice none 0 0, vI 0, .slice none 0 0, vI 0, vI 0, vF 0, vF 0, vF 0, vF 0, vF 0, vI 0, vF 0, vF 0, vF 0, vF 0, vF 0, vF 0, vF 0]) Try.zeroValue61 rfl) rfl rfl (ltb rfl) ?_
  rintro _ w3 ⟨rfl, r3, m3, z3⟩
  refine WL.op (op_alloc (cs := fl (List.replicate 16 0)) Try.zeroValue82 rfl) rfl rfl (ltb rfl) ?_
  rintro _ w4 ⟨rfl, r4, m4, z4⟩
  refine WL.det (op_assign rfl) rfl rfl rfl ?_
  refine WL.end ?_
  refine NE.code ?_
  refine CE.seq ?_
  refine CE.seq ?_
  refine CE.region ?_
  refine WL.call (oc_call (vs := [vP w.heap.size 0]) (cap := []) rfl rfl rfl Try.call78 (c_l05Jet n c b xs m c2 d ys ((i0 : Nat) : Int) ((h0 : Nat) : Int) lk lc0 lc1 lc2 ls0 ls1 dk dc0 dc1 dc2 ds0 ds1 ne fa w.heap.size 0 [vS b 0 n c, vI ((i0 : Nat) : Int), vS d 0 m c2, vI ((h0 : Nat) : Int), vI lk, vF lc0, vF lc1, vF lc2, vF ls0, vF ls1, vI dk, vF dc0, vF dc1, vF dc2, vF ds0, vF ds1, vF ne, vF fa] ln lm (by omega) (by omega) (lB rfl) w4 (Row.congr (((r1.ext m2).ext m3).ext m4) rfl).rng ((((r.ext m1).ext m2).ext m3).ext m4) ((((ry.ext m1).ext m2).ext m3).ext m4))) rfl rfl (ltb rfl) ?_
  rintro _ w5 ⟨rfl, m5⟩
  refine WL.det (op_not rfl) rfl rfl rfl ?_
  refine WL.end ?_
  refine NE.code ?_
  refine CE.cond_f rfl (bnot_t hv) ?_
  refine CE.skip' ?_
  refine NE.code ?_
  refine CE.seq ?_
  refine CE.region ?_
  refine WL.call (oc_call (vs := [vP w.heap.size 0]) (cap := []) rfl rfl rfl Try.call79 (c_copyJet n c b xs m c2 d ys ((i0 : Nat) : Int) ((h0 : Nat) : Int) lk lc0 lc1 lc2 ls0 ls1 dk dc0 dc1 dc2 ds0 ds1 ne fa w.heap.size 0 [vS b 0 n c, vI ((i0 : Nat) : Int), vS d 0 m c2, vI ((h0 : Nat) : Int), vI lk, vF lc0, vF lc1, vF lc2, vF ls0, vF ls1, vI dk, vF dc0, vF dc1, vF dc2, vF ds0, vF ds1, vF ne, vF fa] ln lm (by omega) (by omega) (by omega) (by omega) (lB rfl) w5 (Row.congr ((((r1.ext m2).ext m3).ext m4).ext m5) rfl).rng (((((r.ext m1).ext m2).ext m3).ext m4).ext m5) (((((ry.ext m1).ext m2).ext m3).ext m4).ext m5))) rfl rfl (ltb rfl) ?_
  rintro _ w6 ⟨b'1, c'1, d'1, c2'1, rfl, r5, r6, ge1, ge2, ne1, m6⟩
  refine WL.op (op_alloc (cs := [.slice none 0 0, vI 0, .slice none 0 0, vI 0, vI 0, vF 0, vF 0, vF 0, vF 0, vF 0, vI 0, vF 0, vF 0, vF 0, vF 0, vF 0, vF 0, vF 0]) Try.zeroValue61 rfl) rfl rfl (ltb rfl) ?_
  rintro _ w7 ⟨rfl, r7, m7, z5⟩
  refine WL.op0 (op_store (i := 0) (cs := [vS b'1 0 n c'1, vI ((i0 : Nat) : Int), vS d'1 0 m c2'1, vI ((h0 : Nat) : Int), vI lk, vF lc0, vF lc1, vF lc2, vF ls0, vF ls1, vI dk, vF dc0, vF dc1, vF dc2, vF ds0, vF ds1, vF ne, vF fa]) rfl rfl rfl Try.sizeOf61 rfl r7 rfl (lB rfl) rfl) rfl rfl ?_
  rintro _ w8 ⟨r8, m8, z6⟩
  have r9 : Row w8 w6.heap.size 0 [vS b'1 0 n c'1, vI ((i0 : Nat) : Int), vS d'1 0 m c2'1, vI ((h0 : Nat) : Int), vI lk, vF lc0, vF lc1, vF lc2, vF ls0, vF ls1, vI dk, vF dc0, vF dc1, vF dc2, vF ds0, vF ds1, vF ne, vF fa] := Row.congr r8 rfl
  refine WL.end ?_
  refine NE.code ?_
  refine CE.seq ?_
  refine CE.region ?_
  refine WL.det (op_build (qs := []) (cells := #[vF 0, vF 0, vF 0, vF 0, vF 0, vF 0, vF 0, vF 0, vF 0, vF 0, vF 0, vF 0, vF 0, vF 0, vF 0, vF 0]) rfl (by kernel_rfl)) rfl rfl rfl ?_
  refine WL.op (op_alloc (cs := fl (List.replicate 16 0)) Try.zeroValue82 rfl) rfl rfl (ltb rfl) ?_
  rintro _ w9 ⟨rfl, r10, m9, z7⟩
  refine WL.op0 (op_store (i := 0) (cs := fl (List.replicate 16 0)) rfl rfl rfl Try.sizeOf82 (fl_len List.length_replicate) r10 rfl (by rw [fl_length, List.length_replicate]; decide) (fl_one _)) rfl rfl ?_
  rintro _ w10 ⟨r11, m10, z8⟩
  have r12 : Row w10 w8.heap.size 0 (fl (List.replicate 16 0)) := Row.congr r11 (splice_all ((fl_len (List.length_replicate)).trans (fl_len (List.length_replicate)).symm))
  refine WL.end ?_
  refine NE.code ?_
  refine CE.seq ?_
  refine CE.seq ?_
  refine CE.region ?_
  refine WL.det (op_assign rfl) rfl rfl rfl ?_
  refine WL.end ?_
  refine NE.code ?_
  refine CE.block ?_
  refine CE.loop (fun (i : Nat) => [(9, vI ((i : Nat) : Int)), (3, vP w1.heap.size 0), (4, vP w2.heap.size 0), (5, vP w3.heap.size 0), (6, vI 0), (7, vP w6.heap.size 0), (8, vP w8.heap.size 0)]) (fun (i : Nat) => fun W => (i ≤ 16) ∧ ((jetAt n m lk lc0 lc1 lc2 dk dc0 dc1 dc2 ne fa xs i0 ys h0 ls0 ls1 ds0 ds1 (fun j => bs.getD j 0) i).i < n) ∧ ((jetAt n m lk lc0 lc1 lc2 dk dc0 dc1 dc2 ne fa xs i0 ys h0 ls0 ls1 ds0 ds1 (fun j => bs.getD j 0) i).h < m) ∧ ((jetAt n m lk lc0 lc1 lc2 dk dc0 dc1 dc2 ne fa xs i0 ys h0 ls0 ls1 ds0 ds1 (fun j => bs.getD j 0) i).xs.length = n) ∧ ((jetAt n m lk lc0 lc1 lc2 dk dc0 dc1 dc2 ne fa xs i0 ys h0 ls0 ls1 ds0 ds1 (fun j => bs.getD j 0) i).ys.length = m) ∧ (W32 (jetAt n m lk lc0 lc1 lc2 dk dc0 dc1 dc2 ne fa xs i0 ys h0 ls0 ls1 ds0 ds1 (fun j => bs.getD j 0) i).xs) ∧ (W32 (jetAt n m lk lc0 lc1 lc2 dk dc0 dc1 dc2 ne fa xs i0 ys h0 ls0 ls1 ds0 ds1 (fun j => bs.getD j 0) i).ys) ∧ ((jetAt n m lk lc0 lc1 lc2 dk dc0 dc1 dc2 ne fa xs i0 ys h0 ls0 ls1 ds0 ds1 (fun j => bs.getD j 0) i).s0 < wid .f32) ∧ ((jetAt n m lk lc0 lc1 lc2 dk dc0 dc1 dc2 ne fa xs i0 ys h0 ls0 ls1 ds0 ds1 (fun j => bs.getD j 0) i).s1 < wid .f32) ∧ ((jetAt n m lk lc0 lc1 lc2 dk dc0 dc1 dc2 ne fa xs i0 ys h0 ls0 ls1 ds0 ds1 (fun j => bs.getD j 0) i).t0 < wid .f32) ∧ ((jetAt n m lk lc0 lc1 lc2 dk dc0 dc1 dc2 ne fa xs i0 ys h0 ls0 ls1 ds0 ds1 (fun j => bs.getD j 0) i).t1 < wid .f32) ∧ Row W w6.heap.size 0 [vS b'1 0 n c'1, vI (((jetAt n m lk lc0 lc1 lc2 dk dc0 dc1 dc2 ne fa xs i0 ys h0 ls0 ls1 ds0 ds1 (fun j => bs.getD j 0) i).i : Nat) : Int), vS d'1 0 m c2'1, vI (((jetAt n m lk lc0 lc1 lc2 dk dc0 dc1 dc2 ne fa xs i0 ys h0 ls0 ls1 ds0 ds1 (fun j => bs.getD j 0) i).h : Nat) : Int), vI lk, vF lc0, vF lc1, vF lc2, vF ((jetAt n m lk lc0 lc1 lc2 dk dc0 dc1 dc2 ne fa xs i0 ys h0 ls0 ls1 ds0 ds1 (fun j => bs.getD j 0) i).s0), vF ((jetAt n m lk lc0 lc1 lc2 dk dc0 dc1 dc2 ne fa xs i0 ys h0 ls0 ls1 ds0 ds1 (fun j => bs.getD j 0) i).s1), vI dk, vF dc0, vF dc1, vF dc2, vF ((jetAt n m lk lc0 lc1 lc2 dk dc0 dc1 dc2 ne fa xs i0 ys h0 ls0 ls1 ds0 ds1 (fun j => bs.getD j 0) i).t0), vF ((jetAt n m lk lc0 lc1 lc2 dk dc0 dc1 dc2 ne fa xs i0 ys h0 ls0 ls1 ds0 ds1 (fun j => bs.getD j 0) i).t1), vF ne, vF fa] ∧ Row W b'1 0 (fl ((jetAt n m lk lc0 lc1 lc2 dk dc0 dc1 dc2 ne fa xs i0 ys h0 ls0 ls1 ds0 ds1 (fun j => bs.getD j 0) i).xs)) ∧ Row W d'1 0 (fl ((jetAt n m lk lc0 lc1 lc2 dk dc0 dc1 dc2 ne fa xs i0 ys h0 ls0 ls1 ds0 ds1 (fun j => bs.getD j 0) i).ys)) ∧ Row W w8.heap.size 0 (fl (over (jetOut n m lk lc0 lc1 lc2 dk dc0 dc1 dc2 ne fa xs i0 ys h0 ls0 ls1 ds0 ds1 (fun j => bs.getD j 0)) (List.replicate 16 0) i)) ∧ Mod [w6.heap.size, b'1, d'1, w8.heap.size] w10 W) (fun (i : Nat) => 16 - i) 0 (⟨rfl, rfl, rfl, rfl, rfl, rfl, rfl, trivial⟩) ⟨(by omega), (by rw [jetAt_zero]; exact hi0), (by rw [jetAt_zero]; exact hh0), (by rw [jetAt_zero]; exact ln), (by rw [jetAt_zero]; exact lm), (by rw [jetAt_zero]; exact wx), (by rw [jetAt_zero]; exact wy), (by rw [jetAt_zero]; assumption), (by rw [jetAt_zero]; assumption), (by rw [jetAt_zero]; assumption), (by rw [jetAt_zero]; assumption), (Row.congr ((r9.ext m9).mod m10 (nC (lE (lL (lL r7.lt m8.size) lR)) nN)) (by rw [jetAt_zero])), (Row.congr ((((r5.ext m7).mod m8 (nC (lE (lL r5.lt lR)) nN)).ext m9).mod m10 (nC (lE (lL (lL r5.lt (lT m7.size m8.size)) lR)) nN)) (by rw [jetAt_zero])), (Row.congr ((((r6.ext m7).mod m8 (nC (lE (lL r6.lt lR)) nN)).ext m9).mod m10 (nC (lE (lL (lL r6.lt (lT m7.size m8.size)) lR)) nN)) (by rw [jetAt_zero])), (Row.congr r12 (over_zero _ _)), Mod.refl _ _⟩ ?_
  rintro i w11 ⟨hi, hz, hy, hl, hl2, hx, hx2, b0, b1, b2, b3, r13, r14, r15, r16, m11⟩
  show CE _ _ _ _ [(9, vI ((i : Nat) : Int)), (3, vP w1.heap.size 0), (4, vP w2.heap.size 0), (5, vP w3.heap.size 0), (6, vI 0), (7, vP w6.heap.size 0), (8, vP w8.heap.size 0)] _
  refine CE.seq ?_
  refine CE.seq ?_
  refine CE.region ?_
  refine WL.det (op_move rfl) rfl rfl rfl ?_
  refine WL.det (op_lti rfl rfl) rfl rfl rfl ?_
  refine WL.end ?_
  refine NE.code ?_
  rcases Bool.eq_false_or_eq_true (decide (((i : Nat) : Int) < (16 : Int))) with hb1 | hb1
  · have hp1 := hb1; try simp only [Bool.and_eq_true, Bool.or_eq_true, Bool.not_eq_true', Bool.not_eq_false', Bool.and_eq_false_iff, Bool.or_eq_false_iff, decide_eq_true_eq, decide_eq_false_iff_not, beq_iff_eq, bne_iff_ne, beq_eq_false_iff_ne, bne_eq_false_iff_eq, ne_eq, Bool.false_eq_true, not_false_eq_true, not_true_eq_false, vIn_t, vIn_f] at hp1
    refine CE.cond_t rfl hb1 ?_
    refine CE.skip' ?_
    refine NE.code ?_
    refine CE.seq ?_
    refine CE.block ?_
    refine CE.region ?_
    refine WL.det (op_move rfl) rfl rfl rfl ?_
    refine WL.det (op_move rfl) rfl rfl rfl ?_
    refine WL.det (op_indexArr (off' := 0 + i) rfl rfl Try.runUnderlying82 Try.sizeOf25 (by omega) (by omega) (by omega)) rfl rfl rfl ?_
    refine WL.det (op_load1 (i := i) rfl Try.isAgg25 (((((((((r2.ext m3).ext m4).ext m5).ext m6).ext m7).mod m8 (nC (lE (lL (lL r2.lt (lT (lT (lT m3.size m4.size) m5.size) m6.size)) lR)) nN)).ext m9).mod m10 (nC (lE (lL (lL r2.lt (lT (lT (lT (lT (lT m3.size m4.size) m5.size) m6.size) m7.size) m8.size)) lR)) nN)).mod m11 (nC (lE (lL (lL r2.lt (lT (lT (lT m3.size m4.size) m5.size) m6.size)) lR)) (nC (lE (lL (lL r2.lt (lT (lT m3.size m4.size) m5.size)) ge1)) (nC (lE (lL (lL r2.lt (lT (lT m3.size m4.size) m5.size)) ge2)) (nC (lE (lL (lL r2.lt (lT (lT (lT (lT (lT m3.size m4.size) m5.size) m6.size) m7.size) m8.size)) lR)) nN))))).rng rfl (fl_get (by have eL : List.length bs = 16 := lb; omega))) rfl rfl rfl ?_
    refine WL.call (oc_call (vs := [vP w6.heap.size 0, vF (bs.getD i 0)]) (cap := []) rfl rfl rfl Try.call80 (c_l05StepJ n c'1 b'1 ((jetAt n m lk lc0 lc1 lc2 dk dc0 dc1 dc2 ne fa xs i0 ys h0 ls0 ls1 ds0 ds1 (fun j => bs.getD j 0) i).xs) m c2'1 d'1 ((jetAt n m lk lc0 lc1 lc2 dk dc0 dc1 dc2 ne fa xs i0 ys h0 ls0 ls1 ds0 ds1 (fun j => bs.getD j 0) i).ys) ((jetAt n m lk lc0 lc1 lc2 dk dc0 dc1 dc2 ne fa xs i0 ys h0 ls0 ls1 ds0 ds1 (fun j => bs.getD j 0) i).i) ((jetAt n m lk lc0 lc1 lc2 dk dc0 dc1 dc2 ne fa xs i0 ys h0 ls0 ls1 ds0 ds1 (fun j => bs.getD j 0) i).h) lk lc0 lc1 lc2 ((jetAt n m lk lc0 lc1 lc2 dk dc0 dc1 dc2 ne fa xs i0 ys h0 ls0 ls1 ds0 ds1 (fun j => bs.getD j 0) i).s0) ((jetAt n m lk lc0 lc1 lc2 dk dc0 dc1 dc2 ne fa xs i0 ys h0 ls0 ls1 ds0 ds1 (fun j => bs.getD j 0) i).s1) dk dc0 dc1 dc2 ((jetAt n m lk lc0 lc1 lc2 dk dc0 dc1 dc2 ne fa xs i0 ys h0 ls0 ls1 ds0 ds1 (fun j => bs.getD j 0) i).t0) ((jetAt n m lk lc0 lc1 lc2 dk dc0 dc1 dc2 ne fa xs i0 ys h0 ls0 ls1 ds0 ds1 (fun j => bs.getD j 0) i).t1) ne fa w6.heap.size 0 [vS b'1 0 n c'1, vI (((jetAt n m lk lc0 lc1 lc2 dk dc0 dc1 dc2 ne fa xs i0 ys h0 ls0 ls1 ds0 ds1 (fun j => bs.getD j 0) i).i : Nat) : Int), vS d'1 0 m c2'1, vI (((jetAt n m lk lc0 lc1 lc2 dk dc0 dc1 dc2 ne fa xs i0 ys h0 ls0 ls1 ds0 ds1 (fun j => bs.getD j 0) i).h : Nat) : Int), vI lk, vF lc0, vF lc1, vF lc2, vF ((jetAt n m lk lc0 lc1 lc2 dk dc0 dc1 dc2 ne fa xs i0 ys h0 ls0 ls1 ds0 ds1 (fun j => bs.getD j 0) i).s0), vF ((jetAt n m lk lc0 lc1 lc2 dk dc0 dc1 dc2 ne fa xs i0 ys h0 ls0 ls1 ds0 ds1 (fun j => bs.getD j 0) i).s1), vI dk, vF dc0, vF dc1, vF dc2, vF ((jetAt n m lk lc0 lc1 lc2 dk dc0 dc1 dc2 ne fa xs i0 ys h0 ls0 ls1 ds0 ds1 (fun j => bs.getD j 0) i).t0), vF ((jetAt n m lk lc0 lc1 lc2 dk dc0 dc1 dc2 ne fa xs i0 ys h0 ls0 ls1 ds0 ds1 (fun j => bs.getD j 0) i).t1), vF ne, vF fa] (bs.getD i 0) (bs.getD i 0) hl hl2 (by omega) (by omega) (by omega) (by omega) b0 b1 b2 b3 (lB rfl) hx hx2 rfl (wb.get _) w11 (Row.congr r13 rfl) r14 r15 (lG (lL r5.lt lR)) (lG (lL r6.lt lR)) ne1)) rfl rfl (ltb rfl) ?_
    rintro _ w12 ⟨rfl, h1, h2, h3, h4, h5, h6, r17, r18, r19, m12⟩
    have r20 : Row w12 w6.heap.size 0 [vS b'1 0 n c'1, vI (((((jetAt n m lk lc0 lc1 lc2 dk dc0 dc1 dc2 ne fa xs i0 ys h0 ls0 ls1 ds0 ds1 (fun j => bs.getD j 0) i).i) + 1) % n : Nat) : Int), vS d'1 0 m c2'1, vI (((((jetAt n m lk lc0 lc1 lc2 dk dc0 dc1 dc2 ne fa xs i0 ys h0 ls0 ls1 ds0 ds1 (fun j => bs.getD j 0) i).h) + 1) % m : Nat) : Int), vI lk, vF lc0, vF lc1, vF lc2, vF (stepS lk lc0 lc1 lc2 ((jetAt n m lk lc0 lc1 lc2 dk dc0 dc1 dc2 ne fa xs i0 ys h0 ls0 ls1 ds0 ds1 (fun j => bs.getD j 0) i).s0) ((jetAt n m lk lc0 lc1 lc2 dk dc0 dc1 dc2 ne fa xs i0 ys h0 ls0 ls1 ds0 ds1 (fun j => bs.getD j 0) i).s1) (((jetAt n m lk lc0 lc1 lc2 dk dc0 dc1 dc2 ne fa xs i0 ys h0 ls0 ls1 ds0 ds1 (fun j => bs.getD j 0) i).ys).getD ((jetAt n m lk lc0 lc1 lc2 dk dc0 dc1 dc2 ne fa xs i0 ys h0 ls0 ls1 ds0 ds1 (fun j => bs.getD j 0) i).h) 0)), vF (stepT lk lc0 lc1 lc2 ((jetAt n m lk lc0 lc1 lc2 dk dc0 dc1 dc2 ne fa xs i0 ys h0 ls0 ls1 ds0 ds1 (fun j => bs.getD j 0) i).s0) ((jetAt n m lk lc0 lc1 lc2 dk dc0 dc1 dc2 ne fa xs i0 ys h0 ls0 ls1 ds0 ds1 (fun j => bs.getD j 0) i).s1) (((jetAt n m lk lc0 lc1 lc2 dk dc0 dc1 dc2 ne fa xs i0 ys h0 ls0 ls1 ds0 ds1 (fun j => bs.getD j 0) i).ys).getD ((jetAt n m lk lc0 lc1 lc2 dk dc0 dc1 dc2 ne fa xs i0 ys h0 ls0 ls1 ds0 ds1 (fun j => bs.getD j 0) i).h) 0)), vI dk, vF dc0, vF dc1, vF dc2, vF (stepS dk dc0 dc1 dc2 ((jetAt n m lk lc0 lc1 lc2 dk dc0 dc1 dc2 ne fa xs i0 ys h0 ls0 ls1 ds0 ds1 (fun j => bs.getD j 0) i).t0) ((jetAt n m lk lc0 lc1 lc2 dk dc0 dc1 dc2 ne fa xs i0 ys h0 ls0 ls1 ds0 ds1 (fun j => bs.getD j 0) i).t1) (stepY lk lc0 lc1 lc2 ((jetAt n m lk lc0 lc1 lc2 dk dc0 dc1 dc2 ne fa xs i0 ys h0 ls0 ls1 ds0 ds1 (fun j => bs.getD j 0) i).s0) ((jetAt n m lk lc0 lc1 lc2 dk dc0 dc1 dc2 ne fa xs i0 ys h0 ls0 ls1 ds0 ds1 (fun j => bs.getD j 0) i).s1) (((jetAt n m lk lc0 lc1 lc2 dk dc0 dc1 dc2 ne fa xs i0 ys h0 ls0 ls1 ds0 ds1 (fun j => bs.getD j 0) i).ys).getD ((jetAt n m lk lc0 lc1 lc2 dk dc0 dc1 dc2 ne fa xs i0 ys h0 ls0 ls1 ds0 ds1 (fun j => bs.getD j 0) i).h) 0))), vF (stepT dk dc0 dc1 dc2 ((jetAt n m lk lc0 lc1 lc2 dk dc0 dc1 dc2 ne fa xs i0 ys h0 ls0 ls1 ds0 ds1 (fun j => bs.getD j 0) i).t0) ((jetAt n m lk lc0 lc1 lc2 dk dc0 dc1 dc2 ne fa xs i0 ys h0 ls0 ls1 ds0 ds1 (fun j => bs.getD j 0) i).t1) (stepY lk lc0 lc1 lc2 ((jetAt n m lk lc0 lc1 lc2 dk dc0 dc1 dc2 ne fa xs i0 ys h0 ls0 ls1 ds0 ds1 (fun j => bs.getD j 0) i).s0) ((jetAt n m lk lc0 lc1 lc2 dk dc0 dc1 dc2 ne fa xs i0 ys h0 ls0 ls1 ds0 ds1 (fun j => bs.getD j 0) i).s1) (((jetAt n m lk lc0 lc1 lc2 dk dc0 dc1 dc2 ne fa xs i0 ys h0 ls0 ls1 ds0 ds1 (fun j => bs.getD j 0) i).ys).getD ((jetAt n m lk lc0 lc1 lc2 dk dc0 dc1 dc2 ne fa xs i0 ys h0 ls0 ls1 ds0 ds1 (fun j => bs.getD j 0) i).h) 0))), vF ne, vF fa] := r17
    refine WL.det (op_indexArr (off' := 0 + i) rfl rfl Try.runUnderlying82 Try.sizeOf25 (by omega) (by omega) (by omega)) rfl rfl rfl ?_
    refine WL.op0 (op_store (i := i) (cs := [vF (((jetAt n m lk lc0 lc1 lc2 dk dc0 dc1 dc2 ne fa xs i0 ys h0 ls0 ls1 ds0 ds1 (fun j => bs.getD j 0) i).ys).getD ((jetAt n m lk lc0 lc1 lc2 dk dc0 dc1 dc2 ne fa xs i0 ys h0 ls0 ls1 ds0 ds1 (fun j => bs.getD j 0) i).h) 0)]) rfl rfl rfl Try.sizeOf25 rfl (r16.mod m12 (nC (lG (lL (lL r7.lt m8.size) lR)) (nC (lG (lL (lL r5.lt (lT m7.size m8.size)) lR)) (nC (lG (lL (lL r6.lt (lT m7.size m8.size)) lR)) nN)))) rfl (by rw [fl_length]; have eL : List.length (over (jetOut n m lk lc0 lc1 lc2 dk dc0 dc1 dc2 ne fa xs i0 ys h0 ls0 ls1 ds0 ds1 (fun j => bs.getD j 0)) (List.replicate 16 0) i) = 16 := (over_len List.length_replicate (by omega)); omega) rfl) rfl rfl ?_
    rintro _ w13 ⟨r21, m13, z9⟩
    have r22 : Row w13 w8.heap.size 0 (fl ((over (jetOut n m lk lc0 lc1 lc2 dk dc0 dc1 dc2 ne fa xs i0 ys h0 ls0 ls1 ds0 ds1 (fun j => bs.getD j 0)) (List.replicate 16 0) i).set i (((jetAt n m lk lc0 lc1 lc2 dk dc0 dc1 dc2 ne fa xs i0 ys h0 ls0 ls1 ds0 ds1 (fun j => bs.getD j 0) i).ys).getD ((jetAt n m lk lc0 lc1 lc2 dk dc0 dc1 dc2 ne fa xs i0 ys h0 ls0 ls1 ds0 ds1 (fun j => bs.getD j 0) i).h) 0))) := Row.congr r21 (fl_splice (by have eL : List.length (over (jetOut n m lk lc0 lc1 lc2 dk dc0 dc1 dc2 ne fa xs i0 ys h0 ls0 ls1 ds0 ds1 (fun j => bs.getD j 0)) (List.replicate 16 0) i) = 16 := (over_len List.length_replicate (by omega)); omega))
    refine WL.end ?_
    refine NE.blk ?_
    refine NE.code ?_
    refine CE.region ?_
    refine WL.det (op_move rfl) rfl rfl rfl ?_
    refine WL.det (op_add (r := ((i + 1 : Nat) : Int)) rfl rfl (w_i64 (by omega) (by omega))) rfl rfl rfl ?_
    refine WL.det (op_assign rfl) rfl rfl rfl ?_
    refine WL.end ?_
    exact NE.again (i + 1) (⟨rfl, rfl, rfl, rfl, rfl, rfl, rfl, trivial⟩) ⟨(by omega), (by rw [jetAt_succ]; exact Nat.mod_lt _ (by omega)), (by rw [jetAt_succ]; exact Nat.mod_lt _ (by omega)), (by rw [jetAt_succ]; exact (List.length_set).trans hl), (by rw [jetAt_succ]; exact (List.length_set).trans hl2), (by rw [jetAt_succ]; exact W32.set hx (by assumption)), (by rw [jetAt_succ]; exact W32.set hx2 (by assumption)), (by rw [jetAt_succ]; assumption), (by rw [jetAt_succ]; assumption), (by rw [jetAt_succ]; assumption), (by rw [jetAt_succ]; assumption), (Row.congr (r20.mod m13 (nC (lE (lL (lL r7.lt m8.size) lR)) nN)) (by rw [jetAt_succ]; rfl)), (Row.congr (r18.mod m13 (nC (lE (lL (lL r5.lt (lT m7.size m8.size)) lR)) nN)) (by rw [jetAt_succ]; rfl)), (Row.congr (r19.mod m13 (nC (lE (lL (lL r6.lt (lT m7.size m8.size)) lR)) nN)) (by rw [jetAt_succ]; rfl)), (Row.congr r22 (over_set List.length_replicate (by omega))), ((m11.then m12 ((aC (.inl (by simp)) (aC (.inl (by simp)) (aC (.inl (by simp)) aN))))).then m13 ((aC (.inl (by simp)) aN)))⟩ (by first | (dsimp only; omega) | omega)
  · have hp1 := hb1; try simp only [Bool.and_eq_true, Bool.or_eq_true, Bool.not_eq_true', Bool.not_eq_false', Bool.and_eq_false_iff, Bool.or_eq_false_iff, decide_eq_true_eq, decide_eq_false_iff_not, beq_iff_eq, bne_iff_ne, beq_eq_false_iff_ne, bne_eq_false_iff_eq, ne_eq, Bool.false_eq_true, not_false_eq_true, not_true_eq_false, vIn_t, vIn_f] at hp1
    refine CE.cond_f rfl hb1 ?_
    refine CE.exit' ?_
    refine XE.exit_then ?_
    refine XE.exit_then ?_
    refine XE.exit_here ?_
    refine NE.code ?_
    refine CE.seq ?_
    refine CE.draw (fun _ => none) [0, 1, 2] [3, 4] [w2.heap.size] (by kernel_rfl) (by kernel_rfl) ?_
    have md1 : Mod [] w11 w11.drew := (Mod.refl _ _).drew
    generalize w11.drew = w14 at md1 ⊢
    refine DR.det (i := 0) rfl rfl (by kernel_rfl) (.free rfl) rfl rfl (fun wD mD => op_loadA (i := 0) (cs := [vS b'1 0 n c'1, vI (((jetAt n m lk lc0 lc1 lc2 dk dc0 dc1 dc2 ne fa xs i0 ys h0 ls0 ls1 ds0 ds1 (fun j => bs.getD j 0) i).i : Nat) : Int), vS d'1 0 m c2'1, vI (((jetAt n m lk lc0 lc1 lc2 dk dc0 dc1 dc2 ne fa xs i0 ys h0 ls0 ls1 ds0 ds1 (fun j => bs.getD j 0) i).h : Nat) : Int), vI lk, vF lc0, vF lc1, vF lc2, vF ((jetAt n m lk lc0 lc1 lc2 dk dc0 dc1 dc2 ne fa xs i0 ys h0 ls0 ls1 ds0 ds1 (fun j => bs.getD j 0) i).s0), vF ((jetAt n m lk lc0 lc1 lc2 dk dc0 dc1 dc2 ne fa xs i0 ys h0 ls0 ls1 ds0 ds1 (fun j => bs.getD j 0) i).s1), vI dk, vF dc0, vF dc1, vF dc2, vF ((jetAt n m lk lc0 lc1 lc2 dk dc0 dc1 dc2 ne fa xs i0 ys h0 ls0 ls1 ds0 ds1 (fun j => bs.getD j 0) i).t0), vF ((jetAt n m lk lc0 lc1 lc2 dk dc0 dc1 dc2 ne fa xs i0 ys h0 ls0 ls1 ds0 ds1 (fun j => bs.getD j 0) i).t1), vF ne, vF fa]) rfl Try.isAgg61 Try.sizeOf61 ((r13.ext md1).mod mD (nC (lG (lL (lL r3.lt (lT (lT m4.size m5.size) m6.size)) lR)) nN)).rng rfl rfl rfl) ?_
    refine DR.det (i := 1) rfl rfl (by kernel_rfl) (.free rfl) rfl rfl (fun wD mD => op_loadA (i := 0) (cs := fl (over (jetOut n m lk lc0 lc1 lc2 dk dc0 dc1 dc2 ne fa xs i0 ys h0 ls0 ls1 ds0 ds1 (fun j => bs.getD j 0)) (List.replicate 16 0) i)) rfl Try.isAgg82 Try.sizeOf82 ((r16.ext md1).mod mD (nC (lG (lL (lL r3.lt (lT (lT (lT (lT m4.size m5.size) m6.size) m7.size) m8.size)) lR)) nN)).rng rfl (fl_whole (over_len List.length_replicate (by omega))) (fl_len (over_len List.length_replicate (by omega)))) ?_
    refine DR.st1 (i := 2) rfl rfl (by kernel_rfl) (.free rfl) rfl ?_
    intro w15 m14
    refine Op1.mono (op_store (i := 0) (cs := [vS b'1 0 n c'1, vI (((jetAt n m lk lc0 lc1 lc2 dk dc0 dc1 dc2 ne fa xs i0 ys h0 ls0 ls1 ds0 ds1 (fun j => bs.getD j 0) i).i : Nat) : Int), vS d'1 0 m c2'1, vI (((jetAt n m lk lc0 lc1 lc2 dk dc0 dc1 dc2 ne fa xs i0 ys h0 ls0 ls1 ds0 ds1 (fun j => bs.getD j 0) i).h : Nat) : Int), vI lk, vF lc0, vF lc1, vF lc2, vF ((jetAt n m lk lc0 lc1 lc2 dk dc0 dc1 dc2 ne fa xs i0 ys h0 ls0 ls1 ds0 ds1 (fun j => bs.getD j 0) i).s0), vF ((jetAt n m lk lc0 lc1 lc2 dk dc0 dc1 dc2 ne fa xs i0 ys h0 ls0 ls1 ds0 ds1 (fun j => bs.getD j 0) i).s1), vI dk, vF dc0, vF dc1, vF dc2, vF ((jetAt n m lk lc0 lc1 lc2 dk dc0 dc1 dc2 ne fa xs i0 ys h0 ls0 ls1 ds0 ds1 (fun j => bs.getD j 0) i).t0), vF ((jetAt n m lk lc0 lc1 lc2 dk dc0 dc1 dc2 ne fa xs i0 ys h0 ls0 ls1 ds0 ds1 (fun j => bs.getD j 0) i).t1), vF ne, vF fa]) rfl rfl rfl Try.sizeOf61 rfl ((((((((((r3.ext m4).ext m5).ext m6).ext m7).mod m8 (nC (lE (lL (lL r3.lt (lT (lT m4.size m5.size) m6.size)) lR)) nN)).ext m9).mod m10 (nC (lE (lL (lL r3.lt (lT (lT (lT (lT m4.size m5.size) m6.size) m7.size) m8.size)) lR)) nN)).mod m11 (nC (lE (lL (lL r3.lt (lT (lT m4.size m5.size) m6.size)) lR)) (nC (lE (lL (lL r3.lt (lT m4.size m5.size)) ge1)) (nC (lE (lL (lL r3.lt (lT m4.size m5.size)) ge2)) (nC (lE (lL (lL r3.lt (lT (lT (lT (lT m4.size m5.size) m6.size) m7.size) m8.size)) lR)) nN))))).ext md1).ext m14) rfl (lB rfl) rfl) ?_
    rintro _ w16 ⟨r23, m15, z10⟩
    have r24 : Row w16 w2.heap.size 0 [vS b'1 0 n c'1, vI (((jetAt n m lk lc0 lc1 lc2 dk dc0 dc1 dc2 ne fa xs i0 ys h0 ls0 ls1 ds0 ds1 (fun j => bs.getD j 0) i).i : Nat) : Int), vS d'1 0 m c2'1, vI (((jetAt n m lk lc0 lc1 lc2 dk dc0 dc1 dc2 ne fa xs i0 ys h0 ls0 ls1 ds0 ds1 (fun j => bs.getD j 0) i).h : Nat) : Int), vI lk, vF lc0, vF lc1, vF lc2, vF ((jetAt n m lk lc0 lc1 lc2 dk dc0 dc1 dc2 ne fa xs i0 ys h0 ls0 ls1 ds0 ds1 (fun j => bs.getD j 0) i).s0), vF ((jetAt n m lk lc0 lc1 lc2 dk dc0 dc1 dc2 ne fa xs i0 ys h0 ls0 ls1 ds0 ds1 (fun j => bs.getD j 0) i).s1), vI dk, vF dc0, vF dc1, vF dc2, vF ((jetAt n m lk lc0 lc1 lc2 dk dc0 dc1 dc2 ne fa xs i0 ys h0 ls0 ls1 ds0 ds1 (fun j => bs.getD j 0) i).t0), vF ((jetAt n m lk lc0 lc1 lc2 dk dc0 dc1 dc2 ne fa xs i0 ys h0 ls0 ls1 ds0 ds1 (fun j => bs.getD j 0) i).t1), vF ne, vF fa] := Row.congr r23 rfl
    refine ⟨(((Mod.refl [w2.heap.size] w14).nt m14).then m15 ((aC (.inl (by simp)) aN))), ?_⟩
    refine DR.done rfl ?_
    intro w17 m16
    refine WO.op0 rfl (.free rfl) rfl (op_store (i := 0) (cs := fl (over (jetOut n m lk lc0 lc1 lc2 dk dc0 dc1 dc2 ne fa xs i0 ys h0 ls0 ls1 ds0 ds1 (fun j => bs.getD j 0)) (List.replicate 16 0) i)) rfl rfl rfl Try.sizeOf82 (fl_len (over_len List.length_replicate (by omega))) (((((((((((r4.ext m5).ext m6).ext m7).mod m8 (nC (lE (lL (lL r4.lt (lT m5.size m6.size)) lR)) nN)).ext m9).mod m10 (nC (lE (lL (lL r4.lt (lT (lT (lT m5.size m6.size) m7.size) m8.size)) lR)) nN)).mod m11 (nC (lE (lL (lL r4.lt (lT m5.size m6.size)) lR)) (nC (lE (lL (lL r4.lt m5.size) ge1)) (nC (lE (lL (lL r4.lt m5.size) ge2)) (nC (lE (lL (lL r4.lt (lT (lT (lT m5.size m6.size) m7.size) m8.size)) lR)) nN))))).ext md1).ext m14).mod m15 (nC (lG (lL r3.lt lR)) nN)).ext m16) rfl (by rw [fl_length, List.length_replicate]; decide) (fl_one _)) ?_
    rintro _ w18 ⟨r25, m17, z11⟩
    have r26 : Row w18 w3.heap.size 0 (fl (over (jetOut n m lk lc0 lc1 lc2 dk dc0 dc1 dc2 ne fa xs i0 ys h0 ls0 ls1 ds0 ds1 (fun j => bs.getD j 0)) (List.replicate 16 0) i)) := Row.congr r25 (splice_all ((fl_len (List.length_replicate)).trans (fl_len ((over_len List.length_replicate (by omega)))).symm))
    refine WO.det (op_assign rfl) rfl (.free rfl) rfl rfl ?_
    refine WO.end ?_
    refine NE.code ?_
    refine CE.ret' ?_
    refine XE.leaveT Try.results48 (res_agg (cs := [vS b'1 0 n c'1, vI (((jetAt n m lk lc0 lc1 lc2 dk dc0 dc1 dc2 ne fa xs i0 ys h0 ls0 ls1 ds0 ds1 (fun j => bs.getD j 0) i).i : Nat) : Int), vS d'1 0 m c2'1, vI (((jetAt n m lk lc0 lc1 lc2 dk dc0 dc1 dc2 ne fa xs i0 ys h0 ls0 ls1 ds0 ds1 (fun j => bs.getD j 0) i).h : Nat) : Int), vI lk, vF lc0, vF lc1, vF lc2, vF ((jetAt n m lk lc0 lc1 lc2 dk dc0 dc1 dc2 ne fa xs i0 ys h0 ls0 ls1 ds0 ds1 (fun j => bs.getD j 0) i).s0), vF ((jetAt n m lk lc0 lc1 lc2 dk dc0 dc1 dc2 ne fa xs i0 ys h0 ls0 ls1 ds0 ds1 (fun j => bs.getD j 0) i).s1), vI dk, vF dc0, vF dc1, vF dc2, vF ((jetAt n m lk lc0 lc1 lc2 dk dc0 dc1 dc2 ne fa xs i0 ys h0 ls0 ls1 ds0 ds1 (fun j => bs.getD j 0) i).t0), vF ((jetAt n m lk lc0 lc1 lc2 dk dc0 dc1 dc2 ne fa xs i0 ys h0 ls0 ls1 ds0 ds1 (fun j => bs.getD j 0) i).t1), vF ne, vF fa]) rfl Try.isAgg61 Try.sizeOf61 ((r24.ext m16).mod m17 (nC (lE (lL r3.lt lR)) nN)).rng rfl (res_agg (cs := fl (over (jetOut n m lk lc0 lc1 lc2 dk dc0 dc1 dc2 ne fa xs i0 ys h0 ls0 ls1 ds0 ds1 (fun j => bs.getD j 0)) (List.replicate 16 0) i)) rfl Try.isAgg82 Try.sizeOf82 r26.rng (fl_len (over_len List.length_replicate (by omega))) (res_tmp rfl res_nil))) ?_
    refine ⟨b'1, c'1, d'1, c2'1, ?_, ?_, ?_, ?_, (Row.congr (((((r14.ext md1).ext m14).mod m15 (nC (lG (lL (lL r3.lt (lT m4.size m5.size)) ge1)) nN)).ext m16).mod m17 (nC (lG (lL (lL r4.lt m5.size) ge1)) nN)) ?_), (Row.congr (((((r15.ext md1).ext m14).mod m15 (nC (lG (lL (lL r3.lt (lT m4.size m5.size)) ge2)) nN)).ext m16).mod m17 (nC (lG (lL (lL r4.lt m5.size) ge2)) nN)) ?_), (lT (lT (lT (lT (lT m1.size m2.size) m3.size) m4.size) m5.size) ge1), (lT (lT (lT (lT (lT m1.size m2.size) m3.size) m4.size) m5.size) ge2), ne1, (((((((((((((((((Mod.refl [] w).nt m1).nt m2).nt m3).nt m4).nt m5).nt m6).nt m7).then m8 ((aC (.inr (lT (lT (lT (lT (lT (lT m1.size m2.size) m3.size) m4.size) m5.size) m6.size) lR)) aN))).nt m9).then m10 ((aC (.inr (lT (lT (lT (lT (lT (lT (lT (lT m1.size m2.size) m3.size) m4.size) m5.size) m6.size) m7.size) m8.size) lR)) aN))).then m11 ((aC (.inr (lT (lT (lT (lT (lT (lT m1.size m2.size) m3.size) m4.size) m5.size) m6.size) lR)) (aC (.inr (lT (lT (lT (lT (lT m1.size m2.size) m3.size) m4.size) m5.size) ge1)) (aC (.inr (lT (lT (lT (lT (lT m1.size m2.size) m3.size) m4.size) m5.size) ge2)) (aC (.inr (lT (lT (lT (lT (lT (lT (lT (lT m1.size m2.size) m3.size) m4.size) m5.size) m6.size) m7.size) m8.size) lR)) aN)))))).nt md1).nt m14).then m15 ((aC (.inr (lT (lT m1.size m2.size) lR)) aN))).nt m16).then m17 ((aC (.inr (lT (lT (lT m1.size m2.size) m3.size) lR)) aN)))⟩
    all_goals subst hze
    all_goals subst hoe
    all_goals first | assumption | (have e : i = 16 := (by omega); subst e; first | assumption | (rw [over_full _ List.length_replicate]; done) | rfl) | rfl | exact over_done_len

set_option maxRecDepth 100000 in
set_option maxHeartbeats 2000000 in
theorem c_sBlockJet_bad (n : Nat) (c : Nat) (b : Nat) (xs : List Nat) (m : Nat) (c2 : Nat) (d : Nat) (ys : List Nat) (j : Int) (jj : Int) (lk : Int) (lc0 : Nat) (lc1 : Nat) (lc2 : Nat) (ls0 : Nat) (ls1 : Nat) (dk : Int) (dc0 : Nat) (dc1 : Nat) (dc2 : Nat) (ds0 : Nat) (ds1 : Nat) (ne : Nat) (fa : Nat) (bs : List Nat) (ln : xs.length = n) (lm : ys.length = m) (hn : n ≤ 1048576) (hm : m ≤ 1048576) (lls0 : ls0 < wid .f32) (lls1 : ls1 < wid .f32) (lds0 : ds0 < wid .f32) (lds1 : ds1 < wid .f32) (lb : bs.length = 16) (wb : W32 bs) (hv : vJet n j m jj xs ys lk lc0 lc1 lc2 ls0 ls1 dk dc0 dc1 dc2 ds0 ds1 ne fa = false) (w : World) (r : Rng w b 0 (fl xs)) (ry : Rng w d 0 (fl ys)) : Cl Try.prog 48 #[.agg #[vS b 0 n c, vI j, vS d 0 m c2, vI jj, vI lk, vF lc0, vF lc1, vF lc2, vF ls0, vF ls1, vI dk, vF dc0, vF dc1, vF dc2, vF ds0, vF ds1, vF ne, vF fa], .agg (fl bs).toArray] w fun v w' => v = .tuple #[.agg #[.slice none 0 0, vI 0, .slice none 0 0, vI 0, vI 0, vF 0, vF 0, vF 0, vF 0, vF 0, vI 0, vF 0, vF 0, vF 0, vF 0, vF 0, vF 0, vF 0], .agg (fl (List.replicate 16 0)).toArray, vI 1] ∧ Mod [] w w' := by
  refine Cl.of Try.func48 Try.ntmps48 rfl rfl (ρ := [(0, .agg #[vS b 0 n c, vI j, vS d 0 m c2, vI jj, vI lk, vF lc0, vF lc1, vF lc2, vF ls0, vF ls1, vI dk, vF dc0, vF dc1, vF dc2, vF ds0, vF ds1, vF ne, vF fa]), (1, .agg (fl bs).toArray)]) rfl ?_
  refine CE.seq ?_
  refine CE.region ?_
  refine WL.op (op_box (cs := [vS b 0 n c, vI j, vS d 0 m c2, vI jj, vI lk, vF lc0, vF lc1, vF lc2, vF ls0, vF ls1, vI dk, vF dc0, vF dc1, vF dc2, vF ds0, vF ds1, vF ne, vF fa]) rfl rfl) rfl rfl (ltb rfl) ?_
  rintro _ w1 ⟨rfl, r1, m1, z1⟩
  refine WL.op (op_box (cs := fl bs) rfl rfl) rfl rfl (ltb rfl) ?_
  rintro _ w2 ⟨rfl, r2, m2, z2⟩
  refine WL.op (op_alloc (cs := [.slice none 0 0, vI 0, .slice none 0 0, vI 0, vI 0, vF 0, vF 0, vF 0, vF 0, vF 0, vI 0, vF 0, vF 0, vF 0, vF 0, vF 0, vF 0, vF 0]) Try.zeroValue61 rfl) rfl rfl (ltb rfl) ?_
  rintro _ w3 ⟨rfl, r3, m3, z3⟩
  refine WL.op (op_alloc (cs := fl (List.replicate 16 0)) Try.zeroValue82 rfl) rfl rfl (ltb rfl) ?_
  rintro _ w4 ⟨rfl, r4, m4, z4⟩
  refine WL.det (op_assign rfl) rfl rfl rfl ?_
  refine WL.end ?_
  refine NE.code ?_
  refine CE.seq ?_
  refine CE.seq ?_
  refine CE.region ?_
  refine WL.call (oc_call (vs := [vP w.heap.size 0]) (cap := []) rfl rfl rfl Try.call78 (c_l05Jet n c b xs m c2 d ys j jj lk lc0 lc1 lc2 ls0 ls1 dk dc0 dc1 dc2 ds0 ds1 ne fa w.heap.size 0 [vS b 0 n c, vI j, vS d 0 m c2, vI jj, vI lk, vF lc0, vF lc1, vF lc2, vF ls0, vF ls1, vI dk, vF dc0, vF dc1, vF dc2, vF ds0, vF ds1, vF ne, vF fa] ln lm (by omega) (by omega) (lB rfl) w4 (Row.congr (((r1.ext m2).ext m3).ext m4) rfl).rng ((((r.ext m1).ext m2).ext m3).ext m4) ((((ry.ext m1).ext m2).ext m3).ext m4))) rfl rfl (ltb rfl) ?_
  rintro _ w5 ⟨rfl, m5⟩
  refine WL.det (op_not rfl) rfl rfl rfl ?_
  refine WL.end ?_
  refine NE.code ?_
  refine CE.cond_t rfl (bnot_f hv) ?_
  refine CE.seq ?_
  refine CE.region ?_
  refine WL.det (op_build (qs := []) (cells := #[.slice none 0 0, vI 0, .slice none 0 0, vI 0, vI 0, vF 0, vF 0, vF 0, vF 0, vF 0, vI 0, vF 0, vF 0, vF 0, vF 0, vF 0, vF 0, vF 0]) rfl (by kernel_rfl)) rfl rfl rfl ?_
  refine WL.det (op_build (qs := []) (cells := #[vF 0, vF 0, vF 0, vF 0, vF 0, vF 0, vF 0, vF 0, vF 0, vF 0, vF 0, vF 0, vF 0, vF 0, vF 0, vF 0]) rfl (by kernel_rfl)) rfl rfl rfl ?_
  refine WL.op0 (op_store (i := 0) (cs := [.slice none 0 0, vI 0, .slice none 0 0, vI 0, vI 0, vF 0, vF 0, vF 0, vF 0, vF 0, vI 0, vF 0, vF 0, vF 0, vF 0, vF 0, vF 0, vF 0]) rfl rfl rfl Try.sizeOf61 rfl ((r3.ext m4).ext m5) rfl (lB rfl) rfl) rfl rfl ?_
  rintro _ w6 ⟨r5, m6, z5⟩
  have r6 : Row w6 w2.heap.size 0 [.slice none 0 0, vI 0, .slice none 0 0, vI 0, vI 0, vF 0, vF 0, vF 0, vF 0, vF 0, vI 0, vF 0, vF 0, vF 0, vF 0, vF 0, vF 0, vF 0] := Row.congr r5 rfl
  refine WL.op0 (op_store (i := 0) (cs := fl (List.replicate 16 0)) rfl rfl rfl Try.sizeOf82 (fl_len List.length_replicate) ((r4.ext m5).mod m6 (nC (lG (lL r3.lt lR)) nN)) rfl (by rw [fl_length, List.length_replicate]; decide) (fl_one _)) rfl rfl ?_
  rintro _ w7 ⟨r7, m7, z6⟩
  have r8 : Row w7 w3.heap.size 0 (fl (List.replicate 16 0)) := Row.congr r7 (splice_all ((fl_len (List.length_replicate)).trans (fl_len (List.length_replicate)).symm))
  refine WL.det (op_assign rfl) rfl rfl rfl ?_
  refine WL.end ?_
  refine NE.code ?_
  refine CE.ret' ?_
  refine XE.ret_then ?_
  refine XE.leaveT Try.results48 (res_agg (cs := [.slice none 0 0, vI 0, .slice none 0 0, vI 0, vI 0, vF 0, vF 0, vF 0, vF 0, vF 0, vI 0, vF 0, vF 0, vF 0, vF 0, vF 0, vF 0, vF 0]) rfl Try.isAgg61 Try.sizeOf61 (r6.mod m7 (nC (lE (lL r3.lt lR)) nN)).rng rfl (res_agg (cs := fl (List.replicate 16 0)) rfl Try.isAgg82 Try.sizeOf82 r8.rng (fl_len List.length_replicate) (res_tmp rfl res_nil))) ?_
  refine ⟨rfl, ((((((((Mod.refl [] w).nt m1).nt m2).nt m3).nt m4).nt m5).then m6 ((aC (.inr (lT (lT m1.size m2.size) lR)) aN))).then m7 ((aC (.inr (lT (lT (lT m1.size m2.size) m3.size) lR)) aN)))⟩

set_option maxRecDepth 100000 in
set_option maxHeartbeats 2000000 in
theorem c_iBlockJet (n : Nat) (c : Nat) (b : Nat) (xs : List Nat) (m : Nat) (c2 : Nat) (d : Nat) (ys : List Nat) (i0 : Nat) (h0 : Nat) (lk : Int) (lc0 : Nat) (lc1 : Nat) (lc2 : Nat) (ls0 : Nat) (ls1 : Nat) (dk : Int) (dc0 : Nat) (dc1 : Nat) (dc2 : Nat) (ds0 : Nat) (ds1 : Nat) (ne : Nat) (fa : Nat) (bs : List Nat) (z : JetSt) (ou : List Nat) (ln : xs.length = n) (lm : ys.length = m) (hi0 : i0 < n) (hh0 : h0 < m) (hn : n ≤ 1024) (hm : m ≤ 1024) (wx : W32 xs) (wy : W32 ys) (lls0 : ls0 < wid .f32) (lls1 : ls1 < wid .f32) (lds0 : ds0 < wid .f32) (lds1 : ds1 < wid .f32) (lb : bs.length = 16) (wb : W32 bs) (hze : z = (jetAt n m lk lc0 lc1 lc2 dk dc0 dc1 dc2 ne fa xs i0 ys h0 ls0 ls1 ds0 ds1 (fun j => bs.getD j 0) 16)) (hoe : ou = ((List.range 16).map (jetOut n m lk lc0 lc1 lc2 dk dc0 dc1 dc2 ne fa xs i0 ys h0 ls0 ls1 ds0 ds1 (fun j => bs.getD j 0)))) (hv : vJet n ((i0 : Nat) : Int) m ((h0 : Nat) : Int) xs ys lk lc0 lc1 lc2 ls0 ls1 dk dc0 dc1 dc2 ds0 ds1 ne fa = true) (w : World) (r : Rng w b 0 (fl xs)) (ry : Rng w d 0 (fl ys)) : Cl Try.prog 50 #[.agg #[vS b 0 n c, vI ((i0 : Nat) : Int), vS d 0 m c2, vI ((h0 : Nat) : Int), vI lk, vF lc0, vF lc1, vF lc2, vF ls0, vF ls1, vI dk, vF dc0, vF dc1, vF dc2, vF ds0, vF ds1, vF ne, vF fa], .agg (fl bs).toArray] w fun v w' => ∃ (b' : Nat) (c' : Nat) (d' : Nat) (c2' : Nat), v = .tuple #[.agg #[vS b' 0 n c', vI ((z.i : Nat) : Int), vS d' 0 m c2', vI ((z.h : Nat) : Int), vI lk, vF lc0, vF lc1, vF lc2, vF z.s0, vF z.s1, vI dk, vF dc0, vF dc1, vF dc2, vF z.t0, vF z.t1, vF ne, vF fa], .agg (fl ou).toArray, vI 0] ∧ (z.xs.length = n) ∧ (z.ys.length = m) ∧ (ou.length = 16) ∧ Row w' b' 0 (fl z.xs) ∧ Row w' d' 0 (fl z.ys) ∧ w.heap.size ≤ b' ∧ w.heap.size ≤ d' ∧ b' ≠ d' ∧ Mod [] w w' := by
  refine Cl.of Try.func50 Try.ntmps50 rfl rfl (ρ := [(0, .agg #[vS b 0 n c, vI ((i0 : Nat) : Int), vS d 0 m c2, vI ((h0 : Nat) : Int), vI lk, vF lc0, vF lc1, vF lc2, vF ls0, vF ls1, vI dk, vF dc0, vF dc1, vF dc2, vF ds0, vF ds1, vF ne, vF fa]), (1, .agg (fl bs).toArray)]) rfl ?_
  refine CE.seq ?_
  refine CE.region ?_
  refine WL.op (op_box (cs := [vS b 0 n c, vI ((i0 : Nat) : Int), vS d 0 m c2, vI ((h0 : Nat) : Int), vI lk, vF lc0, vF lc1, vF lc2, vF ls0, vF ls1, vI dk, vF dc0, vF dc1, vF dc2, vF ds0, vF ds1, vF ne, vF fa]) rfl rfl) rfl rfl (ltb rfl) ?_
  rintro _ w1 ⟨rfl, r1, m1, z1⟩
  refine WL.op (op_box (cs := fl bs) rfl rfl) rfl rfl (ltb rfl) ?_
  rintro _ w2 ⟨rfl, r2, m2, z2⟩
  refine WL.op (op_alloc (cs := [.slice none 0 0, vI 0, .slice none 0 0, vI 0, vI 0, vF 0, vF 0, vF 0, vF 0, vF 0, vI 0, vF 0, vF 0, vF 0, vF 0, vF 0, vF 0, vF 0]) Try.zeroValue61 rfl) rfl rfl (ltb rfl) ?_
  rintro _ w3 ⟨rfl, r3, m3, z3⟩
  refine WL.op (op_alloc (cs := fl (List.replicate 16 0)) Try.zeroValue82 rfl) rfl rfl (ltb rfl) ?_
  rintro _ w4 ⟨rfl, r4, m4, z4⟩
  refine WL.det (op_assign rfl) rfl rfl rfl ?_
  refine WL.end ?_
  refine NE.code ?_
  refine CE.seq ?_
  refine CE.seq ?_
  refine CE.region ?_
  refine WL.det (op_loadA (i := 0) (cs := [vS b 0 n c, vI ((i0 : Nat) : Int), vS d 0 m c2, vI ((h0 : Nat) : Int), vI lk, vF lc0, vF lc1, vF lc2, vF ls0, vF ls1, vI dk, vF dc0, vF dc1, vF dc2, vF ds0, vF ds1, vF ne, vF fa]) rfl Try.isAgg61 Try.sizeOf61 (((r1.ext m2).ext m3).ext m4).rng rfl rfl rfl) rfl rfl rfl ?_
  refine WL.call (oc_call (vs := [.agg #[vS b 0 n c, vI ((i0 : Nat) : Int), vS d 0 m c2, vI ((h0 : Nat) : Int), vI lk, vF lc0, vF lc1, vF lc2, vF ls0, vF ls1, vI dk, vF dc0, vF dc1, vF dc2, vF ds0, vF ds1, vF ne, vF fa]]) (cap := []) rfl rfl rfl Try.call81 (c_ValidJet n c b xs m c2 d ys ((i0 : Nat) : Int) ((h0 : Nat) : Int) lk lc0 lc1 lc2 ls0 ls1 dk dc0 dc1 dc2 ds0 ds1 ne fa ln lm (by omega) (by omega) w4 ((((r.ext m1).ext m2).ext m3).ext m4) ((((ry.ext m1).ext m2).ext m3).ext m4))) rfl rfl (ltb rfl) ?_
  rintro _ w5 ⟨rfl, m5⟩
  refine WL.det (op_not rfl) rfl rfl rfl ?_
  refine WL.end ?_
  refine NE.code ?_
  refine CE.cond_f rfl (bnot_t hv) ?_
  refine CE.skip' ?_
  refine NE.code ?_
  refine CE.seq ?_
  refine CE.region ?_
  refine WL.det (op_loadA (i := 0) (cs := [vS b 0 n c, vI ((i0 : Nat) : Int), vS d 0 m c2, vI ((h0 : Nat) : Int), vI lk, vF lc0, vF lc1, vF lc2, vF ls0, vF ls1, vI dk, vF dc0, vF dc1, vF dc2, vF ds0, vF ds1, vF ne, vF fa]) rfl Try.isAgg61 Try.sizeOf61 ((((r1.ext m2).ext m3).ext m4).ext m5).rng rfl rfl rfl) rfl rfl rfl ?_
  refine WL.call (oc_call (vs := [.agg #[vS b 0 n c, vI ((i0 : Nat) : Int), vS d 0 m c2, vI ((h0 : Nat) : Int), vI lk, vF lc0, vF lc1, vF lc2, vF ls0, vF ls1, vI dk, vF dc0, vF dc1, vF dc2, vF ds0, vF ds1, vF ne, vF fa]]) (cap := []) rfl rfl rfl Try.call82 (c_cloneJet n c b xs m c2 d ys ((i0 : Nat) : Int) ((h0 : Nat) : Int) lk lc0 lc1 lc2 ls0 ls1 dk dc0 dc1 dc2 ds0 ds1 ne fa ln lm (by omega) (by omega) (by omega) (by omega) w5 (((((r.ext m1).ext m2).ext m3).ext m4).ext m5) (((((ry.ext m1).ext m2).ext m3).ext m4).ext m5))) rfl rfl (ltb rfl) ?_
  rintro _ w6 ⟨b'1, c'1, d'1, c2'1, rfl, r5, r6, ge1, ge2, ne1, m6⟩
  refine WL.op0 (op_store (i := 0) (cs := [vS b'1 0 n c'1, vI ((i0 : Nat) : Int), vS d'1 0 m c2'1, vI ((h0 : Nat) : Int), vI lk, vF lc0, vF lc1, vF lc2, vF ls0, vF ls1, vI dk, vF dc0, vF dc1, vF dc2, vF ds0, vF ds1, vF ne, vF fa]) rfl rfl rfl Try.sizeOf61 rfl (((((r1.ext m2).ext m3).ext m4).ext m5).ext m6) rfl (lB rfl) rfl) rfl rfl ?_
  rintro _ w7 ⟨r7, m7, z5⟩
  have r8 : Row w7 w.heap.size 0 [vS b'1 0 n c'1, vI ((i0 : Nat) : Int), vS d'1 0 m c2'1, vI ((h0 : Nat) : Int), vI lk, vF lc0, vF lc1, vF lc2, vF ls0, vF ls1, vI dk, vF dc0, vF dc1, vF dc2, vF ds0, vF ds1, vF ne, vF fa] := Row.congr r7 rfl
  refine WL.end ?_
  refine NE.code ?_
  refine CE.seq ?_
  refine CE.region ?_
  refine WL.det (op_makeFunc (vs := []) (us := [vP w.heap.size 0, vP w1.heap.size 0]) rfl rfl) rfl rfl rfl ?_
  refine WL.call (oc_call (vs := [.func (.func 87) #[] #[vP w.heap.size 0, vP w1.heap.size 0]]) (cap := []) rfl rfl rfl Try.call86 (c_made_blockJet n c'1 b'1 xs m c2'1 d'1 ys i0 h0 lk lc0 lc1 lc2 ls0 ls1 dk dc0 dc1 dc2 ds0 ds1 ne fa w.heap.size 0 [vS b'1 0 n c'1, vI ((i0 : Nat) : Int), vS d'1 0 m c2'1, vI ((h0 : Nat) : Int), vI lk, vF lc0, vF lc1, vF lc2, vF ls0, vF ls1, vI dk, vF dc0, vF dc1, vF dc2, vF ds0, vF ds1, vF ne, vF fa] bs w1.heap.size ln lm (by omega) (by omega) (by omega) (by omega) (by first | assumption | exact W32.set (by assumption) (by first | assumption | exact wid_lt (by assumption)) | exact W32.zeros _ | exact W32.nil) (by first | assumption | exact W32.set (by assumption) (by first | assumption | exact wid_lt (by assumption)) | exact W32.zeros _ | exact W32.nil) lls0 lls1 lds0 lds1 (lB rfl) lb wb w7 (Row.congr r8 rfl) (r5.mod m7 (nC (lG (lL (lL r1.lt (lT (lT (lT m2.size m3.size) m4.size) m5.size)) ge1)) nN)) (r6.mod m7 (nC (lG (lL (lL r1.lt (lT (lT (lT m2.size m3.size) m4.size) m5.size)) ge2)) nN)) (((((r2.ext m3).ext m4).ext m5).ext m6).mod m7 (nC (lG (lL r1.lt lR)) nN)).rng (lE (lL (lL r1.lt (lT (lT (lT m2.size m3.size) m4.size) m5.size)) ge1)) (lE (lL (lL r1.lt (lT (lT (lT m2.size m3.size) m4.size) m5.size)) ge2)) ne1 (lG (lL r1.lt lR)) (lE (lL (lL r2.lt (lT (lT m3.size m4.size) m5.size)) ge1)) (lE (lL (lL r2.lt (lT (lT m3.size m4.size) m5.size)) ge2)))) rfl rfl (ltb rfl) ?_
  rintro _ w8 ⟨rfl, h1, h2, r9, r10, r11, m8⟩
  have r12 : Row w8 w.heap.size 0 [vS b'1 0 n c'1, vI (((jetAt n m lk lc0 lc1 lc2 dk dc0 dc1 dc2 ne fa xs i0 ys h0 ls0 ls1 ds0 ds1 (fun j => bs.getD j 0) 16).i : Nat) : Int), vS d'1 0 m c2'1, vI (((jetAt n m lk lc0 lc1 lc2 dk dc0 dc1 dc2 ne fa xs i0 ys h0 ls0 ls1 ds0 ds1 (fun j => bs.getD j 0) 16).h : Nat) : Int), vI lk, vF lc0, vF lc1, vF lc2, vF ((jetAt n m lk lc0 lc1 lc2 dk dc0 dc1 dc2 ne fa xs i0 ys h0 ls0 ls1 ds0 ds1 (fun j => bs.getD j 0) 16).s0), vF ((jetAt n m lk lc0 lc1 lc2 dk dc0 dc1 dc2 ne fa xs i0 ys h0 ls0 ls1 ds0 ds1 (fun j => bs.getD j 0) 16).s1), vI dk, vF dc0, vF dc1, vF dc2, vF ((jetAt n m lk lc0 lc1 lc2 dk dc0 dc1 dc2 ne fa xs i0 ys h0 ls0 ls1 ds0 ds1 (fun j => bs.getD j 0) 16).t0), vF ((jetAt n m lk lc0 lc1 lc2 dk dc0 dc1 dc2 ne fa xs i0 ys h0 ls0 ls1 ds0 ds1 (fun j => bs.getD j 0) 16).t1), vF ne, vF fa] := r9
  refine WL.op (op_alloc (cs := fl (List.replicate 16 0)) Try.zeroValue82 rfl) rfl rfl (ltb rfl) ?_
  rintro _ w9 ⟨rfl, r13, m9, z6⟩
  refine WL.op0 (op_store (i := 0) (cs := fl ((List.range 16).map (jetOut n m lk lc0 lc1 lc2 dk dc0 dc1 dc2 ne fa xs i0 ys h0 ls0 ls1 ds0 ds1 (fun j => bs.getD j 0)))) rfl rfl rfl Try.sizeOf82 (fl_len over_done_len) r13 rfl (by rw [fl_length, List.length_replicate]; decide) (fl_one _)) rfl rfl ?_
  rintro _ w10 ⟨r14, m10, z7⟩
  have r15 : Row w10 w8.heap.size 0 (fl ((List.range 16).map (jetOut n m lk lc0 lc1 lc2 dk dc0 dc1 dc2 ne fa xs i0 ys h0 ls0 ls1 ds0 ds1 (fun j => bs.getD j 0)))) := Row.congr r14 (splice_all ((fl_len (List.length_replicate)).trans (fl_len (over_done_len)).symm))
  refine WL.end ?_
  refine NE.code ?_
  refine CE.seq ?_
  refine CE.draw (fun _ => none) [0, 1, 2] [3, 4] [w2.heap.size] (by kernel_rfl) (by kernel_rfl) ?_
  have md1 : Mod [] w10 w10.drew := (Mod.refl _ _).drew
  generalize w10.drew = w11 at md1 ⊢
  refine DR.det (i := 0) rfl rfl (by kernel_rfl) (.free rfl) rfl rfl (fun wD mD => op_loadA (i := 0) (cs := [vS b'1 0 n c'1, vI (((jetAt n m lk lc0 lc1 lc2 dk dc0 dc1 dc2 ne fa xs i0 ys h0 ls0 ls1 ds0 ds1 (fun j => bs.getD j 0) 16).i : Nat) : Int), vS d'1 0 m c2'1, vI (((jetAt n m lk lc0 lc1 lc2 dk dc0 dc1 dc2 ne fa xs i0 ys h0 ls0 ls1 ds0 ds1 (fun j => bs.getD j 0) 16).h : Nat) : Int), vI lk, vF lc0, vF lc1, vF lc2, vF ((jetAt n m lk lc0 lc1 lc2 dk dc0 dc1 dc2 ne fa xs i0 ys h0 ls0 ls1 ds0 ds1 (fun j => bs.getD j 0) 16).s0), vF ((jetAt n m lk lc0 lc1 lc2 dk dc0 dc1 dc2 ne fa xs i0 ys h0 ls0 ls1 ds0 ds1 (fun j => bs.getD j 0) 16).s1), vI dk, vF dc0, vF dc1, vF dc2, vF ((jetAt n m lk lc0 lc1 lc2 dk dc0 dc1 dc2 ne fa xs i0 ys h0 ls0 ls1 ds0 ds1 (fun j => bs.getD j 0) 16).t0), vF ((jetAt n m lk lc0 lc1 lc2 dk dc0 dc1 dc2 ne fa xs i0 ys h0 ls0 ls1 ds0 ds1 (fun j => bs.getD j 0) 16).t1), vF ne, vF fa]) rfl Try.isAgg61 Try.sizeOf61 ((((r12.ext m9).mod m10 (nC (lE (lL (lL r1.lt (lT (lT (lT (lT (lT (lT m2.size m3.size) m4.size) m5.size) m6.size) m7.size) m8.size)) lR)) nN)).ext md1).mod mD (nC (lE (lL (lL r1.lt m2.size) lR)) nN)).rng rfl rfl rfl) ?_
  refine DR.det (i := 1) rfl rfl (by kernel_rfl) (.free rfl) rfl rfl (fun wD mD => op_loadA (i := 0) (cs := fl ((List.range 16).map (jetOut n m lk lc0 lc1 lc2 dk dc0 dc1 dc2 ne fa xs i0 ys h0 ls0 ls1 ds0 ds1 (fun j => bs.getD j 0)))) rfl Try.isAgg82 Try.sizeOf82 ((r15.ext md1).mod mD (nC (lG (lL (lL r3.lt (lT (lT (lT (lT m4.size m5.size) m6.size) m7.size) m8.size)) lR)) nN)).rng rfl (fl_whole over_done_len) (fl_len over_done_len)) ?_
  refine DR.st1 (i := 2) rfl rfl (by kernel_rfl) (.free rfl) rfl ?_
  intro w12 m11
  refine Op1.mono (op_store (i := 0) (cs := [vS b'1 0 n c'1, vI (((jetAt n m lk lc0 lc1 lc2 dk dc0 dc1 dc2 ne fa xs i0 ys h0 ls0 ls1 ds0 ds1 (fun j => bs.getD j 0) 16).i : Nat) : Int), vS d'1 0 m c2'1, vI (((jetAt n m lk lc0 lc1 lc2 dk dc0 dc1 dc2 ne fa xs i0 ys h0 ls0 ls1 ds0 ds1 (fun j => bs.getD j 0) 16).h : Nat) : Int), vI lk, vF lc0, vF lc1, vF lc2, vF ((jetAt n m lk lc0 lc1 lc2 dk dc0 dc1 dc2 ne fa xs i0 ys h0 ls0 ls1 ds0 ds1 (fun j => bs.getD j 0) 16).s0), vF ((jetAt n m lk lc0 lc1 lc2 dk dc0 dc1 dc2 ne fa xs i0 ys h0 ls0 ls1 ds0 ds1 (fun j => bs.getD j 0) 16).s1), vI dk, vF dc0, vF dc1, vF dc2, vF ((jetAt n m lk lc0 lc1 lc2 dk dc0 dc1 dc2 ne fa xs i0 ys h0 ls0 ls1 ds0 ds1 (fun j => bs.getD j 0) 16).t0), vF ((jetAt n m lk lc0 lc1 lc2 dk dc0 dc1 dc2 ne fa xs i0 ys h0 ls0 ls1 ds0 ds1 (fun j => bs.getD j 0) 16).t1), vF ne, vF fa]) rfl rfl rfl Try.sizeOf61 rfl (((((((((r3.ext m4).ext m5).ext m6).mod m7 (nC (lG (lL (lL r1.lt m2.size) lR)) nN)).mod m8 (nC (lG (lL (lL r1.lt m2.size) lR)) (nC (lE (lL (lL r3.lt (lT m4.size m5.size)) ge1)) (nC (lE (lL (lL r3.lt (lT m4.size m5.size)) ge2)) nN)))).ext m9).mod m10 (nC (lE (lL (lL r3.lt (lT (lT (lT (lT m4.size m5.size) m6.size) m7.size) m8.size)) lR)) nN)).ext md1).ext m11) rfl (lB rfl) rfl) ?_
  rintro _ w13 ⟨r16, m12, z8⟩
  have r17 : Row w13 w2.heap.size 0 [vS b'1 0 n c'1, vI (((jetAt n m lk lc0 lc1 lc2 dk dc0 dc1 dc2 ne fa xs i0 ys h0 ls0 ls1 ds0 ds1 (fun j => bs.getD j 0) 16).i : Nat) : Int), vS d'1 0 m c2'1, vI (((jetAt n m lk lc0 lc1 lc2 dk dc0 dc1 dc2 ne fa xs i0 ys h0 ls0 ls1 ds0 ds1 (fun j => bs.getD j 0) 16).h : Nat) : Int), vI lk, vF lc0, vF lc1, vF lc2, vF ((jetAt n m lk lc0 lc1 lc2 dk dc0 dc1 dc2 ne fa xs i0 ys h0 ls0 ls1 ds0 ds1 (fun j => bs.getD j 0) 16).s0), vF ((jetAt n m lk lc0 lc1 lc2 dk dc0 dc1 dc2 ne fa xs i0 ys h0 ls0 ls1 ds0 ds1 (fun j => bs.getD j 0) 16).s1), vI dk, vF dc0, vF dc1, vF dc2, vF ((jetAt n m lk lc0 lc1 lc2 dk dc0 dc1 dc2 ne fa xs i0 ys h0 ls0 ls1 ds0 ds1 (fun j => bs.getD j 0) 16).t0), vF ((jetAt n m lk lc0 lc1 lc2 dk dc0 dc1 dc2 ne fa xs i0 ys h0 ls0 ls1 ds0 ds1 (fun j => bs.getD j 0) 16).t1), vF ne, vF fa] := Row.congr r16 rfl
  refine ⟨(((Mod.refl [w2.heap.size] w11).nt m11).then m12 ((aC (.inl (by simp)) aN))), ?_⟩
  refine DR.done rfl ?_
  intro w14 m13
  refine WO.op0 rfl (.free rfl) rfl (op_store (i := 0) (cs := fl ((List.range 16).map (jetOut n m lk lc0 lc1 lc2 dk dc0 dc1 dc2 ne fa xs i0 ys h0 ls0 ls1 ds0 ds1 (fun j => bs.getD j 0)))) rfl rfl rfl Try.sizeOf82 (fl_len over_done_len) ((((((((((r4.ext m5).ext m6).mod m7 (nC (lG (lL (lL r1.lt (lT m2.size m3.size)) lR)) nN)).mod m8 (nC (lG (lL (lL r1.lt (lT m2.size m3.size)) lR)) (nC (lE (lL (lL r4.lt m5.size) ge1)) (nC (lE (lL (lL r4.lt m5.size) ge2)) nN)))).ext m9).mod m10 (nC (lE (lL (lL r4.lt (lT (lT (lT m5.size m6.size) m7.size) m8.size)) lR)) nN)).ext md1).ext m11).mod m12 (nC (lG (lL r3.lt lR)) nN)).ext m13) rfl (by rw [fl_length, List.length_replicate]; decide) (fl_one _)) ?_
  rintro _ w15 ⟨r18, m14, z9⟩
  have r19 : Row w15 w3.heap.size 0 (fl ((List.range 16).map (jetOut n m lk lc0 lc1 lc2 dk dc0 dc1 dc2 ne fa xs i0 ys h0 ls0 ls1 ds0 ds1 (fun j => bs.getD j 0)))) := Row.congr r18 (splice_all ((fl_len (List.length_replicate)).trans (fl_len (over_done_len)).symm))
  refine WO.det (op_assign rfl) rfl (.free rfl) rfl rfl ?_
  refine WO.end ?_
  refine NE.code ?_
  refine CE.ret' ?_
  refine XE.leaveT Try.results50 (res_agg (cs := [vS b'1 0 n c'1, vI (((jetAt n m lk lc0 lc1 lc2 dk dc0 dc1 dc2 ne fa xs i0 ys h0 ls0 ls1 ds0 ds1 (fun j => bs.getD j 0) 16).i : Nat) : Int), vS d'1 0 m c2'1, vI (((jetAt n m lk lc0 lc1 lc2 dk dc0 dc1 dc2 ne fa xs i0 ys h0 ls0 ls1 ds0 ds1 (fun j => bs.getD j 0) 16).h : Nat) : Int), vI lk, vF lc0, vF lc1, vF lc2, vF ((jetAt n m lk lc0 lc1 lc2 dk dc0 dc1 dc2 ne fa xs i0 ys h0 ls0 ls1 ds0 ds1 (fun j => bs.getD j 0) 16).s0), vF ((jetAt n m lk lc0 lc1 lc2 dk dc0 dc1 dc2 ne fa xs i0 ys h0 ls0 ls1 ds0 ds1 (fun j => bs.getD j 0) 16).s1), vI dk, vF dc0, vF dc1, vF dc2, vF ((jetAt n m lk lc0 lc1 lc2 dk dc0 dc1 dc2 ne fa xs i0 ys h0 ls0 ls1 ds0 ds1 (fun j => bs.getD j 0) 16).t0), vF ((jetAt n m lk lc0 lc1 lc2 dk dc0 dc1 dc2 ne fa xs i0 ys h0 ls0 ls1 ds0 ds1 (fun j => bs.getD j 0) 16).t1), vF ne, vF fa]) rfl Try.isAgg61 Try.sizeOf61 ((r17.ext m13).mod m14 (nC (lE (lL r3.lt lR)) nN)).rng rfl (res_agg (cs := fl ((List.range 16).map (jetOut n m lk lc0 lc1 lc2 dk dc0 dc1 dc2 ne fa xs i0 ys h0 ls0 ls1 ds0 ds1 (fun j => bs.getD j 0)))) rfl Try.isAgg82 Try.sizeOf82 r19.rng (fl_len over_done_len) (res_tmp rfl res_nil))) ?_
  refine ⟨b'1, c'1, d'1, c2'1, ?_, ?_, ?_, ?_, (Row.congr (((((((r10.ext m9).mod m10 (nC (lE (lL (lL r5.lt (lT m7.size m8.size)) lR)) nN)).ext md1).ext m11).mod m12 (nC (lG (lL (lL r3.lt (lT m4.size m5.size)) ge1)) nN)).ext m13).mod m14 (nC (lG (lL (lL r4.lt m5.size) ge1)) nN)) ?_), (Row.congr (((((((r11.ext m9).mod m10 (nC (lE (lL (lL r6.lt (lT m7.size m8.size)) lR)) nN)).ext md1).ext m11).mod m12 (nC (lG (lL (lL r3.lt (lT m4.size m5.size)) ge2)) nN)).ext m13).mod m14 (nC (lG (lL (lL r4.lt m5.size) ge2)) nN)) ?_), (lT (lT (lT (lT (lT m1.size m2.size) m3.size) m4.size) m5.size) ge1), (lT (lT (lT (lT (lT m1.size m2.size) m3.size) m4.size) m5.size) ge2), ne1, ((((((((((((((((Mod.refl [] w).nt m1).nt m2).nt m3).nt m4).nt m5).nt m6).then m7 ((aC (.inr lR) aN))).then m8 ((aC (.inr lR) (aC (.inr (lT (lT (lT (lT (lT m1.size m2.size) m3.size) m4.size) m5.size) ge1)) (aC (.inr (lT (lT (lT (lT (lT m1.size m2.size) m3.size) m4.size) m5.size) ge2)) aN))))).nt m9).then m10 ((aC (.inr (lT (lT (lT (lT (lT (lT (lT (lT m1.size m2.size) m3.size) m4.size) m5.size) m6.size) m7.size) m8.size) lR)) aN))).nt md1).nt m11).then m12 ((aC (.inr (lT (lT m1.size m2.size) lR)) aN))).nt m13).then m14 ((aC (.inr (lT (lT (lT m1.size m2.size) m3.size) lR)) aN)))⟩
  all_goals subst hze
  all_goals subst hoe
  all_goals first | assumption | (have e : i = 16 := (by omega); subst e; first | assumption | (rw [over_full _ List.length_replicate]; done) | rfl) | rfl | exact over_done_len

set_option maxRecDepth 100000 in
set_option maxHeartbeats 2000000 in
theorem c_iBlockJet_bad (n : Nat) (c : Nat) (b : Nat) (xs : List Nat) (m : Nat) (c2 : Nat) (d : Nat) (ys : List Nat) (j : Int) (jj : Int) (lk : Int) (lc0 : Nat) (lc1 : Nat) (lc2 : Nat) (ls0 : Nat) (ls1 : Nat) (dk : Int) (dc0 : Nat) (dc1 : Nat) (dc2 : Nat) (ds0 : Nat) (ds1 : Nat) (ne : Nat) (fa : Nat) (bs : List Nat) (ln : xs.length = n) (lm : ys.length = m) (hn : n ≤ 1048576) (hm : m ≤ 1048576) (lls0 : ls0 < wid .f32) (lls1 : ls1 < wid .f32) (lds0 : ds0 < wid .f32) (lds1 : ds1 < wid .f32) (lb : bs.length = 16) (wb : W32 bs) (hv : vJet n j m jj xs ys lk lc0 lc1 lc2 ls0 ls1 dk dc0 dc1 dc2 ds0 ds1 ne fa = false) (w : World) (r : Rng w b 0 (fl xs)) (ry : Rng w d 0 (fl ys)) : Cl Try.prog 50 #[.agg #[vS b 0 n c, vI j, vS d 0 m c2, vI jj, vI lk, vF lc0, vF lc1, vF lc2, vF ls0, vF ls1, vI dk, vF dc0, vF dc1, vF dc2, vF ds0, vF ds1, vF ne, vF fa], .agg (fl bs).toArray] w fun v w' => v = .tuple #[.agg #[.slice none 0 0, vI 0, .slice none 0 0, vI 0, vI 0, vF 0, vF 0, vF 0, vF 0, vF 0, vI 0, vF 0, vF 0, vF 0, vF 0, vF 0, vF 0, vF 0], .agg (fl (List.replicate 16 0)).toArray, vI 1] ∧ Mod [] w w' := by
  refine Cl.of Try.func50 Try.ntmps50 rfl rfl (ρ := [(0, .agg #[vS b 0 n c, vI j, vS d 0 m c2, vI jj, vI lk, vF lc0, vF lc1, vF lc2, vF ls0, vF ls1, vI dk, vF dc0, vF dc1, vF dc2, vF ds0, vF ds1, vF ne, vF fa]), (1, .agg (fl bs).toArray)]) rfl ?_
  refine CE.seq ?_
  refine CE.region ?_
  refine WL.op (op_box (cs := [vS b 0 n c, vI j, vS d 0 m c2, vI jj, vI lk, vF lc0, vF lc1, vF lc2, vF ls0, vF ls1, vI dk, vF dc0, vF dc1, vF dc2, vF ds0, vF ds1, vF ne, vF fa]) rfl rfl) rfl rfl (ltb rfl) ?_
  rintro _ w1 ⟨rfl, r1, m1, z1⟩
  refine WL.op (op_box (cs := fl bs) rfl rfl) rfl rfl (ltb rfl) ?_
  rintro _ w2 ⟨rfl, r2, m2, z2⟩
  refine WL.op (op_alloc (cs := [.slice none 0 0, vI 0, .slice none 0 0, vI 0, vI 0, vF 0, vF 0, vF 0, vF 0, vF 0, vI 0, vF 0, vF 0, vF 0, vF 0, vF 0, vF 0, vF 0]) Try.zeroValue61 rfl) rfl rfl (ltb rfl) ?_
  rintro _ w3 ⟨rfl, r3, m3, z3⟩
  refine WL.op (op_alloc (cs := fl (List.replicate 16 0)) Try.zeroValue82 rfl) rfl rfl (ltb rfl) ?_
  rintro _ w4 ⟨rfl, r4, m4, z4⟩
  refine WL.det (op_assign rfl) rfl rfl rfl ?_
  refine WL.end ?_
  refine NE.code ?_
  refine CE.seq ?_
  refine CE.seq ?_
  refine CE.region ?_
  refine WL.det (op_loadA (i := 0) (cs := [vS b 0 n c, vI j, vS d 0 m c2, vI jj, vI lk, vF lc0, vF lc1, vF lc2, vF ls0, vF ls1, vI dk, vF dc0, vF dc1, vF dc2, vF ds0, vF ds1, vF ne, vF fa]) rfl Try.isAgg61 Try.sizeOf61 (((r1.ext m2).ext m3).ext m4).rng rfl rfl rfl) rfl rfl rfl ?_
  refine WL.call (oc_call (vs := [.agg #[vS b 0 n c, vI j, vS d 0 m c2, vI jj, vI lk, vF lc0, vF lc1, vF lc2, vF ls0, vF ls1, vI dk, vF dc0, vF dc1, vF dc2, vF ds0, vF ds1, vF ne, vF fa]]) (cap := []) rfl rfl rfl Try.call81 (c_ValidJet n c b xs m c2 d ys j jj lk lc0 lc1 lc2 ls0 ls1 dk dc0 dc1 dc2 ds0 ds1 ne fa ln lm (by omega) (by omega) w4 ((((r.ext m1).ext m2).ext m3).ext m4) ((((ry.ext m1).ext m2).ext m3).ext m4))) rfl rfl (ltb rfl) ?_
  rintro _ w5 ⟨rfl, m5⟩
  refine WL.det (op_not rfl) rfl rfl rfl ?_
  refine WL.end ?_
  refine NE.code ?_
  refine CE.cond_t rfl (bnot_f hv) ?_
  refine CE.seq ?_
  refine CE.region ?_
  refine WL.det (op_build (qs := []) (cells := #[.slice none 0 0, vI 0, .slice none 0 0, vI 0, vI 0, vF 0, vF 0, vF 0, vF 0, vF 0, vI 0, vF 0, vF 0, vF 0, vF 0, vF 0, vF 0, vF 0]) rfl (by kernel_rfl)) rfl rfl rfl ?_
  refine WL.det (op_build (qs := []) (cells := #[vF 0, vF 0, vF 0, vF 0, vF 0, vF 0, vF 0, vF 0, vF 0, vF 0, vF 0, vF 0, vF 0, vF 0, vF 0, vF 0]) rfl (by kernel_rfl)) rfl rfl rfl ?_
  refine WL.op0 (op_store (i := 0) (cs := [.slice none 0 0, vI 0, .slice none 0 0, vI 0, vI 0, vF 0, vF 0, vF 0, vF 0, vF 0, vI 0, vF 0, vF 0, vF 0, vF 0, vF 0, vF 0, vF 0]) rfl rfl rfl Try.sizeOf61 rfl ((r3.ext m4).ext m5) rfl (lB rfl) rfl) rfl rfl ?_
  rintro _ w6 ⟨r5, m6, z5⟩
  have r6 : Row w6 w2.heap.size 0 [.slice none 0 0, vI 0, .slice none 0 0, vI 0, vI 0, vF 0, vF 0, vF 0, vF 0, vF 0, vI 0, vF 0, vF 0, vF 0, vF 0, vF 0, vF 0, vF 0] := Row.congr r5 rfl
  refine WL.op0 (op_store (i := 0) (cs := fl (List.replicate 16 0)) rfl rfl rfl Try.sizeOf82 (fl_len List.length_replicate) ((r4.ext m5).mod m6 (nC (lG (lL r3.lt lR)) nN)) rfl (by rw [fl_length, List.length_replicate]; decide) (fl_one _)) rfl rfl ?_
  rintro _ w7 ⟨r7, m7, z6⟩
  have r8 : Row w7 w3.heap.size 0 (fl (List.replicate 16 0)) := Row.congr r7 (splice_all ((fl_len (List.length_replicate)).trans (fl_len (List.length_replicate)).symm))
  refine WL.det (op_assign rfl) rfl rfl rfl ?_
  refine WL.end ?_
  refine NE.code ?_
  refine CE.ret' ?_
  refine XE.ret_then ?_
  refine XE.leaveT Try.results50 (res_agg (cs := [.slice none 0 0, vI 0, .slice none 0 0, vI 0, vI 0, vF 0, vF 0, vF 0, vF 0, vF 0, vI 0, vF 0, vF 0, vF 0, vF 0, vF 0, vF 0, vF 0]) rfl Try.isAgg61 Try.sizeOf61 (r6.mod m7 (nC (lE (lL r3.lt lR)) nN)).rng rfl (res_agg (cs := fl (List.replicate 16 0)) rfl Try.isAgg82 Try.sizeOf82 r8.rng (fl_len List.length_replicate) (res_tmp rfl res_nil))) ?_
  refine ⟨rfl, ((((((((Mod.refl [] w).nt m1).nt m2).nt m3).nt m4).nt m5).then m6 ((aC (.inr (lT (lT m1.size m2.size) lR)) aN))).then m7 ((aC (.inr (lT (lT (lT m1.size m2.size) m3.size) lR)) aN)))⟩

end Go.Proofs.Ytkgdhlhmckdcmaa
