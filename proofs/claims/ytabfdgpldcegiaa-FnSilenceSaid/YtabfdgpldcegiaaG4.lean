/- What a string makes of a block. -/
import Derived.Test.YtabfdgpldcegiaaB4
import Derived.Test.YtabfdgpldcegiaaG3
set_option linter.unusedVariables false
set_option linter.unusedSimpArgs false
namespace Go.Proofs.Ytabfdgpldcegiaa

structure StrSt where
  xs : List Nat
  i : Nat
  t0 : Nat
  t1 : Nat
  d0 : Nat
  d1 : Nat
/-- a string's samples, place and states behind a step that is given `x` -/
def strNext (n : Nat) (tk : Int) (tc0 tc1 tc2 : Nat) (dk : Int) (dc0 dc1 dc2 g : Nat) (z : StrSt) (x : Nat) : StrSt :=
  ⟨z.xs.set z.i (keptF (fop .add .f32 (fop .mul .f32 (stepY dk dc0 dc1 dc2 z.d0 z.d1 (stepY tk tc0 tc1 tc2 z.t0 z.t1 (z.xs.getD z.i 0))) g) x)), (z.i + 1) % n,
    stepS tk tc0 tc1 tc2 z.t0 z.t1 (z.xs.getD z.i 0), stepT tk tc0 tc1 tc2 z.t0 z.t1 (z.xs.getD z.i 0),
    stepS dk dc0 dc1 dc2 z.d0 z.d1 (stepY tk tc0 tc1 tc2 z.t0 z.t1 (z.xs.getD z.i 0)), stepT dk dc0 dc1 dc2 z.d0 z.d1 (stepY tk tc0 tc1 tc2 z.t0 z.t1 (z.xs.getD z.i 0))⟩
/-- the same before step number `m`, where step `j` is given `f j` -/
def strAt (n : Nat) (tk : Int) (tc0 tc1 tc2 : Nat) (dk : Int) (dc0 dc1 dc2 g : Nat) (xs : List Nat) (i0 ts0 ts1 ds0 ds1 : Nat) (f : Nat → Nat) (m : Nat) : StrSt :=
  if h : m = 0 then ⟨xs, i0, ts0, ts1, ds0, ds1⟩ else strNext n tk tc0 tc1 tc2 dk dc0 dc1 dc2 g (strAt n tk tc0 tc1 tc2 dk dc0 dc1 dc2 g xs i0 ts0 ts1 ds0 ds1 f (m - 1)) (f (m - 1))
termination_by m
decreasing_by omega
section
variable {n : Nat} {tk : Int} {tc0 tc1 tc2 : Nat} {dk : Int} {dc0 dc1 dc2 g : Nat} {xs : List Nat} {i0 ts0 ts1 ds0 ds1 : Nat} {f : Nat → Nat} {m : Nat}
theorem strAt_zero : strAt n tk tc0 tc1 tc2 dk dc0 dc1 dc2 g xs i0 ts0 ts1 ds0 ds1 f 0 = ⟨xs, i0, ts0, ts1, ds0, ds1⟩ := by rw [strAt]; simp
theorem strAt_succ : strAt n tk tc0 tc1 tc2 dk dc0 dc1 dc2 g xs i0 ts0 ts1 ds0 ds1 f (m + 1) = strNext n tk tc0 tc1 tc2 dk dc0 dc1 dc2 g (strAt n tk tc0 tc1 tc2 dk dc0 dc1 dc2 g xs i0 ts0 ts1 ds0 ds1 f m) (f m) := by rw [strAt]; simp
end
def strOut (n : Nat) (tk : Int) (tc0 tc1 tc2 : Nat) (dk : Int) (dc0 dc1 dc2 g : Nat) (xs : List Nat) (i0 ts0 ts1 ds0 ds1 : Nat) (f : Nat → Nat) (m : Nat) : Nat :=
  (strAt n tk tc0 tc1 tc2 dk dc0 dc1 dc2 g xs i0 ts0 ts1 ds0 ds1 f m).xs.getD (strAt n tk tc0 tc1 tc2 dk dc0 dc1 dc2 g xs i0 ts0 ts1 ds0 ds1 f m).i 0

set_option maxRecDepth 100000 in
set_option maxHeartbeats 2000000 in
theorem c_blockStr1 (n : Nat) (c : Nat) (b : Nat) (xs : List Nat) (i0 : Nat) (tk : Int) (tc0 : Nat) (tc1 : Nat) (tc2 : Nat) (ts0 : Nat) (ts1 : Nat) (dk : Int) (dc0 : Nat) (dc1 : Nat) (dc2 : Nat) (ds0 : Nat) (ds1 : Nat) (g : Nat) (p : Nat) (k : Nat) (vs : List Value) (bs : List Nat) (d : Nat) (i : Nat) (ln : xs.length = n) (hi0 : i0 < n) (hn : n ≤ 1024) (wx : W32 xs) (lts0 : ts0 < wid .f32) (lts1 : ts1 < wid .f32) (lds0 : ds0 < wid .f32) (lds1 : ds1 < wid .f32) (hk : k + 15 ≤ vs.length) (lb : bs.length = 16) (wb : W32 bs) (hi : i < 16) (w : World) (q : Row w p 0 (splice vs k [vS b 0 n c, vI ((i0 : Nat) : Int), vI tk, vF tc0, vF tc1, vF tc2, vF ts0, vF ts1, vI dk, vF dc0, vF dc1, vF dc2, vF ds0, vF ds1, vF g])) (r : Row w b 0 (fl xs)) (rd : Rng w d 0 (fl bs)) (hne : p ≠ b) (n1 : d ≠ p) (n2 : d ≠ b) : Cl Try.prog 109 #[vI ((i : Nat) : Int), vP p k, vP d 0] w fun v w' => v = vF (xs.getD i0 0) ∧ (keptF (fop .add .f32 (fop .mul .f32 (stepY dk dc0 dc1 dc2 ds0 ds1 (stepY tk tc0 tc1 tc2 ts0 ts1 (xs.getD i0 0))) g) (bs.getD i 0)) < wid .f32) ∧ ((stepS tk tc0 tc1 tc2 ts0 ts1 (xs.getD i0 0)) < wid .f32) ∧ ((stepT tk tc0 tc1 tc2 ts0 ts1 (xs.getD i0 0)) < wid .f32) ∧ ((stepS dk dc0 dc1 dc2 ds0 ds1 (stepY tk tc0 tc1 tc2 ts0 ts1 (xs.getD i0 0))) < wid .f32) ∧ ((stepT dk dc0 dc1 dc2 ds0 ds1 (stepY tk tc0 tc1 tc2 ts0 ts1 (xs.getD i0 0))) < wid .f32) ∧ Row w' p 0 (splice vs k [vS b 0 n c, vI (((i0 + 1) % n : Nat) : Int), vI tk, vF tc0, vF tc1, vF tc2, vF (stepS tk tc0 tc1 tc2 ts0 ts1 (xs.getD i0 0)), vF (stepT tk tc0 tc1 tc2 ts0 ts1 (xs.getD i0 0)), vI dk, vF dc0, vF dc1, vF dc2, vF (stepS dk dc0 dc1 dc2 ds0 ds1 (stepY tk tc0 tc1 tc2 ts0 ts1 (xs.getD i0 0))), vF (stepT dk dc0 dc1 dc2 ds0 ds1 (stepY tk tc0 tc1 tc2 ts0 ts1 (xs.getD i0 0))), vF g]) ∧ Row w' b 0 (fl (xs.set i0 (keptF (fop .add .f32 (fop .mul .f32 (stepY dk dc0 dc1 dc2 ds0 ds1 (stepY tk tc0 tc1 tc2 ts0 ts1 (xs.getD i0 0))) g) (bs.getD i 0))))) ∧ Mod [p, b] w w' := by
  refine Cl.of Try.func109 Try.ntmps109 rfl rfl (ρ := [(0, vI ((i : Nat) : Int)), (1, vP p k), (2, vP d 0)]) rfl ?_
  refine CE.seq ?_
  refine CE.region ?_
  refine WL.det (op_assign rfl) rfl rfl rfl ?_
  refine WL.end ?_
  refine NE.code ?_
  refine CE.seq ?_
  refine CE.region ?_
  refine WL.det (op_move rfl) rfl rfl rfl ?_
  refine WL.det (op_indexArr (off' := 0 + i) rfl rfl Try.runUnderlying75 Try.sizeOf27 (by omega) (by omega) (by omega)) rfl rfl rfl ?_
  refine WL.det (op_load1 (i := i) rfl Try.isAgg27 rd rfl (fl_get (by have eL : List.length bs = 16 := lb; omega))) rfl rfl rfl ?_
  refine WL.call (oc_call (vs := [vP p k, vF (bs.getD i 0)]) (cap := []) rfl rfl rfl Try.call84 (c_strStep n c b xs i0 tk tc0 tc1 tc2 ts0 ts1 dk dc0 dc1 dc2 ds0 ds1 g p k (splice vs k [vS b 0 n c, vI ((i0 : Nat) : Int), vI tk, vF tc0, vF tc1, vF tc2, vF ts0, vF ts1, vI dk, vF dc0, vF dc1, vF dc2, vF ds0, vF ds1, vF g]) (bs.getD i 0) (bs.getD i 0) ln (by first | omega | exact Nat.mod_lt _ (by omega)) (by omega) lts0 lts1 lds0 lds1 (sub_fit (i := 0) hk (lB rfl)) rfl (wb.get _) wx w (Row.congr q (sub_same (i := 0) hk (lB rfl) rfl)) r hne)) rfl rfl (ltb rfl) ?_
  rintro _ w1 ⟨rfl, h1, h2, h3, h4, h5, r1, r2, m1⟩
  have r3 : Row w1 p 0 (splice vs k [vS b 0 n c, vI (((i0 + 1) % n : Nat) : Int), vI tk, vF tc0, vF tc1, vF tc2, vF (stepS tk tc0 tc1 tc2 ts0 ts1 (xs.getD i0 0)), vF (stepT tk tc0 tc1 tc2 ts0 ts1 (xs.getD i0 0)), vI dk, vF dc0, vF dc1, vF dc2, vF (stepS dk dc0 dc1 dc2 ds0 ds1 (stepY tk tc0 tc1 tc2 ts0 ts1 (xs.getD i0 0))), vF (stepT dk dc0 dc1 dc2 ds0 ds1 (stepY tk tc0 tc1 tc2 ts0 ts1 (xs.getD i0 0))), vF g]) := Row.congr r1 (sub_put (i := 0) hk (lB rfl) rfl)
  refine WL.det (op_assign rfl) rfl rfl rfl ?_
  refine WL.end ?_
  refine NE.code ?_
  refine CE.ret' ?_
  refine XE.leave1 Try.results109 rfl ?_
  refine ⟨rfl, ?_, ?_, ?_, ?_, ?_, r3, r2, ((Mod.refl [p, b] w).then m1 ((aC (.inl (by simp)) (aC (.inl (by simp)) aN))))⟩
  all_goals first | assumption | rfl

set_option maxRecDepth 100000 in
set_option maxHeartbeats 2000000 in
theorem c_made_blockStr (n : Nat) (c : Nat) (b : Nat) (xs : List Nat) (i0 : Nat) (tk : Int) (tc0 : Nat) (tc1 : Nat) (tc2 : Nat) (ts0 : Nat) (ts1 : Nat) (dk : Int) (dc0 : Nat) (dc1 : Nat) (dc2 : Nat) (ds0 : Nat) (ds1 : Nat) (g : Nat) (p : Nat) (k : Nat) (vs : List Value) (bs : List Nat) (d : Nat) (ln : xs.length = n) (hi0 : i0 < n) (hn : n ≤ 1024) (wx : W32 xs) (lts0 : ts0 < wid .f32) (lts1 : ts1 < wid .f32) (lds0 : ds0 < wid .f32) (lds1 : ds1 < wid .f32) (hk : k + 15 ≤ vs.length) (lb : bs.length = 16) (wb : W32 bs) (w : World) (q : Row w p 0 (splice vs k [vS b 0 n c, vI ((i0 : Nat) : Int), vI tk, vF tc0, vF tc1, vF tc2, vF ts0, vF ts1, vI dk, vF dc0, vF dc1, vF dc2, vF ds0, vF ds1, vF g])) (r : Row w b 0 (fl xs)) (rd : Rng w d 0 (fl bs)) (hne : p ≠ b) (n1 : d ≠ p) (n2 : d ≠ b) : Cl Try.prog 108 #[.func (.func 109) #[] #[vP p k, vP d 0]] w fun v w' => v = .agg (fl ((List.range 16).map (strOut n tk tc0 tc1 tc2 dk dc0 dc1 dc2 g xs i0 ts0 ts1 ds0 ds1 (fun j => bs.getD j 0)))).toArray ∧ ((strAt n tk tc0 tc1 tc2 dk dc0 dc1 dc2 g xs i0 ts0 ts1 ds0 ds1 (fun j => bs.getD j 0) 16).xs.length = n) ∧ Row w' p 0 (splice vs k [vS b 0 n c, vI (((strAt n tk tc0 tc1 tc2 dk dc0 dc1 dc2 g xs i0 ts0 ts1 ds0 ds1 (fun j => bs.getD j 0) 16).i : Nat) : Int), vI tk, vF tc0, vF tc1, vF tc2, vF ((strAt n tk tc0 tc1 tc2 dk dc0 dc1 dc2 g xs i0 ts0 ts1 ds0 ds1 (fun j => bs.getD j 0) 16).t0), vF ((strAt n tk tc0 tc1 tc2 dk dc0 dc1 dc2 g xs i0 ts0 ts1 ds0 ds1 (fun j => bs.getD j 0) 16).t1), vI dk, vF dc0, vF dc1, vF dc2, vF ((strAt n tk tc0 tc1 tc2 dk dc0 dc1 dc2 g xs i0 ts0 ts1 ds0 ds1 (fun j => bs.getD j 0) 16).d0), vF ((strAt n tk tc0 tc1 tc2 dk dc0 dc1 dc2 g xs i0 ts0 ts1 ds0 ds1 (fun j => bs.getD j 0) 16).d1), vF g]) ∧ Row w' b 0 (fl ((strAt n tk tc0 tc1 tc2 dk dc0 dc1 dc2 g xs i0 ts0 ts1 ds0 ds1 (fun j => bs.getD j 0) 16).xs)) ∧ Mod [p, b] w w' := by
  refine Cl.of Try.func108 Try.ntmps108 rfl rfl (ρ := [(0, .func (.func 109) #[] #[vP p k, vP d 0])]) rfl ?_
  refine CE.seq ?_
  refine CE.region ?_
  refine WL.op (op_alloc (cs := fl (List.replicate 16 0)) Try.zeroValue75 rfl) rfl rfl (ltb rfl) ?_
  rintro _ w1 ⟨rfl, r1, m1, z1⟩
  refine WL.end ?_
  refine NE.code ?_
  refine CE.seq ?_
  refine CE.region ?_
  refine WL.op (op_alloc (cs := fl (List.replicate 16 0)) Try.zeroValue75 rfl) rfl rfl (ltb rfl) ?_
  rintro _ w2 ⟨rfl, r2, m2, z2⟩
  refine WL.end ?_
  refine NE.code ?_
  refine CE.seq ?_
  refine CE.seq ?_
  refine CE.region ?_
  refine WL.det (op_move rfl) rfl rfl rfl ?_
  refine WL.end ?_
  refine NE.code ?_
  refine CE.block ?_
  refine CE.loop (fun (i : Nat) => [(5, vI ((i : Nat) : Int)), (0, .func (.func 109) #[] #[vP p k, vP d 0]), (2, vP w.heap.size 0), (3, vP w1.heap.size 0)]) (fun (i : Nat) => fun W => (i ≤ 16) ∧ ((strAt n tk tc0 tc1 tc2 dk dc0 dc1 dc2 g xs i0 ts0 ts1 ds0 ds1 (fun j => bs.getD j 0) i).i < n) ∧ ((strAt n tk tc0 tc1 tc2 dk dc0 dc1 dc2 g xs i0 ts0 ts1 ds0 ds1 (fun j => bs.getD j 0) i).xs.length = n) ∧ (W32 (strAt n tk tc0 tc1 tc2 dk dc0 dc1 dc2 g xs i0 ts0 ts1 ds0 ds1 (fun j => bs.getD j 0) i).xs) ∧ ((strAt n tk tc0 tc1 tc2 dk dc0 dc1 dc2 g xs i0 ts0 ts1 ds0 ds1 (fun j => bs.getD j 0) i).t0 < wid .f32) ∧ ((strAt n tk tc0 tc1 tc2 dk dc0 dc1 dc2 g xs i0 ts0 ts1 ds0 ds1 (fun j => bs.getD j 0) i).t1 < wid .f32) ∧ ((strAt n tk tc0 tc1 tc2 dk dc0 dc1 dc2 g xs i0 ts0 ts1 ds0 ds1 (fun j => bs.getD j 0) i).d0 < wid .f32) ∧ ((strAt n tk tc0 tc1 tc2 dk dc0 dc1 dc2 g xs i0 ts0 ts1 ds0 ds1 (fun j => bs.getD j 0) i).d1 < wid .f32) ∧ Row W p 0 (splice vs k [vS b 0 n c, vI (((strAt n tk tc0 tc1 tc2 dk dc0 dc1 dc2 g xs i0 ts0 ts1 ds0 ds1 (fun j => bs.getD j 0) i).i : Nat) : Int), vI tk, vF tc0, vF tc1, vF tc2, vF ((strAt n tk tc0 tc1 tc2 dk dc0 dc1 dc2 g xs i0 ts0 ts1 ds0 ds1 (fun j => bs.getD j 0) i).t0), vF ((strAt n tk tc0 tc1 tc2 dk dc0 dc1 dc2 g xs i0 ts0 ts1 ds0 ds1 (fun j => bs.getD j 0) i).t1), vI dk, vF dc0, vF dc1, vF dc2, vF ((strAt n tk tc0 tc1 tc2 dk dc0 dc1 dc2 g xs i0 ts0 ts1 ds0 ds1 (fun j => bs.getD j 0) i).d0), vF ((strAt n tk tc0 tc1 tc2 dk dc0 dc1 dc2 g xs i0 ts0 ts1 ds0 ds1 (fun j => bs.getD j 0) i).d1), vF g]) ∧ Row W b 0 (fl ((strAt n tk tc0 tc1 tc2 dk dc0 dc1 dc2 g xs i0 ts0 ts1 ds0 ds1 (fun j => bs.getD j 0) i).xs)) ∧ Row W w1.heap.size 0 (fl (over (strOut n tk tc0 tc1 tc2 dk dc0 dc1 dc2 g xs i0 ts0 ts1 ds0 ds1 (fun j => bs.getD j 0)) (List.replicate 16 0) i)) ∧ Mod [p, b, w1.heap.size] w2 W) (fun (i : Nat) => 16 - i) 0 (⟨rfl, rfl, rfl, rfl, trivial⟩) ⟨(by omega), (by rw [strAt_zero]; exact hi0), (by rw [strAt_zero]; exact ln), (by rw [strAt_zero]; exact wx), (by rw [strAt_zero]; assumption), (by rw [strAt_zero]; assumption), (by rw [strAt_zero]; assumption), (by rw [strAt_zero]; assumption), (Row.congr ((q.ext m1).ext m2) (by rw [strAt_zero])), (Row.congr ((r.ext m1).ext m2) (by rw [strAt_zero])), (Row.congr r2 (over_zero _ _)), Mod.refl _ _⟩ ?_
  rintro i w3 ⟨hi, hz, hl, hx, b0, b1, b2, b3, r3, r4, r5, m3⟩
  show CE _ _ _ _ [(5, vI ((i : Nat) : Int)), (0, .func (.func 109) #[] #[vP p k, vP d 0]), (2, vP w.heap.size 0), (3, vP w1.heap.size 0)] _
  refine CE.seq ?_
  refine CE.region ?_
  refine WL.det (op_lti rfl rfl) rfl rfl rfl ?_
  refine WL.end ?_
  refine NE.code ?_
  refine CE.seq ?_
  rcases Bool.eq_false_or_eq_true (decide (((i : Nat) : Int) < (16 : Int))) with hb1 | hb1
  · have hp1 := hb1; try simp only [Bool.and_eq_true, Bool.or_eq_true, Bool.not_eq_true', Bool.not_eq_false', Bool.and_eq_false_iff, Bool.or_eq_false_iff, decide_eq_true_eq, decide_eq_false_iff_not, beq_iff_eq, bne_iff_ne, beq_eq_false_iff_ne, bne_eq_false_iff_eq, ne_eq, Bool.false_eq_true, not_false_eq_true, not_true_eq_false, vIn_t, vIn_f] at hp1
    refine CE.cond_t rfl hb1 ?_
    refine CE.skip' ?_
    refine NE.code ?_
    refine CE.seq ?_
    refine CE.block ?_
    refine CE.seq ?_
    refine CE.region ?_
    refine WL.det (op_move rfl) rfl rfl rfl ?_
    refine WL.det (op_assign rfl) rfl rfl rfl ?_
    refine WL.end ?_
    refine NE.code ?_
    refine CE.region ?_
    refine WL.det (op_move rfl) rfl rfl rfl ?_
    refine WL.det (op_move rfl) rfl rfl rfl ?_
    refine WL.det (op_move rfl) rfl rfl rfl ?_
    refine WL.call (oc_call (vs := [vI ((i : Nat) : Int)]) (cap := [vP p k, vP d 0]) rfl rfl rfl Try.call109 (c_blockStr1 n c b ((strAt n tk tc0 tc1 tc2 dk dc0 dc1 dc2 g xs i0 ts0 ts1 ds0 ds1 (fun j => bs.getD j 0) i).xs) ((strAt n tk tc0 tc1 tc2 dk dc0 dc1 dc2 g xs i0 ts0 ts1 ds0 ds1 (fun j => bs.getD j 0) i).i) tk tc0 tc1 tc2 ((strAt n tk tc0 tc1 tc2 dk dc0 dc1 dc2 g xs i0 ts0 ts1 ds0 ds1 (fun j => bs.getD j 0) i).t0) ((strAt n tk tc0 tc1 tc2 dk dc0 dc1 dc2 g xs i0 ts0 ts1 ds0 ds1 (fun j => bs.getD j 0) i).t1) dk dc0 dc1 dc2 ((strAt n tk tc0 tc1 tc2 dk dc0 dc1 dc2 g xs i0 ts0 ts1 ds0 ds1 (fun j => bs.getD j 0) i).d0) ((strAt n tk tc0 tc1 tc2 dk dc0 dc1 dc2 g xs i0 ts0 ts1 ds0 ds1 (fun j => bs.getD j 0) i).d1) g p k (splice vs k [vS b 0 n c, vI (((strAt n tk tc0 tc1 tc2 dk dc0 dc1 dc2 g xs i0 ts0 ts1 ds0 ds1 (fun j => bs.getD j 0) i).i : Nat) : Int), vI tk, vF tc0, vF tc1, vF tc2, vF ((strAt n tk tc0 tc1 tc2 dk dc0 dc1 dc2 g xs i0 ts0 ts1 ds0 ds1 (fun j => bs.getD j 0) i).t0), vF ((strAt n tk tc0 tc1 tc2 dk dc0 dc1 dc2 g xs i0 ts0 ts1 ds0 ds1 (fun j => bs.getD j 0) i).t1), vI dk, vF dc0, vF dc1, vF dc2, vF ((strAt n tk tc0 tc1 tc2 dk dc0 dc1 dc2 g xs i0 ts0 ts1 ds0 ds1 (fun j => bs.getD j 0) i).d0), vF ((strAt n tk tc0 tc1 tc2 dk dc0 dc1 dc2 g xs i0 ts0 ts1 ds0 ds1 (fun j => bs.getD j 0) i).d1), vF g]) bs d i hl (by omega) (by omega) hx b0 b1 b2 b3 (sub_fit (i := 0) hk (lB rfl)) lb wb (by omega) w3 (Row.congr r3 (sub_same (i := 0) hk (lB rfl) rfl)) r4 (((rd.ext m1).ext m2).mod m3 (nC n1 (nC n2 (nC (lE (lL (lL (rd.lt (by have eL : List.length bs = 16 := lb; rw [fl_length]; omega)) m1.size) lR)) nN)))) hne n1 n2)) rfl rfl (ltb rfl) ?_
    rintro _ w4 ⟨rfl, h1, h2, h3, h4, h5, r6, r7, m4⟩
    have r8 : Row w4 p 0 (splice vs k [vS b 0 n c, vI (((((strAt n tk tc0 tc1 tc2 dk dc0 dc1 dc2 g xs i0 ts0 ts1 ds0 ds1 (fun j => bs.getD j 0) i).i) + 1) % n : Nat) : Int), vI tk, vF tc0, vF tc1, vF tc2, vF (stepS tk tc0 tc1 tc2 ((strAt n tk tc0 tc1 tc2 dk dc0 dc1 dc2 g xs i0 ts0 ts1 ds0 ds1 (fun j => bs.getD j 0) i).t0) ((strAt n tk tc0 tc1 tc2 dk dc0 dc1 dc2 g xs i0 ts0 ts1 ds0 ds1 (fun j => bs.getD j 0) i).t1) (((strAt n tk tc0 tc1 tc2 dk dc0 dc1 dc2 g xs i0 ts0 ts1 ds0 ds1 (fun j => bs.getD j 0) i).xs).getD ((strAt n tk tc0 tc1 tc2 dk dc0 dc1 dc2 g xs i0 ts0 ts1 ds0 ds1 (fun j => bs.getD j 0) i).i) 0)), vF (stepT tk tc0 tc1 tc2 ((strAt n tk tc0 tc1 tc2 dk dc0 dc1 dc2 g xs i0 ts0 ts1 ds0 ds1 (fun j => bs.getD j 0) i).t0) ((strAt n tk tc0 tc1 tc2 dk dc0 dc1 dc2 g xs i0 ts0 ts1 ds0 ds1 (fun j => bs.getD j 0) i).t1) (((strAt n tk tc0 tc1 tc2 dk dc0 dc1 dc2 g xs i0 ts0 ts1 ds0 ds1 (fun j => bs.getD j 0) i).xs).getD ((strAt n tk tc0 tc1 tc2 dk dc0 dc1 dc2 g xs i0 ts0 ts1 ds0 ds1 (fun j => bs.getD j 0) i).i) 0)), vI dk, vF dc0, vF dc1, vF dc2, vF (stepS dk dc0 dc1 dc2 ((strAt n tk tc0 tc1 tc2 dk dc0 dc1 dc2 g xs i0 ts0 ts1 ds0 ds1 (fun j => bs.getD j 0) i).d0) ((strAt n tk tc0 tc1 tc2 dk dc0 dc1 dc2 g xs i0 ts0 ts1 ds0 ds1 (fun j => bs.getD j 0) i).d1) (stepY tk tc0 tc1 tc2 ((strAt n tk tc0 tc1 tc2 dk dc0 dc1 dc2 g xs i0 ts0 ts1 ds0 ds1 (fun j => bs.getD j 0) i).t0) ((strAt n tk tc0 tc1 tc2 dk dc0 dc1 dc2 g xs i0 ts0 ts1 ds0 ds1 (fun j => bs.getD j 0) i).t1) (((strAt n tk tc0 tc1 tc2 dk dc0 dc1 dc2 g xs i0 ts0 ts1 ds0 ds1 (fun j => bs.getD j 0) i).xs).getD ((strAt n tk tc0 tc1 tc2 dk dc0 dc1 dc2 g xs i0 ts0 ts1 ds0 ds1 (fun j => bs.getD j 0) i).i) 0))), vF (stepT dk dc0 dc1 dc2 ((strAt n tk tc0 tc1 tc2 dk dc0 dc1 dc2 g xs i0 ts0 ts1 ds0 ds1 (fun j => bs.getD j 0) i).d0) ((strAt n tk tc0 tc1 tc2 dk dc0 dc1 dc2 g xs i0 ts0 ts1 ds0 ds1 (fun j => bs.getD j 0) i).d1) (stepY tk tc0 tc1 tc2 ((strAt n tk tc0 tc1 tc2 dk dc0 dc1 dc2 g xs i0 ts0 ts1 ds0 ds1 (fun j => bs.getD j 0) i).t0) ((strAt n tk tc0 tc1 tc2 dk dc0 dc1 dc2 g xs i0 ts0 ts1 ds0 ds1 (fun j => bs.getD j 0) i).t1) (((strAt n tk tc0 tc1 tc2 dk dc0 dc1 dc2 g xs i0 ts0 ts1 ds0 ds1 (fun j => bs.getD j 0) i).xs).getD ((strAt n tk tc0 tc1 tc2 dk dc0 dc1 dc2 g xs i0 ts0 ts1 ds0 ds1 (fun j => bs.getD j 0) i).i) 0))), vF g]) := Row.congr r6 (sub_put (i := 0) hk (lB rfl) rfl)
    refine WL.det (op_indexArr (off' := 0 + i) rfl rfl Try.runUnderlying75 Try.sizeOf27 (by omega) (by omega) (by omega)) rfl rfl rfl ?_
    refine WL.op0 (op_store (i := i) (cs := [vF (((strAt n tk tc0 tc1 tc2 dk dc0 dc1 dc2 g xs i0 ts0 ts1 ds0 ds1 (fun j => bs.getD j 0) i).xs).getD ((strAt n tk tc0 tc1 tc2 dk dc0 dc1 dc2 g xs i0 ts0 ts1 ds0 ds1 (fun j => bs.getD j 0) i).i) 0)]) rfl rfl rfl Try.sizeOf27 rfl (r5.mod m4 (nC (lG (lL (lL q.lt m1.size) lR)) (nC (lG (lL (lL r.lt m1.size) lR)) nN))) rfl (by rw [fl_length]; have eL : List.length (over (strOut n tk tc0 tc1 tc2 dk dc0 dc1 dc2 g xs i0 ts0 ts1 ds0 ds1 (fun j => bs.getD j 0)) (List.replicate 16 0) i) = 16 := (over_len List.length_replicate (by omega)); omega) rfl) rfl rfl ?_
    rintro _ w5 ⟨r9, m5, z3⟩
    have r10 : Row w5 w1.heap.size 0 (fl ((over (strOut n tk tc0 tc1 tc2 dk dc0 dc1 dc2 g xs i0 ts0 ts1 ds0 ds1 (fun j => bs.getD j 0)) (List.replicate 16 0) i).set i (((strAt n tk tc0 tc1 tc2 dk dc0 dc1 dc2 g xs i0 ts0 ts1 ds0 ds1 (fun j => bs.getD j 0) i).xs).getD ((strAt n tk tc0 tc1 tc2 dk dc0 dc1 dc2 g xs i0 ts0 ts1 ds0 ds1 (fun j => bs.getD j 0) i).i) 0))) := Row.congr r9 (fl_splice (by have eL : List.length (over (strOut n tk tc0 tc1 tc2 dk dc0 dc1 dc2 g xs i0 ts0 ts1 ds0 ds1 (fun j => bs.getD j 0)) (List.replicate 16 0) i) = 16 := (over_len List.length_replicate (by omega)); omega))
    refine WL.end ?_
    refine NE.blk ?_
    refine NE.code ?_
    refine CE.region ?_
    refine WL.det (op_add (r := ((i + 1 : Nat) : Int)) rfl rfl (w_i64 (by omega) (by omega))) rfl rfl rfl ?_
    refine WL.det (op_move rfl) rfl rfl rfl ?_
    refine WL.end ?_
    exact NE.again (i + 1) (⟨rfl, rfl, rfl, rfl, trivial⟩) ⟨(by omega), (by rw [strAt_succ]; exact Nat.mod_lt _ (by omega)), (by rw [strAt_succ]; exact (List.length_set).trans hl), (by rw [strAt_succ]; exact W32.set hx (by assumption)), (by rw [strAt_succ]; assumption), (by rw [strAt_succ]; assumption), (by rw [strAt_succ]; assumption), (by rw [strAt_succ]; assumption), (Row.congr (r8.mod m5 (nC (lE (lL (lL q.lt m1.size) lR)) nN)) (by rw [strAt_succ]; rfl)), (Row.congr (r7.mod m5 (nC (lE (lL (lL r.lt m1.size) lR)) nN)) (by rw [strAt_succ]; rfl)), (Row.congr r10 (over_set List.length_replicate (by omega))), ((m3.then m4 ((aC (.inl (by simp)) (aC (.inl (by simp)) aN)))).then m5 ((aC (.inl (by simp)) aN)))⟩ (by first | (dsimp only; omega) | omega)
  · have hp1 := hb1; try simp only [Bool.and_eq_true, Bool.or_eq_true, Bool.not_eq_true', Bool.not_eq_false', Bool.and_eq_false_iff, Bool.or_eq_false_iff, decide_eq_true_eq, decide_eq_false_iff_not, beq_iff_eq, bne_iff_ne, beq_eq_false_iff_ne, bne_eq_false_iff_eq, ne_eq, Bool.false_eq_true, not_false_eq_true, not_true_eq_false, vIn_t, vIn_f] at hp1
    refine CE.cond_f rfl hb1 ?_
    refine CE.exit' ?_
    refine XE.exit_then ?_
    refine XE.exit_then ?_
    refine XE.exit_here ?_
    refine NE.code ?_
    refine CE.seq ?_
    refine CE.region ?_
    refine WL.det (op_loadA (i := 0) (cs := fl (over (strOut n tk tc0 tc1 tc2 dk dc0 dc1 dc2 g xs i0 ts0 ts1 ds0 ds1 (fun j => bs.getD j 0)) (List.replicate 16 0) i)) rfl Try.isAgg75 Try.sizeOf75 r5.rng rfl (fl_whole (over_len List.length_replicate (by omega))) (fl_len (over_len List.length_replicate (by omega)))) rfl rfl rfl ?_
    refine WL.op0 (op_store (i := 0) (cs := fl (over (strOut n tk tc0 tc1 tc2 dk dc0 dc1 dc2 g xs i0 ts0 ts1 ds0 ds1 (fun j => bs.getD j 0)) (List.replicate 16 0) i)) rfl rfl rfl Try.sizeOf75 (fl_len (over_len List.length_replicate (by omega))) ((r1.ext m2).mod m3 (nC (lG (lL q.lt lR)) (nC (lG (lL r.lt lR)) (nC (lE (lL r1.lt lR)) nN)))) rfl (by rw [fl_length, List.length_replicate]; decide) (fl_one _)) rfl rfl ?_
    rintro _ w6 ⟨r11, m6, z4⟩
    have r12 : Row w6 w.heap.size 0 (fl (over (strOut n tk tc0 tc1 tc2 dk dc0 dc1 dc2 g xs i0 ts0 ts1 ds0 ds1 (fun j => bs.getD j 0)) (List.replicate 16 0) i)) := Row.congr r11 (splice_all ((fl_len (List.length_replicate)).trans (fl_len ((over_len List.length_replicate (by omega)))).symm))
    refine WL.end ?_
    refine NE.code ?_
    refine CE.ret' ?_
    refine XE.leaveC Try.results108 (res_agg (cs := fl (over (strOut n tk tc0 tc1 tc2 dk dc0 dc1 dc2 g xs i0 ts0 ts1 ds0 ds1 (fun j => bs.getD j 0)) (List.replicate 16 0) i)) rfl Try.isAgg75 Try.sizeOf75 r12.rng (fl_len (over_len List.length_replicate (by omega))) res_nil) ?_
    refine ⟨?_, ?_, (Row.congr (r3.mod m6 (nC (lE (lL q.lt lR)) nN)) ?_), (Row.congr (r4.mod m6 (nC (lE (lL r.lt lR)) nN)) ?_), (((((Mod.refl [p, b] w).nt m1).nt m2).then m3 ((aC (.inl (by simp)) (aC (.inl (by simp)) (aC (.inr (lT m1.size lR)) aN))))).then m6 ((aC (.inr lR) aN)))⟩
    all_goals first | assumption | (have e : i = 16 := (by omega); subst e; first | assumption | (rw [over_full _ lb]; done) | (rw [over_full _ List.length_replicate]; done) | rfl) | rfl

set_option maxRecDepth 100000 in
set_option maxHeartbeats 2000000 in
theorem c_sBlockStr (n : Nat) (c : Nat) (b : Nat) (xs : List Nat) (i0 : Nat) (tk : Int) (tc0 : Nat) (tc1 : Nat) (tc2 : Nat) (ts0 : Nat) (ts1 : Nat) (dk : Int) (dc0 : Nat) (dc1 : Nat) (dc2 : Nat) (ds0 : Nat) (ds1 : Nat) (g : Nat) (bs : List Nat) (ln : xs.length = n) (hi0 : i0 < n) (hn : n ≤ 1024) (wx : W32 xs) (lts0 : ts0 < wid .f32) (lts1 : ts1 < wid .f32) (lds0 : ds0 < wid .f32) (lds1 : ds1 < wid .f32) (lb : bs.length = 16) (wb : W32 bs) (hv : vStr n ((i0 : Nat) : Int) tk tc0 tc1 tc2 ts0 ts1 dk dc0 dc1 dc2 ds0 ds1 g = true) (w : World) (r : Rng w b 0 (fl xs)) : Cl Try.prog 47 #[.agg #[vS b 0 n c, vI ((i0 : Nat) : Int), vI tk, vF tc0, vF tc1, vF tc2, vF ts0, vF ts1, vI dk, vF dc0, vF dc1, vF dc2, vF ds0, vF ds1, vF g], .agg (fl bs).toArray] w fun v w' => ∃ (b' : Nat) (c' : Nat), v = .tuple #[.agg #[vS b' 0 n c', vI (((strAt n tk tc0 tc1 tc2 dk dc0 dc1 dc2 g xs i0 ts0 ts1 ds0 ds1 (fun j => bs.getD j 0) 16).i : Nat) : Int), vI tk, vF tc0, vF tc1, vF tc2, vF ((strAt n tk tc0 tc1 tc2 dk dc0 dc1 dc2 g xs i0 ts0 ts1 ds0 ds1 (fun j => bs.getD j 0) 16).t0), vF ((strAt n tk tc0 tc1 tc2 dk dc0 dc1 dc2 g xs i0 ts0 ts1 ds0 ds1 (fun j => bs.getD j 0) 16).t1), vI dk, vF dc0, vF dc1, vF dc2, vF ((strAt n tk tc0 tc1 tc2 dk dc0 dc1 dc2 g xs i0 ts0 ts1 ds0 ds1 (fun j => bs.getD j 0) 16).d0), vF ((strAt n tk tc0 tc1 tc2 dk dc0 dc1 dc2 g xs i0 ts0 ts1 ds0 ds1 (fun j => bs.getD j 0) 16).d1), vF g], .agg (fl ((List.range 16).map (strOut n tk tc0 tc1 tc2 dk dc0 dc1 dc2 g xs i0 ts0 ts1 ds0 ds1 (fun j => bs.getD j 0)))).toArray, vI 0] ∧ ((strAt n tk tc0 tc1 tc2 dk dc0 dc1 dc2 g xs i0 ts0 ts1 ds0 ds1 (fun j => bs.getD j 0) 16).xs.length = n) ∧ Row w' b' 0 (fl ((strAt n tk tc0 tc1 tc2 dk dc0 dc1 dc2 g xs i0 ts0 ts1 ds0 ds1 (fun j => bs.getD j 0) 16).xs)) ∧ w.heap.size ≤ b' ∧ Mod [] w w' := by
  refine Cl.of Try.func47 Try.ntmps47 rfl rfl (ρ := [(0, .agg #[vS b 0 n c, vI ((i0 : Nat) : Int), vI tk, vF tc0, vF tc1, vF tc2, vF ts0, vF ts1, vI dk, vF dc0, vF dc1, vF dc2, vF ds0, vF ds1, vF g]), (1, .agg (fl bs).toArray)]) rfl ?_
  refine CE.seq ?_
  refine CE.region ?_
  refine WL.op (op_box (cs := [vS b 0 n c, vI ((i0 : Nat) : Int), vI tk, vF tc0, vF tc1, vF tc2, vF ts0, vF ts1, vI dk, vF dc0, vF dc1, vF dc2, vF ds0, vF ds1, vF g]) rfl rfl) rfl rfl (ltb rfl) ?_
  rintro _ w1 ⟨rfl, r1, m1, z1⟩
  refine WL.op (op_box (cs := fl bs) rfl rfl) rfl rfl (ltb rfl) ?_
  rintro _ w2 ⟨rfl, r2, m2, z2⟩
  refine WL.op (op_alloc (cs := [.slice none 0 0, vI 0, vI 0, vF 0, vF 0, vF 0, vF 0, vF 0, vI 0, vF 0, vF 0, vF 0, vF 0, vF 0, vF 0]) Try.zeroValue33 rfl) rfl rfl (ltb rfl) ?_
  rintro _ w3 ⟨rfl, r3, m3, z3⟩
  refine WL.op (op_alloc (cs := fl (List.replicate 16 0)) Try.zeroValue75 rfl) rfl rfl (ltb rfl) ?_
  rintro _ w4 ⟨rfl, r4, m4, z4⟩
  refine WL.det (op_assign rfl) rfl rfl rfl ?_
  refine WL.end ?_
  refine NE.code ?_
  refine CE.seq ?_
  refine CE.seq ?_
  refine CE.region ?_
  refine WL.call (oc_call (vs := [vP w.heap.size 0]) (cap := []) rfl rfl rfl Try.call70 (c_l03Ok n c (some ⟨b, 0, none⟩) ((i0 : Nat) : Int) tk tc0 tc1 tc2 ts0 ts1 dk dc0 dc1 dc2 ds0 ds1 g w.heap.size 0 [vS b 0 n c, vI ((i0 : Nat) : Int), vI tk, vF tc0, vF tc1, vF tc2, vF ts0, vF ts1, vI dk, vF dc0, vF dc1, vF dc2, vF ds0, vF ds1, vF g] (by omega) (lB rfl) w4 (Row.congr (((r1.ext m2).ext m3).ext m4) rfl).rng)) rfl rfl (ltb rfl) ?_
  rintro _ w5 ⟨rfl, m5⟩
  refine WL.det (op_not rfl) rfl rfl rfl ?_
  refine WL.end ?_
  refine NE.code ?_
  refine CE.cond_f rfl (bnot_t hv) ?_
  refine CE.skip' ?_
  refine NE.code ?_
  refine CE.seq ?_
  refine CE.region ?_
  refine WL.call (oc_call (vs := [vP w.heap.size 0]) (cap := []) rfl rfl rfl Try.call72 (c_l03Copy n c b xs ((i0 : Nat) : Int) tk tc0 tc1 tc2 ts0 ts1 dk dc0 dc1 dc2 ds0 ds1 g w.heap.size 0 [vS b 0 n c, vI ((i0 : Nat) : Int), vI tk, vF tc0, vF tc1, vF tc2, vF ts0, vF ts1, vI dk, vF dc0, vF dc1, vF dc2, vF ds0, vF ds1, vF g] ln (by omega) (by omega) (lB rfl) w5 (Row.congr ((((r1.ext m2).ext m3).ext m4).ext m5) rfl).rng (((((r.ext m1).ext m2).ext m3).ext m4).ext m5))) rfl rfl (ltb rfl) ?_
  rintro _ w6 ⟨b'1, c'1, rfl, r5, ge1, m6⟩
  refine WL.op (op_alloc (cs := [.slice none 0 0, vI 0, vI 0, vF 0, vF 0, vF 0, vF 0, vF 0, vI 0, vF 0, vF 0, vF 0, vF 0, vF 0, vF 0]) Try.zeroValue33 rfl) rfl rfl (ltb rfl) ?_
  rintro _ w7 ⟨rfl, r6, m7, z5⟩
  refine WL.op0 (op_store (i := 0) (cs := [vS b'1 0 n c'1, vI ((i0 : Nat) : Int), vI tk, vF tc0, vF tc1, vF tc2, vF ts0, vF ts1, vI dk, vF dc0, vF dc1, vF dc2, vF ds0, vF ds1, vF g]) rfl rfl rfl Try.sizeOf33 rfl r6 rfl (lB rfl) rfl) rfl rfl ?_
  rintro _ w8 ⟨r7, m8, z6⟩
  have r8 : Row w8 w6.heap.size 0 [vS b'1 0 n c'1, vI ((i0 : Nat) : Int), vI tk, vF tc0, vF tc1, vF tc2, vF ts0, vF ts1, vI dk, vF dc0, vF dc1, vF dc2, vF ds0, vF ds1, vF g] := Row.congr r7 rfl
  refine WL.end ?_
  refine NE.code ?_
  refine CE.seq ?_
  refine CE.seq ?_
  refine CE.region ?_
  refine WL.det (op_assign rfl) rfl rfl rfl ?_
  refine WL.end ?_
  refine NE.code ?_
  refine CE.block ?_
  refine CE.loop (fun (i : Nat) => [(8, vI ((i : Nat) : Int)), (3, vP w1.heap.size 0), (4, vP w2.heap.size 0), (5, vP w3.heap.size 0), (6, vI 0), (7, vP w6.heap.size 0)]) (fun (i : Nat) => fun W => (i ≤ 16) ∧ ((strAt n tk tc0 tc1 tc2 dk dc0 dc1 dc2 g xs i0 ts0 ts1 ds0 ds1 (fun j => bs.getD j 0) i).i < n) ∧ ((strAt n tk tc0 tc1 tc2 dk dc0 dc1 dc2 g xs i0 ts0 ts1 ds0 ds1 (fun j => bs.getD j 0) i).xs.length = n) ∧ (W32 (strAt n tk tc0 tc1 tc2 dk dc0 dc1 dc2 g xs i0 ts0 ts1 ds0 ds1 (fun j => bs.getD j 0) i).xs) ∧ ((strAt n tk tc0 tc1 tc2 dk dc0 dc1 dc2 g xs i0 ts0 ts1 ds0 ds1 (fun j => bs.getD j 0) i).t0 < wid .f32) ∧ ((strAt n tk tc0 tc1 tc2 dk dc0 dc1 dc2 g xs i0 ts0 ts1 ds0 ds1 (fun j => bs.getD j 0) i).t1 < wid .f32) ∧ ((strAt n tk tc0 tc1 tc2 dk dc0 dc1 dc2 g xs i0 ts0 ts1 ds0 ds1 (fun j => bs.getD j 0) i).d0 < wid .f32) ∧ ((strAt n tk tc0 tc1 tc2 dk dc0 dc1 dc2 g xs i0 ts0 ts1 ds0 ds1 (fun j => bs.getD j 0) i).d1 < wid .f32) ∧ Row W w6.heap.size 0 [vS b'1 0 n c'1, vI (((strAt n tk tc0 tc1 tc2 dk dc0 dc1 dc2 g xs i0 ts0 ts1 ds0 ds1 (fun j => bs.getD j 0) i).i : Nat) : Int), vI tk, vF tc0, vF tc1, vF tc2, vF ((strAt n tk tc0 tc1 tc2 dk dc0 dc1 dc2 g xs i0 ts0 ts1 ds0 ds1 (fun j => bs.getD j 0) i).t0), vF ((strAt n tk tc0 tc1 tc2 dk dc0 dc1 dc2 g xs i0 ts0 ts1 ds0 ds1 (fun j => bs.getD j 0) i).t1), vI dk, vF dc0, vF dc1, vF dc2, vF ((strAt n tk tc0 tc1 tc2 dk dc0 dc1 dc2 g xs i0 ts0 ts1 ds0 ds1 (fun j => bs.getD j 0) i).d0), vF ((strAt n tk tc0 tc1 tc2 dk dc0 dc1 dc2 g xs i0 ts0 ts1 ds0 ds1 (fun j => bs.getD j 0) i).d1), vF g] ∧ Row W b'1 0 (fl ((strAt n tk tc0 tc1 tc2 dk dc0 dc1 dc2 g xs i0 ts0 ts1 ds0 ds1 (fun j => bs.getD j 0) i).xs)) ∧ Row W w1.heap.size 0 (fl (over (strOut n tk tc0 tc1 tc2 dk dc0 dc1 dc2 g xs i0 ts0 ts1 ds0 ds1 (fun j => bs.getD j 0)) bs i)) ∧ Mod [w6.heap.size, b'1, w1.heap.size] w8 W) (fun (i : Nat) => 16 - i) 0 (⟨rfl, rfl, rfl, rfl, rfl, rfl, trivial⟩) ⟨(by omega), (by rw [strAt_zero]; exact hi0), (by rw [strAt_zero]; exact ln), (by rw [strAt_zero]; exact wx), (by rw [strAt_zero]; assumption), (by rw [strAt_zero]; assumption), (by rw [strAt_zero]; assumption), (by rw [strAt_zero]; assumption), (Row.congr r8 (by rw [strAt_zero])), (Row.congr ((r5.ext m7).mod m8 (nC (lE (lL r5.lt lR)) nN)) (by rw [strAt_zero])), (Row.congr ((((((r2.ext m3).ext m4).ext m5).ext m6).ext m7).mod m8 (nC (lE (lL (lL r2.lt (lT (lT (lT m3.size m4.size) m5.size) m6.size)) lR)) nN)) (over_zero _ _)), Mod.refl _ _⟩ ?_
  rintro i w9 ⟨hi, hz, hl, hx, b0, b1, b2, b3, r9, r10, r11, m9⟩
  show CE _ _ _ _ [(8, vI ((i : Nat) : Int)), (3, vP w1.heap.size 0), (4, vP w2.heap.size 0), (5, vP w3.heap.size 0), (6, vI 0), (7, vP w6.heap.size 0)] _
  refine CE.seq ?_
  refine CE.seq ?_
  refine CE.region ?_
  refine WL.det (op_move rfl) rfl rfl rfl ?_
  refine WL.det (op_lti rfl rfl) rfl rfl rfl ?_
  refine WL.end ?_
  refine NE.code ?_
  rcases Bool.eq_false_or_eq_true (decide (((i : Nat) : Int) < (16 : Int))) with hb1 | hb1
  · have hp1 := hb1; try simp only [Bool.and_eq_true, Bool.or_eq_true, Bool.not_eq_true', Bool.not_eq_false', Bool.and_eq_false_iff, Bool.or_eq_false_iff, decide_eq_true_eq, decide_eq_false_iff_not, beq_iff_eq, bne_iff_ne, beq_eq_false_iff_ne, bne_eq_false_iff_eq, ne_eq, Bool.false_eq_true, not_false_eq_true, not_true_eq_false, vIn_t, vIn_f] at hp1
    refine CE.cond_t rfl hb1 ?_
    refine CE.skip' ?_
    refine NE.code ?_
    refine CE.seq ?_
    refine CE.block ?_
    refine CE.region ?_
    refine WL.det (op_move rfl) rfl rfl rfl ?_
    refine WL.det (op_move rfl) rfl rfl rfl ?_
    refine WL.det (op_indexArr (off' := 0 + i) rfl rfl Try.runUnderlying75 Try.sizeOf27 (by omega) (by omega) (by omega)) rfl rfl rfl ?_
    refine WL.det (op_load1 (i := i) rfl Try.isAgg27 r11.rng rfl (fl_get_eq (by have eL : List.length (over (strOut n tk tc0 tc1 tc2 dk dc0 dc1 dc2 g xs i0 ts0 ts1 ds0 ds1 (fun j => bs.getD j 0)) bs i) = 16 := (over_len lb (by omega)); omega) (over_get (Nat.le_refl _)))) rfl rfl rfl ?_
    refine WL.call (oc_call (vs := [vP w6.heap.size 0, vF (bs.getD i 0)]) (cap := []) rfl rfl rfl Try.call87 (c_l03Step n c'1 b'1 ((strAt n tk tc0 tc1 tc2 dk dc0 dc1 dc2 g xs i0 ts0 ts1 ds0 ds1 (fun j => bs.getD j 0) i).xs) ((strAt n tk tc0 tc1 tc2 dk dc0 dc1 dc2 g xs i0 ts0 ts1 ds0 ds1 (fun j => bs.getD j 0) i).i) tk tc0 tc1 tc2 ((strAt n tk tc0 tc1 tc2 dk dc0 dc1 dc2 g xs i0 ts0 ts1 ds0 ds1 (fun j => bs.getD j 0) i).t0) ((strAt n tk tc0 tc1 tc2 dk dc0 dc1 dc2 g xs i0 ts0 ts1 ds0 ds1 (fun j => bs.getD j 0) i).t1) dk dc0 dc1 dc2 ((strAt n tk tc0 tc1 tc2 dk dc0 dc1 dc2 g xs i0 ts0 ts1 ds0 ds1 (fun j => bs.getD j 0) i).d0) ((strAt n tk tc0 tc1 tc2 dk dc0 dc1 dc2 g xs i0 ts0 ts1 ds0 ds1 (fun j => bs.getD j 0) i).d1) g w6.heap.size 0 [vS b'1 0 n c'1, vI (((strAt n tk tc0 tc1 tc2 dk dc0 dc1 dc2 g xs i0 ts0 ts1 ds0 ds1 (fun j => bs.getD j 0) i).i : Nat) : Int), vI tk, vF tc0, vF tc1, vF tc2, vF ((strAt n tk tc0 tc1 tc2 dk dc0 dc1 dc2 g xs i0 ts0 ts1 ds0 ds1 (fun j => bs.getD j 0) i).t0), vF ((strAt n tk tc0 tc1 tc2 dk dc0 dc1 dc2 g xs i0 ts0 ts1 ds0 ds1 (fun j => bs.getD j 0) i).t1), vI dk, vF dc0, vF dc1, vF dc2, vF ((strAt n tk tc0 tc1 tc2 dk dc0 dc1 dc2 g xs i0 ts0 ts1 ds0 ds1 (fun j => bs.getD j 0) i).d0), vF ((strAt n tk tc0 tc1 tc2 dk dc0 dc1 dc2 g xs i0 ts0 ts1 ds0 ds1 (fun j => bs.getD j 0) i).d1), vF g] (bs.getD i 0) (bs.getD i 0) hl (by first | omega | exact Nat.mod_lt _ (by omega)) (by omega) b0 b1 b2 b3 (lB rfl) rfl (by first | assumption | exact W32.get (by assumption) _ | decide +kernel) hx w9 (Row.congr r9 rfl) r10 (lG (lL r5.lt lR)))) rfl rfl (ltb rfl) ?_
    rintro _ w10 ⟨rfl, h1, h2, h3, h4, h5, r12, r13, m10⟩
    have r14 : Row w10 w6.heap.size 0 [vS b'1 0 n c'1, vI (((((strAt n tk tc0 tc1 tc2 dk dc0 dc1 dc2 g xs i0 ts0 ts1 ds0 ds1 (fun j => bs.getD j 0) i).i) + 1) % n : Nat) : Int), vI tk, vF tc0, vF tc1, vF tc2, vF (stepS tk tc0 tc1 tc2 ((strAt n tk tc0 tc1 tc2 dk dc0 dc1 dc2 g xs i0 ts0 ts1 ds0 ds1 (fun j => bs.getD j 0) i).t0) ((strAt n tk tc0 tc1 tc2 dk dc0 dc1 dc2 g xs i0 ts0 ts1 ds0 ds1 (fun j => bs.getD j 0) i).t1) (((strAt n tk tc0 tc1 tc2 dk dc0 dc1 dc2 g xs i0 ts0 ts1 ds0 ds1 (fun j => bs.getD j 0) i).xs).getD ((strAt n tk tc0 tc1 tc2 dk dc0 dc1 dc2 g xs i0 ts0 ts1 ds0 ds1 (fun j => bs.getD j 0) i).i) 0)), vF (stepT tk tc0 tc1 tc2 ((strAt n tk tc0 tc1 tc2 dk dc0 dc1 dc2 g xs i0 ts0 ts1 ds0 ds1 (fun j => bs.getD j 0) i).t0) ((strAt n tk tc0 tc1 tc2 dk dc0 dc1 dc2 g xs i0 ts0 ts1 ds0 ds1 (fun j => bs.getD j 0) i).t1) (((strAt n tk tc0 tc1 tc2 dk dc0 dc1 dc2 g xs i0 ts0 ts1 ds0 ds1 (fun j => bs.getD j 0) i).xs).getD ((strAt n tk tc0 tc1 tc2 dk dc0 dc1 dc2 g xs i0 ts0 ts1 ds0 ds1 (fun j => bs.getD j 0) i).i) 0)), vI dk, vF dc0, vF dc1, vF dc2, vF (stepS dk dc0 dc1 dc2 ((strAt n tk tc0 tc1 tc2 dk dc0 dc1 dc2 g xs i0 ts0 ts1 ds0 ds1 (fun j => bs.getD j 0) i).d0) ((strAt n tk tc0 tc1 tc2 dk dc0 dc1 dc2 g xs i0 ts0 ts1 ds0 ds1 (fun j => bs.getD j 0) i).d1) (stepY tk tc0 tc1 tc2 ((strAt n tk tc0 tc1 tc2 dk dc0 dc1 dc2 g xs i0 ts0 ts1 ds0 ds1 (fun j => bs.getD j 0) i).t0) ((strAt n tk tc0 tc1 tc2 dk dc0 dc1 dc2 g xs i0 ts0 ts1 ds0 ds1 (fun j => bs.getD j 0) i).t1) (((strAt n tk tc0 tc1 tc2 dk dc0 dc1 dc2 g xs i0 ts0 ts1 ds0 ds1 (fun j => bs.getD j 0) i).xs).getD ((strAt n tk tc0 tc1 tc2 dk dc0 dc1 dc2 g xs i0 ts0 ts1 ds0 ds1 (fun j => bs.getD j 0) i).i) 0))), vF (stepT dk dc0 dc1 dc2 ((strAt n tk tc0 tc1 tc2 dk dc0 dc1 dc2 g xs i0 ts0 ts1 ds0 ds1 (fun j => bs.getD j 0) i).d0) ((strAt n tk tc0 tc1 tc2 dk dc0 dc1 dc2 g xs i0 ts0 ts1 ds0 ds1 (fun j => bs.getD j 0) i).d1) (stepY tk tc0 tc1 tc2 ((strAt n tk tc0 tc1 tc2 dk dc0 dc1 dc2 g xs i0 ts0 ts1 ds0 ds1 (fun j => bs.getD j 0) i).t0) ((strAt n tk tc0 tc1 tc2 dk dc0 dc1 dc2 g xs i0 ts0 ts1 ds0 ds1 (fun j => bs.getD j 0) i).t1) (((strAt n tk tc0 tc1 tc2 dk dc0 dc1 dc2 g xs i0 ts0 ts1 ds0 ds1 (fun j => bs.getD j 0) i).xs).getD ((strAt n tk tc0 tc1 tc2 dk dc0 dc1 dc2 g xs i0 ts0 ts1 ds0 ds1 (fun j => bs.getD j 0) i).i) 0))), vF g] := r12
    refine WL.det (op_indexArr (off' := 0 + i) rfl rfl Try.runUnderlying75 Try.sizeOf27 (by omega) (by omega) (by omega)) rfl rfl rfl ?_
    refine WL.op0 (op_store (i := i) (cs := [vF (((strAt n tk tc0 tc1 tc2 dk dc0 dc1 dc2 g xs i0 ts0 ts1 ds0 ds1 (fun j => bs.getD j 0) i).xs).getD ((strAt n tk tc0 tc1 tc2 dk dc0 dc1 dc2 g xs i0 ts0 ts1 ds0 ds1 (fun j => bs.getD j 0) i).i) 0)]) rfl rfl rfl Try.sizeOf27 rfl (r11.mod m10 (nC (lE (lL (lL r2.lt (lT (lT (lT m3.size m4.size) m5.size) m6.size)) lR)) (nC (lE (lL (lL r2.lt (lT (lT m3.size m4.size) m5.size)) ge1)) nN))) rfl (by rw [fl_length]; have eL : List.length (over (strOut n tk tc0 tc1 tc2 dk dc0 dc1 dc2 g xs i0 ts0 ts1 ds0 ds1 (fun j => bs.getD j 0)) bs i) = 16 := (over_len lb (by omega)); omega) rfl) rfl rfl ?_
    rintro _ w11 ⟨r15, m11, z7⟩
    have r16 : Row w11 w1.heap.size 0 (fl ((over (strOut n tk tc0 tc1 tc2 dk dc0 dc1 dc2 g xs i0 ts0 ts1 ds0 ds1 (fun j => bs.getD j 0)) bs i).set i (((strAt n tk tc0 tc1 tc2 dk dc0 dc1 dc2 g xs i0 ts0 ts1 ds0 ds1 (fun j => bs.getD j 0) i).xs).getD ((strAt n tk tc0 tc1 tc2 dk dc0 dc1 dc2 g xs i0 ts0 ts1 ds0 ds1 (fun j => bs.getD j 0) i).i) 0))) := Row.congr r15 (fl_splice (by have eL : List.length (over (strOut n tk tc0 tc1 tc2 dk dc0 dc1 dc2 g xs i0 ts0 ts1 ds0 ds1 (fun j => bs.getD j 0)) bs i) = 16 := (over_len lb (by omega)); omega))
    refine WL.end ?_
    refine NE.blk ?_
    refine NE.code ?_
    refine CE.region ?_
    refine WL.det (op_move rfl) rfl rfl rfl ?_
    refine WL.det (op_add (r := ((i + 1 : Nat) : Int)) rfl rfl (w_i64 (by omega) (by omega))) rfl rfl rfl ?_
    refine WL.det (op_assign rfl) rfl rfl rfl ?_
    refine WL.end ?_
    exact NE.again (i + 1) (⟨rfl, rfl, rfl, rfl, rfl, rfl, trivial⟩) ⟨(by omega), (by rw [strAt_succ]; exact Nat.mod_lt _ (by omega)), (by rw [strAt_succ]; exact (List.length_set).trans hl), (by rw [strAt_succ]; exact W32.set hx (by assumption)), (by rw [strAt_succ]; assumption), (by rw [strAt_succ]; assumption), (by rw [strAt_succ]; assumption), (by rw [strAt_succ]; assumption), (Row.congr (r14.mod m11 (nC (lG (lL (lL r2.lt (lT (lT (lT m3.size m4.size) m5.size) m6.size)) lR)) nN)) (by rw [strAt_succ]; rfl)), (Row.congr (r13.mod m11 (nC (lG (lL (lL r2.lt (lT (lT m3.size m4.size) m5.size)) ge1)) nN)) (by rw [strAt_succ]; rfl)), (Row.congr r16 (over_set lb (by omega))), ((m9.then m10 ((aC (.inl (by simp)) (aC (.inl (by simp)) aN)))).then m11 ((aC (.inl (by simp)) aN)))⟩ (by first | (dsimp only; omega) | omega)
  · have hp1 := hb1; try simp only [Bool.and_eq_true, Bool.or_eq_true, Bool.not_eq_true', Bool.not_eq_false', Bool.and_eq_false_iff, Bool.or_eq_false_iff, decide_eq_true_eq, decide_eq_false_iff_not, beq_iff_eq, bne_iff_ne, beq_eq_false_iff_ne, bne_eq_false_iff_eq, ne_eq, Bool.false_eq_true, not_false_eq_true, not_true_eq_false, vIn_t, vIn_f] at hp1
    refine CE.cond_f rfl hb1 ?_
    refine CE.exit' ?_
    refine XE.exit_then ?_
    refine XE.exit_then ?_
    refine XE.exit_here ?_
    refine NE.code ?_
    refine CE.seq ?_
    refine CE.draw (fun _ => none) [0, 1, 2] [3, 4] [w2.heap.size] (by kernel_rfl) (by kernel_rfl) ?_
    have md1 : Mod [] w9 w9.drew := (Mod.refl _ _).drew
    generalize w9.drew = w12 at md1 ⊢
    refine DR.det (i := 0) rfl rfl (by kernel_rfl) (.free rfl) rfl rfl (fun wD mD => op_loadA (i := 0) (cs := [vS b'1 0 n c'1, vI (((strAt n tk tc0 tc1 tc2 dk dc0 dc1 dc2 g xs i0 ts0 ts1 ds0 ds1 (fun j => bs.getD j 0) i).i : Nat) : Int), vI tk, vF tc0, vF tc1, vF tc2, vF ((strAt n tk tc0 tc1 tc2 dk dc0 dc1 dc2 g xs i0 ts0 ts1 ds0 ds1 (fun j => bs.getD j 0) i).t0), vF ((strAt n tk tc0 tc1 tc2 dk dc0 dc1 dc2 g xs i0 ts0 ts1 ds0 ds1 (fun j => bs.getD j 0) i).t1), vI dk, vF dc0, vF dc1, vF dc2, vF ((strAt n tk tc0 tc1 tc2 dk dc0 dc1 dc2 g xs i0 ts0 ts1 ds0 ds1 (fun j => bs.getD j 0) i).d0), vF ((strAt n tk tc0 tc1 tc2 dk dc0 dc1 dc2 g xs i0 ts0 ts1 ds0 ds1 (fun j => bs.getD j 0) i).d1), vF g]) rfl Try.isAgg33 Try.sizeOf33 ((r9.ext md1).mod mD (nC (lG (lL (lL r3.lt (lT (lT m4.size m5.size) m6.size)) lR)) nN)).rng rfl rfl rfl) ?_
    refine DR.det (i := 1) rfl rfl (by kernel_rfl) (.free rfl) rfl rfl (fun wD mD => op_loadA (i := 0) (cs := fl (over (strOut n tk tc0 tc1 tc2 dk dc0 dc1 dc2 g xs i0 ts0 ts1 ds0 ds1 (fun j => bs.getD j 0)) bs i)) rfl Try.isAgg75 Try.sizeOf75 ((r11.ext md1).mod mD (nC (lE (lL r2.lt lR)) nN)).rng rfl (fl_whole (over_len lb (by omega))) (fl_len (over_len lb (by omega)))) ?_
    refine DR.st1 (i := 2) rfl rfl (by kernel_rfl) (.free rfl) rfl ?_
    intro w13 m12
    refine Op1.mono (op_store (i := 0) (cs := [vS b'1 0 n c'1, vI (((strAt n tk tc0 tc1 tc2 dk dc0 dc1 dc2 g xs i0 ts0 ts1 ds0 ds1 (fun j => bs.getD j 0) i).i : Nat) : Int), vI tk, vF tc0, vF tc1, vF tc2, vF ((strAt n tk tc0 tc1 tc2 dk dc0 dc1 dc2 g xs i0 ts0 ts1 ds0 ds1 (fun j => bs.getD j 0) i).t0), vF ((strAt n tk tc0 tc1 tc2 dk dc0 dc1 dc2 g xs i0 ts0 ts1 ds0 ds1 (fun j => bs.getD j 0) i).t1), vI dk, vF dc0, vF dc1, vF dc2, vF ((strAt n tk tc0 tc1 tc2 dk dc0 dc1 dc2 g xs i0 ts0 ts1 ds0 ds1 (fun j => bs.getD j 0) i).d0), vF ((strAt n tk tc0 tc1 tc2 dk dc0 dc1 dc2 g xs i0 ts0 ts1 ds0 ds1 (fun j => bs.getD j 0) i).d1), vF g]) rfl rfl rfl Try.sizeOf33 rfl ((((((((r3.ext m4).ext m5).ext m6).ext m7).mod m8 (nC (lE (lL (lL r3.lt (lT (lT m4.size m5.size) m6.size)) lR)) nN)).mod m9 (nC (lE (lL (lL r3.lt (lT (lT m4.size m5.size) m6.size)) lR)) (nC (lE (lL (lL r3.lt (lT m4.size m5.size)) ge1)) (nC (lG (lL r2.lt lR)) nN)))).ext md1).ext m12) rfl (lB rfl) rfl) ?_
    rintro _ w14 ⟨r17, m13, z8⟩
    have r18 : Row w14 w2.heap.size 0 [vS b'1 0 n c'1, vI (((strAt n tk tc0 tc1 tc2 dk dc0 dc1 dc2 g xs i0 ts0 ts1 ds0 ds1 (fun j => bs.getD j 0) i).i : Nat) : Int), vI tk, vF tc0, vF tc1, vF tc2, vF ((strAt n tk tc0 tc1 tc2 dk dc0 dc1 dc2 g xs i0 ts0 ts1 ds0 ds1 (fun j => bs.getD j 0) i).t0), vF ((strAt n tk tc0 tc1 tc2 dk dc0 dc1 dc2 g xs i0 ts0 ts1 ds0 ds1 (fun j => bs.getD j 0) i).t1), vI dk, vF dc0, vF dc1, vF dc2, vF ((strAt n tk tc0 tc1 tc2 dk dc0 dc1 dc2 g xs i0 ts0 ts1 ds0 ds1 (fun j => bs.getD j 0) i).d0), vF ((strAt n tk tc0 tc1 tc2 dk dc0 dc1 dc2 g xs i0 ts0 ts1 ds0 ds1 (fun j => bs.getD j 0) i).d1), vF g] := Row.congr r17 rfl
    refine ⟨(((Mod.refl [w2.heap.size] w12).nt m12).then m13 ((aC (.inl (by simp)) aN))), ?_⟩
    refine DR.done rfl ?_
    intro w15 m14
    refine WO.op0 rfl (.free rfl) rfl (op_store (i := 0) (cs := fl (over (strOut n tk tc0 tc1 tc2 dk dc0 dc1 dc2 g xs i0 ts0 ts1 ds0 ds1 (fun j => bs.getD j 0)) bs i)) rfl rfl rfl Try.sizeOf75 (fl_len (over_len lb (by omega))) (((((((((r4.ext m5).ext m6).ext m7).mod m8 (nC (lE (lL (lL r4.lt (lT m5.size m6.size)) lR)) nN)).mod m9 (nC (lE (lL (lL r4.lt (lT m5.size m6.size)) lR)) (nC (lE (lL (lL r4.lt m5.size) ge1)) (nC (lG (lL (lL r2.lt m3.size) lR)) nN)))).ext md1).ext m12).mod m13 (nC (lG (lL r3.lt lR)) nN)).ext m14) rfl (by rw [fl_length, List.length_replicate]; decide) (fl_one _)) ?_
    rintro _ w16 ⟨r19, m15, z9⟩
    have r20 : Row w16 w3.heap.size 0 (fl (over (strOut n tk tc0 tc1 tc2 dk dc0 dc1 dc2 g xs i0 ts0 ts1 ds0 ds1 (fun j => bs.getD j 0)) bs i)) := Row.congr r19 (splice_all ((fl_len (List.length_replicate)).trans (fl_len ((over_len lb (by omega)))).symm))
    refine WO.det (op_assign rfl) rfl (.free rfl) rfl rfl ?_
    refine WO.end ?_
    refine NE.code ?_
    refine CE.ret' ?_
    refine XE.leaveT Try.results47 (res_agg (cs := [vS b'1 0 n c'1, vI (((strAt n tk tc0 tc1 tc2 dk dc0 dc1 dc2 g xs i0 ts0 ts1 ds0 ds1 (fun j => bs.getD j 0) i).i : Nat) : Int), vI tk, vF tc0, vF tc1, vF tc2, vF ((strAt n tk tc0 tc1 tc2 dk dc0 dc1 dc2 g xs i0 ts0 ts1 ds0 ds1 (fun j => bs.getD j 0) i).t0), vF ((strAt n tk tc0 tc1 tc2 dk dc0 dc1 dc2 g xs i0 ts0 ts1 ds0 ds1 (fun j => bs.getD j 0) i).t1), vI dk, vF dc0, vF dc1, vF dc2, vF ((strAt n tk tc0 tc1 tc2 dk dc0 dc1 dc2 g xs i0 ts0 ts1 ds0 ds1 (fun j => bs.getD j 0) i).d0), vF ((strAt n tk tc0 tc1 tc2 dk dc0 dc1 dc2 g xs i0 ts0 ts1 ds0 ds1 (fun j => bs.getD j 0) i).d1), vF g]) rfl Try.isAgg33 Try.sizeOf33 ((r18.ext m14).mod m15 (nC (lE (lL r3.lt lR)) nN)).rng rfl (res_agg (cs := fl (over (strOut n tk tc0 tc1 tc2 dk dc0 dc1 dc2 g xs i0 ts0 ts1 ds0 ds1 (fun j => bs.getD j 0)) bs i)) rfl Try.isAgg75 Try.sizeOf75 r20.rng (fl_len (over_len lb (by omega))) (res_tmp rfl res_nil))) ?_
    refine ⟨b'1, c'1, ?_, ?_, (Row.congr (((((r10.ext md1).ext m12).mod m13 (nC (lG (lL (lL r3.lt (lT m4.size m5.size)) ge1)) nN)).ext m14).mod m15 (nC (lG (lL (lL r4.lt m5.size) ge1)) nN)) ?_), (lT (lT (lT (lT (lT m1.size m2.size) m3.size) m4.size) m5.size) ge1), (((((((((((((((Mod.refl [] w).nt m1).nt m2).nt m3).nt m4).nt m5).nt m6).nt m7).then m8 ((aC (.inr (lT (lT (lT (lT (lT (lT m1.size m2.size) m3.size) m4.size) m5.size) m6.size) lR)) aN))).then m9 ((aC (.inr (lT (lT (lT (lT (lT (lT m1.size m2.size) m3.size) m4.size) m5.size) m6.size) lR)) (aC (.inr (lT (lT (lT (lT (lT m1.size m2.size) m3.size) m4.size) m5.size) ge1)) (aC (.inr (lT m1.size lR)) aN))))).nt md1).nt m12).then m13 ((aC (.inr (lT (lT m1.size m2.size) lR)) aN))).nt m14).then m15 ((aC (.inr (lT (lT (lT m1.size m2.size) m3.size) lR)) aN)))⟩
    all_goals first | assumption | (have e : i = 16 := (by omega); subst e; first | assumption | (rw [over_full _ lb]; done) | (rw [over_full _ List.length_replicate]; done) | rfl) | rfl

set_option maxRecDepth 100000 in
set_option maxHeartbeats 2000000 in
theorem c_sBlockStr_bad (n : Nat) (c : Nat) (b : Nat) (xs : List Nat) (j : Int) (tk : Int) (tc0 : Nat) (tc1 : Nat) (tc2 : Nat) (ts0 : Nat) (ts1 : Nat) (dk : Int) (dc0 : Nat) (dc1 : Nat) (dc2 : Nat) (ds0 : Nat) (ds1 : Nat) (g : Nat) (bs : List Nat) (ln : xs.length = n) (hn : n ≤ 1048576) (lts0 : ts0 < wid .f32) (lts1 : ts1 < wid .f32) (lds0 : ds0 < wid .f32) (lds1 : ds1 < wid .f32) (lb : bs.length = 16) (wb : W32 bs) (hv : vStr n j tk tc0 tc1 tc2 ts0 ts1 dk dc0 dc1 dc2 ds0 ds1 g = false) (w : World) (r : Rng w b 0 (fl xs)) : Cl Try.prog 47 #[.agg #[vS b 0 n c, vI j, vI tk, vF tc0, vF tc1, vF tc2, vF ts0, vF ts1, vI dk, vF dc0, vF dc1, vF dc2, vF ds0, vF ds1, vF g], .agg (fl bs).toArray] w fun v w' => v = .tuple #[.agg #[.slice none 0 0, vI 0, vI 0, vF 0, vF 0, vF 0, vF 0, vF 0, vI 0, vF 0, vF 0, vF 0, vF 0, vF 0, vF 0], .agg (fl (List.replicate 16 0)).toArray, vI 1] ∧ Mod [] w w' := by
  refine Cl.of Try.func47 Try.ntmps47 rfl rfl (ρ := [(0, .agg #[vS b 0 n c, vI j, vI tk, vF tc0, vF tc1, vF tc2, vF ts0, vF ts1, vI dk, vF dc0, vF dc1, vF dc2, vF ds0, vF ds1, vF g]), (1, .agg (fl bs).toArray)]) rfl ?_
  refine CE.seq ?_
  refine CE.region ?_
  refine WL.op (op_box (cs := [vS b 0 n c, vI j, vI tk, vF tc0, vF tc1, vF tc2, vF ts0, vF ts1, vI dk, vF dc0, vF dc1, vF dc2, vF ds0, vF ds1, vF g]) rfl rfl) rfl rfl (ltb rfl) ?_
  rintro _ w1 ⟨rfl, r1, m1, z1⟩
  refine WL.op (op_box (cs := fl bs) rfl rfl) rfl rfl (ltb rfl) ?_
  rintro _ w2 ⟨rfl, r2, m2, z2⟩
  refine WL.op (op_alloc (cs := [.slice none 0 0, vI 0, vI 0, vF 0, vF 0, vF 0, vF 0, vF 0, vI 0, vF 0, vF 0, vF 0, vF 0, vF 0, vF 0]) Try.zeroValue33 rfl) rfl rfl (ltb rfl) ?_
  rintro _ w3 ⟨rfl, r3, m3, z3⟩
  refine WL.op (op_alloc (cs := fl (List.replicate 16 0)) Try.zeroValue75 rfl) rfl rfl (ltb rfl) ?_
  rintro _ w4 ⟨rfl, r4, m4, z4⟩
  refine WL.det (op_assign rfl) rfl rfl rfl ?_
  refine WL.end ?_
  refine NE.code ?_
  refine CE.seq ?_
  refine CE.seq ?_
  refine CE.region ?_
  refine WL.call (oc_call (vs := [vP w.heap.size 0]) (cap := []) rfl rfl rfl Try.call70 (c_l03Ok n c (some ⟨b, 0, none⟩) j tk tc0 tc1 tc2 ts0 ts1 dk dc0 dc1 dc2 ds0 ds1 g w.heap.size 0 [vS b 0 n c, vI j, vI tk, vF tc0, vF tc1, vF tc2, vF ts0, vF ts1, vI dk, vF dc0, vF dc1, vF dc2, vF ds0, vF ds1, vF g] (by omega) (lB rfl) w4 (Row.congr (((r1.ext m2).ext m3).ext m4) rfl).rng)) rfl rfl (ltb rfl) ?_
  rintro _ w5 ⟨rfl, m5⟩
  refine WL.det (op_not rfl) rfl rfl rfl ?_
  refine WL.end ?_
  refine NE.code ?_
  refine CE.cond_t rfl (bnot_f hv) ?_
  refine CE.seq ?_
  refine CE.region ?_
  refine WL.det (op_build (qs := []) (cells := #[.slice none 0 0, vI 0, vI 0, vF 0, vF 0, vF 0, vF 0, vF 0, vI 0, vF 0, vF 0, vF 0, vF 0, vF 0, vF 0]) rfl (by kernel_rfl)) rfl rfl rfl ?_
  refine WL.det (op_build (qs := []) (cells := #[vF 0, vF 0, vF 0, vF 0, vF 0, vF 0, vF 0, vF 0, vF 0, vF 0, vF 0, vF 0, vF 0, vF 0, vF 0, vF 0]) rfl (by kernel_rfl)) rfl rfl rfl ?_
  refine WL.op0 (op_store (i := 0) (cs := [.slice none 0 0, vI 0, vI 0, vF 0, vF 0, vF 0, vF 0, vF 0, vI 0, vF 0, vF 0, vF 0, vF 0, vF 0, vF 0]) rfl rfl rfl Try.sizeOf33 rfl ((r3.ext m4).ext m5) rfl (lB rfl) rfl) rfl rfl ?_
  rintro _ w6 ⟨r5, m6, z5⟩
  have r6 : Row w6 w2.heap.size 0 [.slice none 0 0, vI 0, vI 0, vF 0, vF 0, vF 0, vF 0, vF 0, vI 0, vF 0, vF 0, vF 0, vF 0, vF 0, vF 0] := Row.congr r5 rfl
  refine WL.op0 (op_store (i := 0) (cs := fl (List.replicate 16 0)) rfl rfl rfl Try.sizeOf75 (fl_len List.length_replicate) ((r4.ext m5).mod m6 (nC (lG (lL r3.lt lR)) nN)) rfl (by rw [fl_length, List.length_replicate]; decide) (fl_one _)) rfl rfl ?_
  rintro _ w7 ⟨r7, m7, z6⟩
  have r8 : Row w7 w3.heap.size 0 (fl (List.replicate 16 0)) := Row.congr r7 (splice_all ((fl_len (List.length_replicate)).trans (fl_len (List.length_replicate)).symm))
  refine WL.det (op_assign rfl) rfl rfl rfl ?_
  refine WL.end ?_
  refine NE.code ?_
  refine CE.ret' ?_
  refine XE.ret_then ?_
  refine XE.leaveT Try.results47 (res_agg (cs := [.slice none 0 0, vI 0, vI 0, vF 0, vF 0, vF 0, vF 0, vF 0, vI 0, vF 0, vF 0, vF 0, vF 0, vF 0, vF 0]) rfl Try.isAgg33 Try.sizeOf33 (r6.mod m7 (nC (lE (lL r3.lt lR)) nN)).rng rfl (res_agg (cs := fl (List.replicate 16 0)) rfl Try.isAgg75 Try.sizeOf75 r8.rng (fl_len List.length_replicate) (res_tmp rfl res_nil))) ?_
  refine ⟨rfl, ((((((((Mod.refl [] w).nt m1).nt m2).nt m3).nt m4).nt m5).then m6 ((aC (.inr (lT (lT m1.size m2.size) lR)) aN))).then m7 ((aC (.inr (lT (lT (lT m1.size m2.size) m3.size) lR)) aN)))⟩

set_option maxRecDepth 100000 in
set_option maxHeartbeats 2000000 in
theorem c_iBlockStr (n : Nat) (c : Nat) (b : Nat) (xs : List Nat) (i0 : Nat) (tk : Int) (tc0 : Nat) (tc1 : Nat) (tc2 : Nat) (ts0 : Nat) (ts1 : Nat) (dk : Int) (dc0 : Nat) (dc1 : Nat) (dc2 : Nat) (ds0 : Nat) (ds1 : Nat) (g : Nat) (bs : List Nat) (ln : xs.length = n) (hi0 : i0 < n) (hn : n ≤ 1024) (wx : W32 xs) (lts0 : ts0 < wid .f32) (lts1 : ts1 < wid .f32) (lds0 : ds0 < wid .f32) (lds1 : ds1 < wid .f32) (lb : bs.length = 16) (wb : W32 bs) (hv : vStr n ((i0 : Nat) : Int) tk tc0 tc1 tc2 ts0 ts1 dk dc0 dc1 dc2 ds0 ds1 g = true) (w : World) (r : Rng w b 0 (fl xs)) : Cl Try.prog 49 #[.agg #[vS b 0 n c, vI ((i0 : Nat) : Int), vI tk, vF tc0, vF tc1, vF tc2, vF ts0, vF ts1, vI dk, vF dc0, vF dc1, vF dc2, vF ds0, vF ds1, vF g], .agg (fl bs).toArray] w fun v w' => ∃ (b' : Nat) (c' : Nat), v = .tuple #[.agg #[vS b' 0 n c', vI (((strAt n tk tc0 tc1 tc2 dk dc0 dc1 dc2 g xs i0 ts0 ts1 ds0 ds1 (fun j => bs.getD j 0) 16).i : Nat) : Int), vI tk, vF tc0, vF tc1, vF tc2, vF ((strAt n tk tc0 tc1 tc2 dk dc0 dc1 dc2 g xs i0 ts0 ts1 ds0 ds1 (fun j => bs.getD j 0) 16).t0), vF ((strAt n tk tc0 tc1 tc2 dk dc0 dc1 dc2 g xs i0 ts0 ts1 ds0 ds1 (fun j => bs.getD j 0) 16).t1), vI dk, vF dc0, vF dc1, vF dc2, vF ((strAt n tk tc0 tc1 tc2 dk dc0 dc1 dc2 g xs i0 ts0 ts1 ds0 ds1 (fun j => bs.getD j 0) 16).d0), vF ((strAt n tk tc0 tc1 tc2 dk dc0 dc1 dc2 g xs i0 ts0 ts1 ds0 ds1 (fun j => bs.getD j 0) 16).d1), vF g], .agg (fl ((List.range 16).map (strOut n tk tc0 tc1 tc2 dk dc0 dc1 dc2 g xs i0 ts0 ts1 ds0 ds1 (fun j => bs.getD j 0)))).toArray, vI 0] ∧ ((strAt n tk tc0 tc1 tc2 dk dc0 dc1 dc2 g xs i0 ts0 ts1 ds0 ds1 (fun j => bs.getD j 0) 16).xs.length = n) ∧ Row w' b' 0 (fl ((strAt n tk tc0 tc1 tc2 dk dc0 dc1 dc2 g xs i0 ts0 ts1 ds0 ds1 (fun j => bs.getD j 0) 16).xs)) ∧ w.heap.size ≤ b' ∧ Mod [] w w' := by
  refine Cl.of Try.func49 Try.ntmps49 rfl rfl (ρ := [(0, .agg #[vS b 0 n c, vI ((i0 : Nat) : Int), vI tk, vF tc0, vF tc1, vF tc2, vF ts0, vF ts1, vI dk, vF dc0, vF dc1, vF dc2, vF ds0, vF ds1, vF g]), (1, .agg (fl bs).toArray)]) rfl ?_
  refine CE.seq ?_
  refine CE.region ?_
  refine WL.op (op_box (cs := [vS b 0 n c, vI ((i0 : Nat) : Int), vI tk, vF tc0, vF tc1, vF tc2, vF ts0, vF ts1, vI dk, vF dc0, vF dc1, vF dc2, vF ds0, vF ds1, vF g]) rfl rfl) rfl rfl (ltb rfl) ?_
  rintro _ w1 ⟨rfl, r1, m1, z1⟩
  refine WL.op (op_box (cs := fl bs) rfl rfl) rfl rfl (ltb rfl) ?_
  rintro _ w2 ⟨rfl, r2, m2, z2⟩
  refine WL.op (op_alloc (cs := [.slice none 0 0, vI 0, vI 0, vF 0, vF 0, vF 0, vF 0, vF 0, vI 0, vF 0, vF 0, vF 0, vF 0, vF 0, vF 0]) Try.zeroValue33 rfl) rfl rfl (ltb rfl) ?_
  rintro _ w3 ⟨rfl, r3, m3, z3⟩
  refine WL.op (op_alloc (cs := fl (List.replicate 16 0)) Try.zeroValue75 rfl) rfl rfl (ltb rfl) ?_
  rintro _ w4 ⟨rfl, r4, m4, z4⟩
  refine WL.det (op_assign rfl) rfl rfl rfl ?_
  refine WL.end ?_
  refine NE.code ?_
  refine CE.seq ?_
  refine CE.seq ?_
  refine CE.region ?_
  refine WL.det (op_loadA (i := 0) (cs := [vS b 0 n c, vI ((i0 : Nat) : Int), vI tk, vF tc0, vF tc1, vF tc2, vF ts0, vF ts1, vI dk, vF dc0, vF dc1, vF dc2, vF ds0, vF ds1, vF g]) rfl Try.isAgg33 Try.sizeOf33 (((r1.ext m2).ext m3).ext m4).rng rfl rfl rfl) rfl rfl rfl ?_
  refine WL.call (oc_call (vs := [.agg #[vS b 0 n c, vI ((i0 : Nat) : Int), vI tk, vF tc0, vF tc1, vF tc2, vF ts0, vF ts1, vI dk, vF dc0, vF dc1, vF dc2, vF ds0, vF ds1, vF g]]) (cap := []) rfl rfl rfl Try.call63 (c_ValidString n c (some ⟨b, 0, none⟩) ((i0 : Nat) : Int) tk tc0 tc1 tc2 ts0 ts1 dk dc0 dc1 dc2 ds0 ds1 g (by omega) w4)) rfl rfl (ltb rfl) ?_
  rintro _ w5 ⟨rfl, m5⟩
  refine WL.det (op_not rfl) rfl rfl rfl ?_
  refine WL.end ?_
  refine NE.code ?_
  refine CE.cond_f rfl (bnot_t hv) ?_
  refine CE.skip' ?_
  refine NE.code ?_
  refine CE.seq ?_
  refine CE.region ?_
  refine WL.det (op_loadA (i := 0) (cs := [vS b 0 n c, vI ((i0 : Nat) : Int), vI tk, vF tc0, vF tc1, vF tc2, vF ts0, vF ts1, vI dk, vF dc0, vF dc1, vF dc2, vF ds0, vF ds1, vF g]) rfl Try.isAgg33 Try.sizeOf33 ((((r1.ext m2).ext m3).ext m4).ext m5).rng rfl rfl rfl) rfl rfl rfl ?_
  refine WL.call (oc_call (vs := [.agg #[vS b 0 n c, vI ((i0 : Nat) : Int), vI tk, vF tc0, vF tc1, vF tc2, vF ts0, vF ts1, vI dk, vF dc0, vF dc1, vF dc2, vF ds0, vF ds1, vF g]]) (cap := []) rfl rfl rfl Try.call79 (c_cloneString n c b xs ((i0 : Nat) : Int) tk tc0 tc1 tc2 ts0 ts1 dk dc0 dc1 dc2 ds0 ds1 g ln (by omega) (by omega) w5 (((((r.ext m1).ext m2).ext m3).ext m4).ext m5))) rfl rfl (ltb rfl) ?_
  rintro _ w6 ⟨b'1, c'1, rfl, r5, ge1, m6⟩
  refine WL.op0 (op_store (i := 0) (cs := [vS b'1 0 n c'1, vI ((i0 : Nat) : Int), vI tk, vF tc0, vF tc1, vF tc2, vF ts0, vF ts1, vI dk, vF dc0, vF dc1, vF dc2, vF ds0, vF ds1, vF g]) rfl rfl rfl Try.sizeOf33 rfl (((((r1.ext m2).ext m3).ext m4).ext m5).ext m6) rfl (lB rfl) rfl) rfl rfl ?_
  rintro _ w7 ⟨r6, m7, z5⟩
  have r7 : Row w7 w.heap.size 0 [vS b'1 0 n c'1, vI ((i0 : Nat) : Int), vI tk, vF tc0, vF tc1, vF tc2, vF ts0, vF ts1, vI dk, vF dc0, vF dc1, vF dc2, vF ds0, vF ds1, vF g] := Row.congr r6 rfl
  refine WL.end ?_
  refine NE.code ?_
  refine CE.seq ?_
  refine CE.region ?_
  refine WL.det (op_makeFunc (vs := []) (us := [vP w.heap.size 0, vP w1.heap.size 0]) rfl rfl) rfl rfl rfl ?_
  refine WL.call (oc_call (vs := [.func (.func 109) #[] #[vP w.heap.size 0, vP w1.heap.size 0]]) (cap := []) rfl rfl rfl Try.call108 (c_made_blockStr n c'1 b'1 xs i0 tk tc0 tc1 tc2 ts0 ts1 dk dc0 dc1 dc2 ds0 ds1 g w.heap.size 0 [vS b'1 0 n c'1, vI ((i0 : Nat) : Int), vI tk, vF tc0, vF tc1, vF tc2, vF ts0, vF ts1, vI dk, vF dc0, vF dc1, vF dc2, vF ds0, vF ds1, vF g] bs w1.heap.size ln (by omega) (by omega) (by first | assumption | exact W32.set (by assumption) (by first | assumption | exact wid_lt (by assumption)) | exact W32.zeros _ | exact W32.nil) lts0 lts1 lds0 lds1 (lB rfl) lb wb w7 (Row.congr r7 rfl) (r5.mod m7 (nC (lG (lL (lL r1.lt (lT (lT (lT m2.size m3.size) m4.size) m5.size)) ge1)) nN)) (((((r2.ext m3).ext m4).ext m5).ext m6).mod m7 (nC (lG (lL r1.lt lR)) nN)).rng (lE (lL (lL r1.lt (lT (lT (lT m2.size m3.size) m4.size) m5.size)) ge1)) (lG (lL r1.lt lR)) (lE (lL (lL r2.lt (lT (lT m3.size m4.size) m5.size)) ge1)))) rfl rfl (ltb rfl) ?_
  rintro _ w8 ⟨rfl, h1, r8, r9, m8⟩
  have r10 : Row w8 w.heap.size 0 [vS b'1 0 n c'1, vI (((strAt n tk tc0 tc1 tc2 dk dc0 dc1 dc2 g xs i0 ts0 ts1 ds0 ds1 (fun j => bs.getD j 0) 16).i : Nat) : Int), vI tk, vF tc0, vF tc1, vF tc2, vF ((strAt n tk tc0 tc1 tc2 dk dc0 dc1 dc2 g xs i0 ts0 ts1 ds0 ds1 (fun j => bs.getD j 0) 16).t0), vF ((strAt n tk tc0 tc1 tc2 dk dc0 dc1 dc2 g xs i0 ts0 ts1 ds0 ds1 (fun j => bs.getD j 0) 16).t1), vI dk, vF dc0, vF dc1, vF dc2, vF ((strAt n tk tc0 tc1 tc2 dk dc0 dc1 dc2 g xs i0 ts0 ts1 ds0 ds1 (fun j => bs.getD j 0) 16).d0), vF ((strAt n tk tc0 tc1 tc2 dk dc0 dc1 dc2 g xs i0 ts0 ts1 ds0 ds1 (fun j => bs.getD j 0) 16).d1), vF g] := r8
  refine WL.op (op_alloc (cs := fl (List.replicate 16 0)) Try.zeroValue75 rfl) rfl rfl (ltb rfl) ?_
  rintro _ w9 ⟨rfl, r11, m9, z6⟩
  refine WL.op0 (op_store (i := 0) (cs := fl ((List.range 16).map (strOut n tk tc0 tc1 tc2 dk dc0 dc1 dc2 g xs i0 ts0 ts1 ds0 ds1 (fun j => bs.getD j 0)))) rfl rfl rfl Try.sizeOf75 (fl_len over_done_len) r11 rfl (by rw [fl_length, List.length_replicate]; decide) (fl_one _)) rfl rfl ?_
  rintro _ w10 ⟨r12, m10, z7⟩
  have r13 : Row w10 w8.heap.size 0 (fl ((List.range 16).map (strOut n tk tc0 tc1 tc2 dk dc0 dc1 dc2 g xs i0 ts0 ts1 ds0 ds1 (fun j => bs.getD j 0)))) := Row.congr r12 (splice_all ((fl_len (List.length_replicate)).trans (fl_len (over_done_len)).symm))
  refine WL.end ?_
  refine NE.code ?_
  refine CE.seq ?_
  refine CE.draw (fun _ => none) [0, 1, 2] [3, 4] [w2.heap.size] (by kernel_rfl) (by kernel_rfl) ?_
  have md1 : Mod [] w10 w10.drew := (Mod.refl _ _).drew
  generalize w10.drew = w11 at md1 ⊢
  refine DR.det (i := 0) rfl rfl (by kernel_rfl) (.free rfl) rfl rfl (fun wD mD => op_loadA (i := 0) (cs := [vS b'1 0 n c'1, vI (((strAt n tk tc0 tc1 tc2 dk dc0 dc1 dc2 g xs i0 ts0 ts1 ds0 ds1 (fun j => bs.getD j 0) 16).i : Nat) : Int), vI tk, vF tc0, vF tc1, vF tc2, vF ((strAt n tk tc0 tc1 tc2 dk dc0 dc1 dc2 g xs i0 ts0 ts1 ds0 ds1 (fun j => bs.getD j 0) 16).t0), vF ((strAt n tk tc0 tc1 tc2 dk dc0 dc1 dc2 g xs i0 ts0 ts1 ds0 ds1 (fun j => bs.getD j 0) 16).t1), vI dk, vF dc0, vF dc1, vF dc2, vF ((strAt n tk tc0 tc1 tc2 dk dc0 dc1 dc2 g xs i0 ts0 ts1 ds0 ds1 (fun j => bs.getD j 0) 16).d0), vF ((strAt n tk tc0 tc1 tc2 dk dc0 dc1 dc2 g xs i0 ts0 ts1 ds0 ds1 (fun j => bs.getD j 0) 16).d1), vF g]) rfl Try.isAgg33 Try.sizeOf33 ((((r10.ext m9).mod m10 (nC (lE (lL (lL r1.lt (lT (lT (lT (lT (lT (lT m2.size m3.size) m4.size) m5.size) m6.size) m7.size) m8.size)) lR)) nN)).ext md1).mod mD (nC (lE (lL (lL r1.lt m2.size) lR)) nN)).rng rfl rfl rfl) ?_
  refine DR.det (i := 1) rfl rfl (by kernel_rfl) (.free rfl) rfl rfl (fun wD mD => op_loadA (i := 0) (cs := fl ((List.range 16).map (strOut n tk tc0 tc1 tc2 dk dc0 dc1 dc2 g xs i0 ts0 ts1 ds0 ds1 (fun j => bs.getD j 0)))) rfl Try.isAgg75 Try.sizeOf75 ((r13.ext md1).mod mD (nC (lG (lL (lL r3.lt (lT (lT (lT (lT m4.size m5.size) m6.size) m7.size) m8.size)) lR)) nN)).rng rfl (fl_whole over_done_len) (fl_len over_done_len)) ?_
  refine DR.st1 (i := 2) rfl rfl (by kernel_rfl) (.free rfl) rfl ?_
  intro w12 m11
  refine Op1.mono (op_store (i := 0) (cs := [vS b'1 0 n c'1, vI (((strAt n tk tc0 tc1 tc2 dk dc0 dc1 dc2 g xs i0 ts0 ts1 ds0 ds1 (fun j => bs.getD j 0) 16).i : Nat) : Int), vI tk, vF tc0, vF tc1, vF tc2, vF ((strAt n tk tc0 tc1 tc2 dk dc0 dc1 dc2 g xs i0 ts0 ts1 ds0 ds1 (fun j => bs.getD j 0) 16).t0), vF ((strAt n tk tc0 tc1 tc2 dk dc0 dc1 dc2 g xs i0 ts0 ts1 ds0 ds1 (fun j => bs.getD j 0) 16).t1), vI dk, vF dc0, vF dc1, vF dc2, vF ((strAt n tk tc0 tc1 tc2 dk dc0 dc1 dc2 g xs i0 ts0 ts1 ds0 ds1 (fun j => bs.getD j 0) 16).d0), vF ((strAt n tk tc0 tc1 tc2 dk dc0 dc1 dc2 g xs i0 ts0 ts1 ds0 ds1 (fun j => bs.getD j 0) 16).d1), vF g]) rfl rfl rfl Try.sizeOf33 rfl (((((((((r3.ext m4).ext m5).ext m6).mod m7 (nC (lG (lL (lL r1.lt m2.size) lR)) nN)).mod m8 (nC (lG (lL (lL r1.lt m2.size) lR)) (nC (lE (lL (lL r3.lt (lT m4.size m5.size)) ge1)) nN))).ext m9).mod m10 (nC (lE (lL (lL r3.lt (lT (lT (lT (lT m4.size m5.size) m6.size) m7.size) m8.size)) lR)) nN)).ext md1).ext m11) rfl (lB rfl) rfl) ?_
  rintro _ w13 ⟨r14, m12, z8⟩
  have r15 : Row w13 w2.heap.size 0 [vS b'1 0 n c'1, vI (((strAt n tk tc0 tc1 tc2 dk dc0 dc1 dc2 g xs i0 ts0 ts1 ds0 ds1 (fun j => bs.getD j 0) 16).i : Nat) : Int), vI tk, vF tc0, vF tc1, vF tc2, vF ((strAt n tk tc0 tc1 tc2 dk dc0 dc1 dc2 g xs i0 ts0 ts1 ds0 ds1 (fun j => bs.getD j 0) 16).t0), vF ((strAt n tk tc0 tc1 tc2 dk dc0 dc1 dc2 g xs i0 ts0 ts1 ds0 ds1 (fun j => bs.getD j 0) 16).t1), vI dk, vF dc0, vF dc1, vF dc2, vF ((strAt n tk tc0 tc1 tc2 dk dc0 dc1 dc2 g xs i0 ts0 ts1 ds0 ds1 (fun j => bs.getD j 0) 16).d0), vF ((strAt n tk tc0 tc1 tc2 dk dc0 dc1 dc2 g xs i0 ts0 ts1 ds0 ds1 (fun j => bs.getD j 0) 16).d1), vF g] := Row.congr r14 rfl
  refine ⟨(((Mod.refl [w2.heap.size] w11).nt m11).then m12 ((aC (.inl (by simp)) aN))), ?_⟩
  refine DR.done rfl ?_
  intro w14 m13
  refine WO.op0 rfl (.free rfl) rfl (op_store (i := 0) (cs := fl ((List.range 16).map (strOut n tk tc0 tc1 tc2 dk dc0 dc1 dc2 g xs i0 ts0 ts1 ds0 ds1 (fun j => bs.getD j 0)))) rfl rfl rfl Try.sizeOf75 (fl_len over_done_len) ((((((((((r4.ext m5).ext m6).mod m7 (nC (lG (lL (lL r1.lt (lT m2.size m3.size)) lR)) nN)).mod m8 (nC (lG (lL (lL r1.lt (lT m2.size m3.size)) lR)) (nC (lE (lL (lL r4.lt m5.size) ge1)) nN))).ext m9).mod m10 (nC (lE (lL (lL r4.lt (lT (lT (lT m5.size m6.size) m7.size) m8.size)) lR)) nN)).ext md1).ext m11).mod m12 (nC (lG (lL r3.lt lR)) nN)).ext m13) rfl (by rw [fl_length, List.length_replicate]; decide) (fl_one _)) ?_
  rintro _ w15 ⟨r16, m14, z9⟩
  have r17 : Row w15 w3.heap.size 0 (fl ((List.range 16).map (strOut n tk tc0 tc1 tc2 dk dc0 dc1 dc2 g xs i0 ts0 ts1 ds0 ds1 (fun j => bs.getD j 0)))) := Row.congr r16 (splice_all ((fl_len (List.length_replicate)).trans (fl_len (over_done_len)).symm))
  refine WO.det (op_assign rfl) rfl (.free rfl) rfl rfl ?_
  refine WO.end ?_
  refine NE.code ?_
  refine CE.ret' ?_
  refine XE.leaveT Try.results49 (res_agg (cs := [vS b'1 0 n c'1, vI (((strAt n tk tc0 tc1 tc2 dk dc0 dc1 dc2 g xs i0 ts0 ts1 ds0 ds1 (fun j => bs.getD j 0) 16).i : Nat) : Int), vI tk, vF tc0, vF tc1, vF tc2, vF ((strAt n tk tc0 tc1 tc2 dk dc0 dc1 dc2 g xs i0 ts0 ts1 ds0 ds1 (fun j => bs.getD j 0) 16).t0), vF ((strAt n tk tc0 tc1 tc2 dk dc0 dc1 dc2 g xs i0 ts0 ts1 ds0 ds1 (fun j => bs.getD j 0) 16).t1), vI dk, vF dc0, vF dc1, vF dc2, vF ((strAt n tk tc0 tc1 tc2 dk dc0 dc1 dc2 g xs i0 ts0 ts1 ds0 ds1 (fun j => bs.getD j 0) 16).d0), vF ((strAt n tk tc0 tc1 tc2 dk dc0 dc1 dc2 g xs i0 ts0 ts1 ds0 ds1 (fun j => bs.getD j 0) 16).d1), vF g]) rfl Try.isAgg33 Try.sizeOf33 ((r15.ext m13).mod m14 (nC (lE (lL r3.lt lR)) nN)).rng rfl (res_agg (cs := fl ((List.range 16).map (strOut n tk tc0 tc1 tc2 dk dc0 dc1 dc2 g xs i0 ts0 ts1 ds0 ds1 (fun j => bs.getD j 0)))) rfl Try.isAgg75 Try.sizeOf75 r17.rng (fl_len over_done_len) (res_tmp rfl res_nil))) ?_
  refine ⟨b'1, c'1, rfl, ?_, (((((((r9.ext m9).mod m10 (nC (lE (lL (lL r5.lt (lT m7.size m8.size)) lR)) nN)).ext md1).ext m11).mod m12 (nC (lG (lL (lL r3.lt (lT m4.size m5.size)) ge1)) nN)).ext m13).mod m14 (nC (lG (lL (lL r4.lt m5.size) ge1)) nN)), (lT (lT (lT (lT (lT m1.size m2.size) m3.size) m4.size) m5.size) ge1), ((((((((((((((((Mod.refl [] w).nt m1).nt m2).nt m3).nt m4).nt m5).nt m6).then m7 ((aC (.inr lR) aN))).then m8 ((aC (.inr lR) (aC (.inr (lT (lT (lT (lT (lT m1.size m2.size) m3.size) m4.size) m5.size) ge1)) aN)))).nt m9).then m10 ((aC (.inr (lT (lT (lT (lT (lT (lT (lT (lT m1.size m2.size) m3.size) m4.size) m5.size) m6.size) m7.size) m8.size) lR)) aN))).nt md1).nt m11).then m12 ((aC (.inr (lT (lT m1.size m2.size) lR)) aN))).nt m13).then m14 ((aC (.inr (lT (lT (lT m1.size m2.size) m3.size) lR)) aN)))⟩
  all_goals first | assumption | (have e : i = 16 := (by omega); subst e; first | assumption | (rw [over_full _ lb]; done) | (rw [over_full _ List.length_replicate]; done) | rfl) | rfl

set_option maxRecDepth 100000 in
set_option maxHeartbeats 2000000 in
theorem c_iBlockStr_bad (n : Nat) (c : Nat) (b : Nat) (xs : List Nat) (j : Int) (tk : Int) (tc0 : Nat) (tc1 : Nat) (tc2 : Nat) (ts0 : Nat) (ts1 : Nat) (dk : Int) (dc0 : Nat) (dc1 : Nat) (dc2 : Nat) (ds0 : Nat) (ds1 : Nat) (g : Nat) (bs : List Nat) (ln : xs.length = n) (hn : n ≤ 1048576) (lts0 : ts0 < wid .f32) (lts1 : ts1 < wid .f32) (lds0 : ds0 < wid .f32) (lds1 : ds1 < wid .f32) (lb : bs.length = 16) (wb : W32 bs) (hv : vStr n j tk tc0 tc1 tc2 ts0 ts1 dk dc0 dc1 dc2 ds0 ds1 g = false) (w : World) (r : Rng w b 0 (fl xs)) : Cl Try.prog 49 #[.agg #[vS b 0 n c, vI j, vI tk, vF tc0, vF tc1, vF tc2, vF ts0, vF ts1, vI dk, vF dc0, vF dc1, vF dc2, vF ds0, vF ds1, vF g], .agg (fl bs).toArray] w fun v w' => v = .tuple #[.agg #[.slice none 0 0, vI 0, vI 0, vF 0, vF 0, vF 0, vF 0, vF 0, vI 0, vF 0, vF 0, vF 0, vF 0, vF 0, vF 0], .agg (fl (List.replicate 16 0)).toArray, vI 1] ∧ Mod [] w w' := by
  refine Cl.of Try.func49 Try.ntmps49 rfl rfl (ρ := [(0, .agg #[vS b 0 n c, vI j, vI tk, vF tc0, vF tc1, vF tc2, vF ts0, vF ts1, vI dk, vF dc0, vF dc1, vF dc2, vF ds0, vF ds1, vF g]), (1, .agg (fl bs).toArray)]) rfl ?_
  refine CE.seq ?_
  refine CE.region ?_
  refine WL.op (op_box (cs := [vS b 0 n c, vI j, vI tk, vF tc0, vF tc1, vF tc2, vF ts0, vF ts1, vI dk, vF dc0, vF dc1, vF dc2, vF ds0, vF ds1, vF g]) rfl rfl) rfl rfl (ltb rfl) ?_
  rintro _ w1 ⟨rfl, r1, m1, z1⟩
  refine WL.op (op_box (cs := fl bs) rfl rfl) rfl rfl (ltb rfl) ?_
  rintro _ w2 ⟨rfl, r2, m2, z2⟩
  refine WL.op (op_alloc (cs := [.slice none 0 0, vI 0, vI 0, vF 0, vF 0, vF 0, vF 0, vF 0, vI 0, vF 0, vF 0, vF 0, vF 0, vF 0, vF 0]) Try.zeroValue33 rfl) rfl rfl (ltb rfl) ?_
  rintro _ w3 ⟨rfl, r3, m3, z3⟩
  refine WL.op (op_alloc (cs := fl (List.replicate 16 0)) Try.zeroValue75 rfl) rfl rfl (ltb rfl) ?_
  rintro _ w4 ⟨rfl, r4, m4, z4⟩
  refine WL.det (op_assign rfl) rfl rfl rfl ?_
  refine WL.end ?_
  refine NE.code ?_
  refine CE.seq ?_
  refine CE.seq ?_
  refine CE.region ?_
  refine WL.det (op_loadA (i := 0) (cs := [vS b 0 n c, vI j, vI tk, vF tc0, vF tc1, vF tc2, vF ts0, vF ts1, vI dk, vF dc0, vF dc1, vF dc2, vF ds0, vF ds1, vF g]) rfl Try.isAgg33 Try.sizeOf33 (((r1.ext m2).ext m3).ext m4).rng rfl rfl rfl) rfl rfl rfl ?_
  refine WL.call (oc_call (vs := [.agg #[vS b 0 n c, vI j, vI tk, vF tc0, vF tc1, vF tc2, vF ts0, vF ts1, vI dk, vF dc0, vF dc1, vF dc2, vF ds0, vF ds1, vF g]]) (cap := []) rfl rfl rfl Try.call63 (c_ValidString n c (some ⟨b, 0, none⟩) j tk tc0 tc1 tc2 ts0 ts1 dk dc0 dc1 dc2 ds0 ds1 g (by omega) w4)) rfl rfl (ltb rfl) ?_
  rintro _ w5 ⟨rfl, m5⟩
  refine WL.det (op_not rfl) rfl rfl rfl ?_
  refine WL.end ?_
  refine NE.code ?_
  refine CE.cond_t rfl (bnot_f hv) ?_
  refine CE.seq ?_
  refine CE.region ?_
  refine WL.det (op_build (qs := []) (cells := #[.slice none 0 0, vI 0, vI 0, vF 0, vF 0, vF 0, vF 0, vF 0, vI 0, vF 0, vF 0, vF 0, vF 0, vF 0, vF 0]) rfl (by kernel_rfl)) rfl rfl rfl ?_
  refine WL.det (op_build (qs := []) (cells := #[vF 0, vF 0, vF 0, vF 0, vF 0, vF 0, vF 0, vF 0, vF 0, vF 0, vF 0, vF 0, vF 0, vF 0, vF 0, vF 0]) rfl (by kernel_rfl)) rfl rfl rfl ?_
  refine WL.op0 (op_store (i := 0) (cs := [.slice none 0 0, vI 0, vI 0, vF 0, vF 0, vF 0, vF 0, vF 0, vI 0, vF 0, vF 0, vF 0, vF 0, vF 0, vF 0]) rfl rfl rfl Try.sizeOf33 rfl ((r3.ext m4).ext m5) rfl (lB rfl) rfl) rfl rfl ?_
  rintro _ w6 ⟨r5, m6, z5⟩
  have r6 : Row w6 w2.heap.size 0 [.slice none 0 0, vI 0, vI 0, vF 0, vF 0, vF 0, vF 0, vF 0, vI 0, vF 0, vF 0, vF 0, vF 0, vF 0, vF 0] := Row.congr r5 rfl
  refine WL.op0 (op_store (i := 0) (cs := fl (List.replicate 16 0)) rfl rfl rfl Try.sizeOf75 (fl_len List.length_replicate) ((r4.ext m5).mod m6 (nC (lG (lL r3.lt lR)) nN)) rfl (by rw [fl_length, List.length_replicate]; decide) (fl_one _)) rfl rfl ?_
  rintro _ w7 ⟨r7, m7, z6⟩
  have r8 : Row w7 w3.heap.size 0 (fl (List.replicate 16 0)) := Row.congr r7 (splice_all ((fl_len (List.length_replicate)).trans (fl_len (List.length_replicate)).symm))
  refine WL.det (op_assign rfl) rfl rfl rfl ?_
  refine WL.end ?_
  refine NE.code ?_
  refine CE.ret' ?_
  refine XE.ret_then ?_
  refine XE.leaveT Try.results49 (res_agg (cs := [.slice none 0 0, vI 0, vI 0, vF 0, vF 0, vF 0, vF 0, vF 0, vI 0, vF 0, vF 0, vF 0, vF 0, vF 0, vF 0]) rfl Try.isAgg33 Try.sizeOf33 (r6.mod m7 (nC (lE (lL r3.lt lR)) nN)).rng rfl (res_agg (cs := fl (List.replicate 16 0)) rfl Try.isAgg75 Try.sizeOf75 r8.rng (fl_len List.length_replicate) (res_tmp rfl res_nil))) ?_
  refine ⟨rfl, ((((((((Mod.refl [] w).nt m1).nt m2).nt m3).nt m4).nt m5).then m6 ((aC (.inr (lT (lT m1.size m2.size) lR)) aN))).then m7 ((aC (.inr (lT (lT (lT m1.size m2.size) m3.size) lR)) aN)))⟩

end Go.Proofs.Ytabfdgpldcegiaa
