/- What the functions on lists of filters compute. -/
import Derived.Test.YtnpkhjafnjpnmaaB5
import Derived.Test.YtnpkhjafnjpnmaaE23
import Derived.Test.YtnpkhjafnjpnmaaE17
set_option linter.unusedVariables false
set_option linter.unusedSimpArgs false
set_option maxRecDepth 100000
set_option maxHeartbeats 8000000
namespace Go.Proofs.Ytnpkhjafnjpnmaa

structure FiR where
  k : Int
  c0 : Nat
  c1 : Nat
  c2 : Nat
  s0 : Nat
  s1 : Nat
def FiR.cells (e : FiR) : List Value := [vI e.k, vF e.c0, vF e.c1, vF e.c2, vF e.s0, vF e.s1]
def FiR.d : FiR := ⟨0, 0, 0, 0, 0, 0⟩
/-- a filter that came in -/
def FiR.Ok (e : FiR) : Prop := e.s0 < wid .f32 ∧ e.s1 < wid .f32
theorem FiR.of {w : World} (cs : List Value) (h : Cells w [isI .i64, isF .f32, isF .f32, isF .f32, isF .f32, isF .f32] cs) : ∃ a, cs = FiR.cells a ∧ FiR.Ok a := by
  obtain ⟨u0, r0, rfl, ⟨i, rfl, h0, h1⟩, k0⟩ := Cells.cons h
  obtain ⟨u1, r1, rfl, ⟨a, rfl, _⟩, k1⟩ := Cells.cons k0
  obtain ⟨u2, r2, rfl, ⟨b, rfl, _⟩, k2⟩ := Cells.cons k1
  obtain ⟨u3, r3, rfl, ⟨c, rfl, _⟩, k3⟩ := Cells.cons k2
  obtain ⟨u4, r4, rfl, ⟨d, rfl, hd⟩, k4⟩ := Cells.cons k3
  obtain ⟨u5, r5, rfl, ⟨e, rfl, he⟩, k5⟩ := Cells.cons k4
  obtain rfl := Cells.nil k5
  exact ⟨⟨i, a, b, c, d, e⟩, rfl, hd, he⟩
/-- a record that bears its marks, from `q` on -/
def markFi (q : Nat) : FiR := ⟨((q : Nat) : Int), FloatKind.f32.nearest ((q + 1 : Nat) : Int), FloatKind.f32.nearest ((q + 1 + 1 : Nat) : Int), FloatKind.f32.nearest ((q + 1 + 1 + 1 : Nat) : Int), FloatKind.f32.nearest ((q + 1 + 1 + 1 + 1 : Nat) : Int), FloatKind.f32.nearest ((q + 1 + 1 + 1 + 1 + 1 : Nat) : Int)⟩
theorem markFi_cells (q : Nat) : FiR.cells (markFi q) = [vI ((q : Nat) : Int), vF (FloatKind.f32.nearest ((q + 1 : Nat) : Int)), vF (FloatKind.f32.nearest ((q + 1 + 1 : Nat) : Int)), vF (FloatKind.f32.nearest ((q + 1 + 1 + 1 : Nat) : Int)), vF (FloatKind.f32.nearest ((q + 1 + 1 + 1 + 1 : Nat) : Int)), vF (FloatKind.f32.nearest ((q + 1 + 1 + 1 + 1 + 1 : Nat) : Int))] := by simp only [FiR.cells, markFi]
/-- the first `i` records marked -/
def markFs (es : List FiR) (q i : Nat) : List FiR := (List.range i).map (fun j => markFi (q + 6 * j)) ++ es.drop i
theorem markFs_len {es : List FiR} {q i n : Nat} (hl : es.length = n) (h : i ≤ n) : (markFs es q i).length = n := by simp [markFs]; omega
theorem markFs_zero (es : List FiR) (q : Nat) : cat FiR.cells es = cat FiR.cells (markFs es q 0) := by simp [markFs]
theorem markFs_set {es : List FiR} {q i n : Nat} (hl : es.length = n) (h : i < n) : (markFs es q i).set i (markFi (q + 6 * i)) = markFs es q (i + 1) := by
  have hi : i < es.length := by omega
  unfold markFs
  rw [List.range_succ, List.map_append, List.append_assoc, List.set_append_right _ _ (by simp), List.drop_eq_getElem_cons hi, List.length_map, List.length_range, Nat.sub_self]
  rfl
theorem markFs_get {es : List FiR} {q i n : Nat} (hl : es.length = n) (h : i < n) : (markFs es q n).getD i FiR.d = markFi (q + 6 * i) := by
  unfold markFs
  simp [List.getD_eq_getElem?_getD, List.getElem?_append_left, h]
/-- a list of filters, all of which are valid -/
def vFils (es : List FiR) (n : Nat) : Bool := (List.range n).all fun i => vFil (es.getD i FiR.d).k (es.getD i FiR.d).c0 (es.getD i FiR.d).c1 (es.getD i FiR.d).c2 (es.getD i FiR.d).s0 (es.getD i FiR.d).s1
theorem vFils_step {es : List FiR} {n : Nat} (h : vFils es n = true) (h2 : vFil (es.getD n FiR.d).k (es.getD n FiR.d).c0 (es.getD n FiR.d).c1 (es.getD n FiR.d).c2 (es.getD n FiR.d).s0 (es.getD n FiR.d).s1 = true) : vFils es (n + 1) = true := by
  unfold vFils at *
  rw [List.range_succ, List.all_append, h]; simpa using h2
theorem vFils_out {es : List FiR} {i n : Nat} (hi : i < n) (h2 : vFil (es.getD i FiR.d).k (es.getD i FiR.d).c0 (es.getD i FiR.d).c1 (es.getD i FiR.d).c2 (es.getD i FiR.d).s0 (es.getD i FiR.d).s1 = false) : vFils es n = false := by
  unfold vFils
  rw [List.all_eq_false]
  exact ⟨i, by simpa using hi, by simpa using h2⟩

theorem mark_k {e : FiR} {q : Nat} (h : e = markFi q) : e.k = ((q : Nat) : Int) := by rw [h, markFi]
theorem fEq_near (i : Int) : fEq .f32 (FloatKind.f32.nearest i) (FloatKind.f32.nearest i) = true := by rw [fEq_self, isNaN_near, Bool.not_false]
theorem mark_c0 {e : FiR} {q : Nat} (h : e = markFi q) : fEq .f32 e.c0 (FloatKind.f32.nearest ((q + 1 : Nat) : Int)) = true := by rw [h]; simp only [markFi]; exact fEq_near _
theorem mark_c1 {e : FiR} {q : Nat} (h : e = markFi q) : fEq .f32 e.c1 (FloatKind.f32.nearest ((q + 1 + 1 : Nat) : Int)) = true := by rw [h]; simp only [markFi]; exact fEq_near _
theorem mark_c2 {e : FiR} {q : Nat} (h : e = markFi q) : fEq .f32 e.c2 (FloatKind.f32.nearest ((q + 1 + 1 + 1 : Nat) : Int)) = true := by rw [h]; simp only [markFi]; exact fEq_near _
theorem mark_s0 {e : FiR} {q : Nat} (h : e = markFi q) : fEq .f32 e.s0 (FloatKind.f32.nearest ((q + 1 + 1 + 1 + 1 : Nat) : Int)) = true := by rw [h]; simp only [markFi]; exact fEq_near _
theorem mark_s1 {e : FiR} {q : Nat} (h : e = markFi q) : fEq .f32 e.s1 (FloatKind.f32.nearest ((q + 1 + 1 + 1 + 1 + 1 : Nat) : Int)) = true := by rw [h]; simp only [markFi]; exact fEq_near _

theorem vFils_get {es : List FiR} {i n : Nat} (h : vFils es n = true) (hi : i < n) : vFil (es.getD i FiR.d).k (es.getD i FiR.d).c0 (es.getD i FiR.d).c1 (es.getD i FiR.d).c2 (es.getD i FiR.d).s0 (es.getD i FiR.d).s1 = true := by
  cases hv : vFil (es.getD i FiR.d).k (es.getD i FiR.d).c0 (es.getD i FiR.d).c1 (es.getD i FiR.d).c2 (es.getD i FiR.d).s0 (es.getD i FiR.d).s1
  · rw [vFils_out hi hv] at h; cases h
  · rfl

/-- a filter behind a block -/
def runFi (f : FiR) (bs : List Nat) : FiR := ⟨f.k, f.c0, f.c1, f.c2, (stAt f.k f.c0 f.c1 f.c2 f.s0 f.s1 bs 16).1, (stAt f.k f.c0 f.c1 f.c2 f.s0 f.s1 bs 16).2⟩
def runB (f : FiR) (bs : List Nat) : List Nat := (List.range 16).map (yAt f.k f.c0 f.c1 f.c2 f.s0 f.s1 bs)
/-- the block that comes to filter number `i` of a chain -/
def chB (es : List FiR) (bs : List Nat) : Nat → List Nat
  | 0 => bs
  | i + 1 => runB (es.getD i FiR.d) (chB es bs i)
/-- the filters, of which the first `i` ones have made their blocks -/
def chF (es : List FiR) (bs : List Nat) (i : Nat) : List FiR := (List.range i).map (fun j => runFi (es.getD j FiR.d) (chB es bs j)) ++ es.drop i
def CnB (xs ys : List Nat) : Prop := ∀ j, j < 16 → cn .f32 (xs.getD j 0) = cn .f32 (ys.getD j 0)
section
variable {es : List FiR} {bs xs ys zs : List Nat} {i n : Nat} {kd : Int} {c0 c1 c2 s0 s1 : Nat}
theorem chF_len (hl : es.length = n) (h : i ≤ n) : (chF es bs i).length = n := by simp [chF]; omega
theorem chF_zero : es = chF es bs 0 := by simp [chF]
theorem chF_get (hl : es.length = n) (h : i < n) : (chF es bs i).getD i FiR.d = es.getD i FiR.d := by
  have hi : i < es.length := by omega
  unfold chF
  rw [List.getD_eq_getElem?_getD, List.getElem?_append_right (by simp)]
  simp [List.getD_eq_getElem?_getD]
theorem chF_set (hl : es.length = n) (h : i < n) : (chF es bs i).set i (runFi (es.getD i FiR.d) (chB es bs i)) = chF es bs (i + 1) := by
  have hi : i < es.length := by omega
  unfold chF
  rw [List.range_succ, List.map_append, List.append_assoc, List.set_append_right _ _ (by simp), List.drop_eq_getElem_cons hi, List.length_map, List.length_range, Nat.sub_self]
  rfl
theorem fop_r {op : BinOp} {k : FloatKind} {a x y : Nat} (h : cn k x = cn k y) : fop op k a x = fop op k a y := by rw [← fop_cn_r op k a x, h, fop_cn_r]
theorem fop_l {op : BinOp} {k : FloatKind} {a x y : Nat} (h : cn k x = cn k y) : fop op k x a = fop op k y a := by rw [← fop_cn_l op k x a, h, fop_cn_l]
theorem stepY_cn {x y : Nat} (h : cn .f32 x = cn .f32 y) : stepY kd c0 c1 c2 s0 s1 x = stepY kd c0 c1 c2 s0 s1 y := by
  unfold stepY
  rw [fop_r (op := .mul) (a := c0) h, fop_l (op := .sub) (a := s1) h, fop_l (op := .sub) (a := s0) h]
theorem keptF_cn {x y : Nat} (h : cn .f32 x = cn .f32 y) : keptF x = keptF y := by
  cases hx : finF x
  · have hy : finF y = false := by rw [← finF_congr h]; exact hx
    simp [keptF, hx, hy]
  · have hy : finF y = true := by rw [← finF_congr h]; exact hx
    rw [eq_of_cn h (finF_num hy)]
theorem stepS_cn {x y : Nat} (h : cn .f32 x = cn .f32 y) : stepS kd c0 c1 c2 s0 s1 x = stepS kd c0 c1 c2 s0 s1 y := by
  unfold stepS
  repeat' split
  all_goals first | rfl | exact keptF_cn h | exact congrArg keptF (stepY_cn h)
theorem stepT_cn {x y : Nat} (h : cn .f32 x = cn .f32 y) : stepT kd c0 c1 c2 s0 s1 x = stepT kd c0 c1 c2 s0 s1 y := by
  unfold stepT
  repeat' split
  all_goals first | rfl | exact keptF_cn h | exact congrArg keptF (stepY_cn h)
theorem stAt_cn (h : CnB xs ys) : ∀ {i : Nat}, i ≤ 16 → stAt kd c0 c1 c2 s0 s1 xs i = stAt kd c0 c1 c2 s0 s1 ys i
  | 0, _ => rfl
  | i + 1, hi => by
    have e := stAt_cn h (i := i) (by omega)
    have hx := h i (by omega)
    simp only [stAt, e, stepS_cn hx, stepT_cn hx]
theorem Outs.cnb (h : CnB xs ys) (o : Outs kd c0 c1 c2 s0 s1 xs 16 zs) : CnB zs ((List.range 16).map (yAt kd c0 c1 c2 s0 s1 ys)) := fun j hj => by
  rw [o.2.2 j hj]
  have e : ((List.range 16).map (yAt kd c0 c1 c2 s0 s1 ys)).getD j 0 = yAt kd c0 c1 c2 s0 s1 ys j := by simp [hj]
  rw [e]
  unfold yAt
  rw [stAt_cn h (by omega)]
  exact congrArg _ (stepY_cn (h j hj))
theorem CnB.refl : CnB xs xs := fun _ _ => rfl
theorem CnB.eq2 (h : CnB xs zs) (k : CnB ys zs) : CnB xs ys := fun j hj => (h j hj).trans (k j hj).symm
end

theorem c_szFilterS (l : Nat) (n : Nat) (c : Nat) (A : Option Addr) (hl : n ≤ l) (hm : l ≤ 1048576) (w : World) : Cl Try.prog 38 #[.slice A n c, vI ((l : Nat) : Int)] w fun v w' => v = vI ((l - n : Nat) : Int) ∧ w = w' := by
 refine Cl.of Try.func38 Try.ntmps38 rfl rfl (ρ := [(0, .slice A n c), (1, vI ((l : Nat) : Int))]) rfl ?_
 refine CE.seq (CE.region ?_)
 refine WL.det (op_assign rfl) rfl rfl rfl ?_
 refine WL.end (NE.code (CE.seq (CE.region ?_)))
 iterate 2 refine WL.det (op_move rfl) rfl rfl rfl ?_
 refine WL.det (op_len rfl Try.runUnderlying73) rfl rfl rfl ?_
 refine WL.det (op_sub (r := ((l - n : Nat) : Int)) rfl rfl (w_nsub (l := l) (n := n) (by omega) (by omega))) rfl rfl rfl ?_
 refine WL.det (op_assign rfl) rfl rfl rfl ?_
 refine WL.end (NE.code (CE.seq (CE.seq (CE.region ?_))))
 refine WL.det (op_move rfl) rfl rfl rfl ?_
 refine WL.det (op_lti_f rfl rfl (Int.not_lt.2 (Int.natCast_nonneg _))) rfl rfl rfl ?_
 refine WL.end (NE.code ?_)
 refine CE.cond_f rfl rfl ?_
 refine CE.skip' (NE.code (CE.seq (CE.region ?_)))
 refine WL.det (op_move rfl) rfl rfl rfl ?_
 refine WL.det (op_assign rfl) rfl rfl rfl ?_
 refine WL.end (NE.code (CE.ret' ?_))
 refine XE.leave1 Try.results38 rfl ?_
 refine ⟨rfl, rfl⟩

theorem c_szFilterS_over (l : Nat) (n : Nat) (c : Nat) (A : Option Addr) (hl : l < n) (hm : l ≤ 1048576) (hn : n ≤ 9223372036854775807) (w : World) : Cl Try.prog 38 #[.slice A n c, vI ((l : Nat) : Int)] w fun v w' => v = vI (-1) ∧ w = w' := by
 refine Cl.of Try.func38 Try.ntmps38 rfl rfl (ρ := [(0, .slice A n c), (1, vI ((l : Nat) : Int))]) rfl ?_
 refine CE.seq (CE.region ?_)
 refine WL.det (op_assign rfl) rfl rfl rfl ?_
 refine WL.end (NE.code (CE.seq (CE.region ?_)))
 iterate 2 refine WL.det (op_move rfl) rfl rfl rfl ?_
 refine WL.det (op_len rfl Try.runUnderlying73) rfl rfl rfl ?_
 refine WL.det (op_sub (r := (((l : Nat) : Int) - ((n : Nat) : Int))) rfl rfl (w_i64 (by omega) (by omega))) rfl rfl rfl ?_
 refine WL.det (op_assign rfl) rfl rfl rfl ?_
 refine WL.end (NE.code (CE.seq (CE.seq (CE.region ?_))))
 refine WL.det (op_move rfl) rfl rfl rfl ?_
 refine WL.det (op_lti rfl rfl) rfl rfl rfl ?_
 refine WL.end (NE.code ?_)
 refine CE.cond_t rfl (decide_eq_true (by omega)) ?_
 refine CE.seq (CE.region ?_)
 refine WL.det (op_assign rfl) rfl rfl rfl ?_
 refine WL.end (NE.code (CE.ret' (XE.ret_then ?_)))
 refine XE.leave1 Try.results38 rfl ?_
 refine ⟨rfl, rfl⟩

theorem c_toFilterS (n : Nat) (c : Nat) (A : Option Addr) (b : Nat) (o : Nat) (es : List FiR) (ln : es.length = n) (hA : 0 < n → A = some ⟨b, o, none⟩) (hn : n ≤ 1048576) (w : World) (r : Rng w b o (cat FiR.cells es)) : Cl Try.prog 40 #[.slice A n c] w fun v w' => ∃ (b' : Nat), v = vS b' 0 n n ∧ Row w' b' 0 (cat FiR.cells es) ∧ w.heap.size ≤ b' ∧ Mod [] w w' := by
 refine Cl.of Try.func40 Try.ntmps40 rfl rfl (ρ := [(0, .slice A n c)]) rfl ?_
 refine CE.seq (CE.region ?_)
 refine WL.det (op_assign rfl) rfl rfl rfl ?_
 refine WL.end (NE.code (CE.seq (CE.region ?_)))
 refine WL.det (op_move rfl) rfl rfl rfl ?_
 refine WL.det (op_len rfl Try.runUnderlying73) rfl rfl rfl ?_
 refine WL.op (op_makeR (f := FiR.cells) (d := FiR.d) (i := Try.t28) (m := n) (sz := 6) (bt := 32) rfl rfl rfl rfl Try.underlying76 rfl rfl rfl rfl (by decide) rfl rfl (by decide) (by omega)) rfl rfl (ltb rfl) ?_
 rintro _ w1 ⟨rfl, r1, m1, z1⟩
 refine WL.det (op_assign rfl) rfl rfl rfl ?_
 refine WL.end (NE.code (CE.seq (CE.seq (CE.region ?_))))
 refine WL.det (op_assign rfl) rfl rfl rfl ?_
 refine WL.end (NE.code (CE.block ?_))
 refine CE.loop (fun (i : Nat) => [(4, vI ((i : Nat) : Int)), (0, .slice A n c), (2, .slice none 0 0), (3, vS w.heap.size 0 n n)]) (fun (i : Nat) => fun W => (i ≤ n) ∧ Row W w.heap.size 0 (cat FiR.cells (fillR FiR.d es i)) ∧ Mod [w.heap.size] w1 W) (fun (i : Nat) => n - i) 0 (⟨rfl, rfl, rfl, rfl, trivial⟩) ⟨(by omega), (Row.congr r1 (fillR_zero ln)), Mod.refl _ _⟩ ?_
 rintro i w2 ⟨hi, r2, m2⟩
 show CE _ _ _ _ [(4, vI ((i : Nat) : Int)), (0, .slice A n c), (2, .slice none 0 0), (3, vS w.heap.size 0 n n)] _
 refine CE.seq (CE.seq (CE.region ?_))
 iterate 2 refine WL.det (op_move rfl) rfl rfl rfl ?_
 refine WL.det (op_len rfl Try.runUnderlying73) rfl rfl rfl ?_
 refine WL.det (op_lti rfl rfl) rfl rfl rfl ?_
 refine WL.end (NE.code ?_)
 rcases Bool.eq_false_or_eq_true (decide (((i : Nat) : Int) < ((n : Nat) : Int))) with hb1 | hb1
 ·have hp1 := of_decide_eq_true hb1
  refine CE.cond_t rfl hb1 ?_
  refine CE.skip' (NE.code (CE.seq (CE.block (CE.region ?_))))
  iterate 4 refine WL.det (op_move rfl) rfl rfl rfl ?_
  refine WL.det (op_indexSl (off' := o + i * 6) rfl (hA (by omega)) rfl Try.runUnderlying73 Try.sizeOf113 (by omega) (by omega) (by omega)) rfl rfl rfl ?_
  refine WL.det (op_loadA (i := i * 6) (cs := [vI ((es.getD i FiR.d).k), vF ((es.getD i FiR.d).c0), vF ((es.getD i FiR.d).c1), vF ((es.getD i FiR.d).c2), vF ((es.getD i FiR.d).s0), vF ((es.getD i FiR.d).s1)]) rfl Try.isAgg113 Try.sizeOf113 (Rng.youngS r (r.ext m1) m2 (allge_cons lR allge_nil)) rfl (cat_at (f := FiR.cells) (m := 6) (i := i) (d := FiR.d) (fun _ => rfl) (by have eL : List.length es = n := ln; omega)) rfl) rfl rfl rfl ?_
  refine WL.call (oc_call (vs := [.agg #[vI ((es.getD i FiR.d).k), vF ((es.getD i FiR.d).c0), vF ((es.getD i FiR.d).c1), vF ((es.getD i FiR.d).c2), vF ((es.getD i FiR.d).s0), vF ((es.getD i FiR.d).s1)]]) (cap := []) rfl rfl rfl Try.call77 (c_toFilter ((es.getD i FiR.d).k) ((es.getD i FiR.d).c0) ((es.getD i FiR.d).c1) ((es.getD i FiR.d).c2) ((es.getD i FiR.d).s0) ((es.getD i FiR.d).s1) w2)) rfl rfl (ltb rfl) ?_
  rintro _ w3 ⟨rfl, m3⟩
  refine WL.det (op_indexSl (off' := 0 + i * 6) rfl rfl rfl Try.runUnderlying76 Try.sizeOf28 (by omega) (by omega) (by omega)) rfl rfl rfl ?_
  refine WL.op0 (op_store (i := i * 6) (cs := [vI ((es.getD i FiR.d).k), vF ((es.getD i FiR.d).c0), vF ((es.getD i FiR.d).c1), vF ((es.getD i FiR.d).c2), vF ((es.getD i FiR.d).s0), vF ((es.getD i FiR.d).s1)]) rfl rfl rfl Try.sizeOf28 rfl (r2.ext m3) rfl (cat_fit (fun _ => rfl) (fillR_len ln (by omega)) (by omega)) rfl) rfl rfl ?_
  rintro _ w4 ⟨r3, m4, z2⟩
  have r4 : Row w4 w.heap.size 0 (cat FiR.cells ((fillR FiR.d es i).set i (es.getD i FiR.d))) := Row.congr r3 (cat_set (f := FiR.cells) (fun _ => rfl) (fillR_len ln (by omega)) (by omega) (es.getD i FiR.d))
  refine WL.end (NE.blk (NE.code (CE.region ?_)))
  refine WL.det (op_move rfl) rfl rfl rfl ?_
  refine WL.det (op_add (r := ((i + 1 : Nat) : Int)) rfl rfl (w_i64 (by omega) (by omega))) rfl rfl rfl ?_
  refine WL.det (op_assign rfl) rfl rfl rfl ?_
  refine WL.end ?_
  exact NE.again (i + 1) (⟨rfl, rfl, rfl, rfl, trivial⟩) ⟨(by omega), (Row.congr r4 (fillR_set ln (by omega))), ((m2.nt m3).then m4 ((aC (.inl (by simp)) aN)))⟩ (by first | (dsimp only; omega) | omega)
 ·have hp1 := of_decide_eq_false hb1
  refine CE.cond_f rfl hb1 ?_
  refine CE.exit' (XE.exit_then (XE.exit_then (XE.exit_here (NE.code (CE.seq (CE.region ?_))))))
  refine WL.det (op_move rfl) rfl rfl rfl ?_
  refine WL.det (op_assign rfl) rfl rfl rfl ?_
  refine WL.end (NE.code (CE.ret' ?_))
  refine XE.leave1 Try.results40 rfl ?_
  refine ⟨w.heap.size, rfl, (Row.congr r2 ?_), lR, (((Mod.refl [] w).nt m1).then m2 ((aC (.inr lR) aN)))⟩
  exact fillR_done ln (by omega)

theorem c_eqFilterS (n : Nat) (c : Nat) (b : Nat) (es : List FiR) (c' : Nat) (b' : Nat) (ln : es.length = n) (hn : n ≤ 9223372036854775807) (w : World) (r : Rng w b 0 (cat FiR.cells es)) (r' : Rng w b' 0 (cat FiR.cells es)) : Cl Try.prog 43 #[vS b 0 n c, vS b' 0 n c'] w fun v w' => v = .bool true ∧ Mod [] w w' := by
 refine Cl.of Try.func43 Try.ntmps43 rfl rfl (ρ := [(0, vS b 0 n c), (1, vS b' 0 n c')]) rfl ?_
 refine CE.seq (CE.region ?_)
 refine WL.det (op_assign rfl) rfl rfl rfl ?_
 refine WL.end (NE.code (CE.seq (CE.seq (CE.region ?_))))
 refine WL.det (op_move rfl) rfl rfl rfl ?_
 refine WL.det (op_len rfl Try.runUnderlying76) rfl rfl rfl ?_
 refine WL.det (op_move rfl) rfl rfl rfl ?_
 refine WL.det (op_len rfl Try.runUnderlying76) rfl rfl rfl ?_
 refine WL.det (op_nei_f rfl rfl rfl) rfl rfl rfl ?_
 refine WL.end (NE.code ?_)
 refine CE.cond_f rfl rfl ?_
 refine CE.skip' (NE.code (CE.seq (CE.seq (CE.region ?_))))
 refine WL.det (op_assign rfl) rfl rfl rfl ?_
 refine WL.end (NE.code (CE.block ?_))
 refine CE.loop (fun (i : Nat) => [(5, vI ((i : Nat) : Int)), (0, vS b 0 n c), (1, vS b' 0 n c'), (4, .bool false)]) (fun (i : Nat) => fun W => (i ≤ n) ∧ Mod [] w W) (fun (i : Nat) => n - i) 0 (⟨rfl, rfl, rfl, rfl, trivial⟩) ⟨(by omega), Mod.refl _ _⟩ ?_
 rintro i w1 ⟨hi, m1⟩
 show CE _ _ _ _ [(5, vI ((i : Nat) : Int)), (0, vS b 0 n c), (1, vS b' 0 n c'), (4, .bool false)] _
 refine CE.seq (CE.seq (CE.region ?_))
 iterate 2 refine WL.det (op_move rfl) rfl rfl rfl ?_
 refine WL.det (op_len rfl Try.runUnderlying76) rfl rfl rfl ?_
 refine WL.det (op_lti rfl rfl) rfl rfl rfl ?_
 refine WL.end (NE.code ?_)
 rcases Bool.eq_false_or_eq_true (decide (((i : Nat) : Int) < ((n : Nat) : Int))) with hb1 | hb1
 ·have hp1 := of_decide_eq_true hb1
  refine CE.cond_t rfl hb1 ?_
  refine CE.skip' (NE.code (CE.seq (CE.block (CE.seq ?_))))
  refine CE.draw (fun _ => none) [0, 1, 2, 3, 4, 5, 6, 7] [8, 9] [] (by kernel_rfl) (by kernel_rfl) ?_
  have md1 : Mod [] w1 w1.drew := (Mod.refl _ _).drew
  generalize w1.drew = w2 at md1 ⊢
  refine DR.det (i := 0) rfl rfl (by kernel_rfl) (.free rfl) rfl rfl (fun wD mD => op_move rfl) ?_
  refine DR.det (i := 1) rfl rfl (by kernel_rfl) (.free rfl) rfl rfl (fun wD mD => op_move rfl) ?_
  refine DR.det (i := 2) rfl rfl (by kernel_rfl) (.free rfl) rfl rfl (fun wD mD => op_indexSl (off' := 0 + i * 6) rfl rfl rfl Try.runUnderlying76 Try.sizeOf28 (by omega) (by omega) (by omega)) ?_
  refine DR.det (i := 3) rfl rfl (by kernel_rfl) (.free rfl) rfl rfl (fun wD mD => op_loadA (i := i * 6) (cs := [vI ((es.getD i FiR.d).k), vF ((es.getD i FiR.d).c0), vF ((es.getD i FiR.d).c1), vF ((es.getD i FiR.d).c2), vF ((es.getD i FiR.d).s0), vF ((es.getD i FiR.d).s1)]) rfl Try.isAgg28 Try.sizeOf28 (((r.ext m1).ext md1).ext mD) rfl (cat_at (f := FiR.cells) (m := 6) (i := i) (d := FiR.d) (fun _ => rfl) (by have eL : List.length es = n := ln; omega)) rfl) ?_
  refine DR.det (i := 4) rfl rfl (by kernel_rfl) (.free rfl) rfl rfl (fun wD mD => op_move rfl) ?_
  refine DR.det (i := 5) rfl rfl (by kernel_rfl) (.free rfl) rfl rfl (fun wD mD => op_move rfl) ?_
  refine DR.det (i := 6) rfl rfl (by kernel_rfl) (.free rfl) rfl rfl (fun wD mD => op_indexSl (off' := 0 + i * 6) rfl rfl rfl Try.runUnderlying76 Try.sizeOf28 (by omega) (by omega) (by omega)) ?_
  refine DR.det (i := 7) rfl rfl (by kernel_rfl) (.free rfl) rfl rfl (fun wD mD => op_loadA (i := i * 6) (cs := [vI ((es.getD i FiR.d).k), vF ((es.getD i FiR.d).c0), vF ((es.getD i FiR.d).c1), vF ((es.getD i FiR.d).c2), vF ((es.getD i FiR.d).s0), vF ((es.getD i FiR.d).s1)]) rfl Try.isAgg28 Try.sizeOf28 (((r'.ext m1).ext md1).ext mD) rfl (cat_at (f := FiR.cells) (m := 6) (i := i) (d := FiR.d) (fun _ => rfl) (by have eL : List.length es = n := ln; omega)) rfl) ?_
  refine DR.done rfl ?_
  intro w3 m2
  refine WO.call rfl (.free rfl) rfl (ltb rfl) (oc_call (vs := [.agg #[vI ((es.getD i FiR.d).k), vF ((es.getD i FiR.d).c0), vF ((es.getD i FiR.d).c1), vF ((es.getD i FiR.d).c2), vF ((es.getD i FiR.d).s0), vF ((es.getD i FiR.d).s1)], .agg #[vI ((es.getD i FiR.d).k), vF ((es.getD i FiR.d).c0), vF ((es.getD i FiR.d).c1), vF ((es.getD i FiR.d).c2), vF ((es.getD i FiR.d).s0), vF ((es.getD i FiR.d).s1)]]) (cap := []) rfl rfl rfl Try.call81 (c_eqFilter ((es.getD i FiR.d).k) ((es.getD i FiR.d).c0) ((es.getD i FiR.d).c0) ((es.getD i FiR.d).c1) ((es.getD i FiR.d).c1) ((es.getD i FiR.d).c2) ((es.getD i FiR.d).c2) ((es.getD i FiR.d).s0) ((es.getD i FiR.d).s0) ((es.getD i FiR.d).s1) ((es.getD i FiR.d).s1) ((es.getD i FiR.d).c0) ((es.getD i FiR.d).c1) ((es.getD i FiR.d).c2) ((es.getD i FiR.d).s0) ((es.getD i FiR.d).s1) rfl rfl rfl rfl rfl rfl rfl rfl rfl rfl w3)) ?_
  rintro _ w4 ⟨rfl, m3⟩
  refine WO.det (op_not rfl) rfl (.free rfl) rfl rfl ?_
  refine WO.end (NE.code ?_)
  refine CE.cond_f rfl rfl ?_
  refine CE.skip' (NE.blk (NE.code (CE.region ?_)))
  refine WL.det (op_move rfl) rfl rfl rfl ?_
  refine WL.det (op_add (r := ((i + 1 : Nat) : Int)) rfl rfl (w_i64 (by omega) (by omega))) rfl rfl rfl ?_
  refine WL.det (op_assign rfl) rfl rfl rfl ?_
  refine WL.end ?_
  exact NE.again (i + 1) (⟨rfl, rfl, rfl, rfl, trivial⟩) ⟨(by omega), (((m1.nt md1).nt m2).nt m3)⟩ (by first | (dsimp only; omega) | omega)
 ·have hp1 := of_decide_eq_false hb1
  refine CE.cond_f rfl hb1 ?_
  refine CE.exit' (XE.exit_then (XE.exit_then (XE.exit_here (NE.code (CE.seq (CE.region ?_))))))
  refine WL.det (op_assign rfl) rfl rfl rfl ?_
  refine WL.end (NE.code (CE.ret' ?_))
  refine XE.leave1 Try.results43 rfl ?_
  refine ⟨rfl, ((Mod.refl [] w).nt m1)⟩

theorem c_eqFilterS_00 (c : Nat) (b : Nat) (c' : Nat) (b' : Nat) (w : World) : Cl Try.prog 43 #[vS b 0 0 c, vS b' 0 0 c'] w fun v w' => v = .bool true ∧ Mod [] w w' := by
 refine Cl.of Try.func43 Try.ntmps43 rfl rfl (ρ := [(0, vS b 0 0 c), (1, vS b' 0 0 c')]) rfl ?_
 refine CE.seq (CE.region ?_)
 refine WL.det (op_assign rfl) rfl rfl rfl ?_
 refine WL.end (NE.code (CE.seq (CE.seq (CE.region ?_))))
 refine WL.det (op_move rfl) rfl rfl rfl ?_
 refine WL.det (op_len rfl Try.runUnderlying76) rfl rfl rfl ?_
 refine WL.det (op_move rfl) rfl rfl rfl ?_
 refine WL.det (op_len rfl Try.runUnderlying76) rfl rfl rfl ?_
 refine WL.det (op_nei rfl rfl) rfl rfl rfl ?_
 refine WL.end (NE.code ?_)
 refine CE.cond_f rfl rfl ?_
 refine CE.skip' (NE.code (CE.seq (CE.seq (CE.region ?_))))
 refine WL.det (op_assign rfl) rfl rfl rfl ?_
 refine WL.end (NE.code (CE.block ?_))
 refine CE.rounds 1 ?_
 refine RN.one (CE.seq (CE.seq (CE.region ?_)))
 iterate 2 refine WL.det (op_move rfl) rfl rfl rfl ?_
 refine WL.det (op_len rfl Try.runUnderlying76) rfl rfl rfl ?_
 refine WL.det (op_lti rfl rfl) rfl rfl rfl ?_
 refine WL.end (NE.code ?_)
 refine CE.cond_f rfl rfl ?_
 refine CE.exit' (XE.exit_then (XE.exit_then (XE.exit_here (NE.code (CE.seq (CE.region ?_))))))
 refine WL.det (op_assign rfl) rfl rfl rfl ?_
 refine WL.end (NE.code (CE.ret' ?_))
 refine XE.leave1 Try.results43 rfl ?_
 refine ⟨rfl, (Mod.refl [] w)⟩

theorem c_eqFilterS_nil (c : Nat) (b : Nat) (w : World) : Cl Try.prog 43 #[.slice none 0 0, vS b 0 0 c] w fun v w' => v = .bool true ∧ Mod [] w w' := by
 refine Cl.of Try.func43 Try.ntmps43 rfl rfl (ρ := [(0, .slice none 0 0), (1, vS b 0 0 c)]) rfl ?_
 refine CE.seq (CE.region ?_)
 refine WL.det (op_assign rfl) rfl rfl rfl ?_
 refine WL.end (NE.code (CE.seq (CE.seq (CE.region ?_))))
 refine WL.det (op_move rfl) rfl rfl rfl ?_
 refine WL.det (op_len rfl Try.runUnderlying76) rfl rfl rfl ?_
 refine WL.det (op_move rfl) rfl rfl rfl ?_
 refine WL.det (op_len rfl Try.runUnderlying76) rfl rfl rfl ?_
 refine WL.det (op_nei rfl rfl) rfl rfl rfl ?_
 refine WL.end (NE.code ?_)
 refine CE.cond_f rfl rfl ?_
 refine CE.skip' (NE.code (CE.seq (CE.seq (CE.region ?_))))
 refine WL.det (op_assign rfl) rfl rfl rfl ?_
 refine WL.end (NE.code (CE.block ?_))
 refine CE.rounds 1 ?_
 refine RN.one (CE.seq (CE.seq (CE.region ?_)))
 iterate 2 refine WL.det (op_move rfl) rfl rfl rfl ?_
 refine WL.det (op_len rfl Try.runUnderlying76) rfl rfl rfl ?_
 refine WL.det (op_lti rfl rfl) rfl rfl rfl ?_
 refine WL.end (NE.code ?_)
 refine CE.cond_f rfl rfl ?_
 refine CE.exit' (XE.exit_then (XE.exit_then (XE.exit_here (NE.code (CE.seq (CE.region ?_))))))
 refine WL.det (op_assign rfl) rfl rfl rfl ?_
 refine WL.end (NE.code (CE.ret' ?_))
 refine XE.leave1 Try.results43 rfl ?_
 refine ⟨rfl, (Mod.refl [] w)⟩

theorem c_markFilterS_nil (q : Nat) (hq : q ≤ 1048576) (w : World) : Cl Try.prog 45 #[.slice none 0 0, vI ((q : Nat) : Int)] w fun v w' => v = vI ((q : Nat) : Int) ∧ Mod [] w w' := by
 refine Cl.of Try.func45 Try.ntmps45 rfl rfl (ρ := [(0, .slice none 0 0), (1, vI ((q : Nat) : Int))]) rfl ?_
 refine CE.seq (CE.region ?_)
 refine WL.det (op_assign rfl) rfl rfl rfl ?_
 refine WL.end (NE.code (CE.seq (CE.seq (CE.region ?_))))
 refine WL.det (op_assign rfl) rfl rfl rfl ?_
 refine WL.end (NE.code (CE.block ?_))
 refine CE.rounds 1 ?_
 refine RN.one (CE.seq (CE.seq (CE.region ?_)))
 iterate 2 refine WL.det (op_move rfl) rfl rfl rfl ?_
 refine WL.det (op_len rfl Try.runUnderlying76) rfl rfl rfl ?_
 refine WL.det (op_lti rfl rfl) rfl rfl rfl ?_
 refine WL.end (NE.code ?_)
 refine CE.cond_f rfl rfl ?_
 refine CE.exit' (XE.exit_then (XE.exit_then (XE.exit_here (NE.code (CE.seq (CE.region ?_))))))
 refine WL.det (op_move rfl) rfl rfl rfl ?_
 refine WL.det (op_assign rfl) rfl rfl rfl ?_
 refine WL.end (NE.code (CE.ret' ?_))
 refine XE.leave1 Try.results45 rfl ?_
 refine ⟨rfl, (Mod.refl [] w)⟩

theorem c_markFilterS_0 (q : Nat) (c : Nat) (b : Nat) (hq : q ≤ 1048576) (w : World) : Cl Try.prog 45 #[vS b 0 0 c, vI ((q : Nat) : Int)] w fun v w' => v = vI ((q : Nat) : Int) ∧ Mod [] w w' := by
 refine Cl.of Try.func45 Try.ntmps45 rfl rfl (ρ := [(0, vS b 0 0 c), (1, vI ((q : Nat) : Int))]) rfl ?_
 refine CE.seq (CE.region ?_)
 refine WL.det (op_assign rfl) rfl rfl rfl ?_
 refine WL.end (NE.code (CE.seq (CE.seq (CE.region ?_))))
 refine WL.det (op_assign rfl) rfl rfl rfl ?_
 refine WL.end (NE.code (CE.block ?_))
 refine CE.rounds 1 ?_
 refine RN.one (CE.seq (CE.seq (CE.region ?_)))
 iterate 2 refine WL.det (op_move rfl) rfl rfl rfl ?_
 refine WL.det (op_len rfl Try.runUnderlying76) rfl rfl rfl ?_
 refine WL.det (op_lti rfl rfl) rfl rfl rfl ?_
 refine WL.end (NE.code ?_)
 refine CE.cond_f rfl rfl ?_
 refine CE.exit' (XE.exit_then (XE.exit_then (XE.exit_here (NE.code (CE.seq (CE.region ?_))))))
 refine WL.det (op_move rfl) rfl rfl rfl ?_
 refine WL.det (op_assign rfl) rfl rfl rfl ?_
 refine WL.end (NE.code (CE.ret' ?_))
 refine XE.leave1 Try.results45 rfl ?_
 refine ⟨rfl, (Mod.refl [] w)⟩

theorem c_heldFilterS_nil (q : Nat) (hq : q ≤ 1048576) (w : World) : Cl Try.prog 46 #[.slice none 0 0, vI ((q : Nat) : Int)] w fun v w' => v = vI ((q : Nat) : Int) ∧ Mod [] w w' := by
 refine Cl.of Try.func46 Try.ntmps46 rfl rfl (ρ := [(0, .slice none 0 0), (1, vI ((q : Nat) : Int))]) rfl ?_
 refine CE.seq (CE.region ?_)
 refine WL.det (op_assign rfl) rfl rfl rfl ?_
 refine WL.end (NE.code (CE.seq (CE.seq (CE.region ?_))))
 refine WL.det (op_assign rfl) rfl rfl rfl ?_
 refine WL.end (NE.code (CE.block ?_))
 refine CE.rounds 1 ?_
 refine RN.one (CE.seq (CE.seq (CE.region ?_)))
 iterate 2 refine WL.det (op_move rfl) rfl rfl rfl ?_
 refine WL.det (op_len rfl Try.runUnderlying76) rfl rfl rfl ?_
 refine WL.det (op_lti rfl rfl) rfl rfl rfl ?_
 refine WL.end (NE.code ?_)
 refine CE.cond_f rfl rfl ?_
 refine CE.exit' (XE.exit_then (XE.exit_then (XE.exit_here (NE.code (CE.seq (CE.region ?_))))))
 refine WL.det (op_move rfl) rfl rfl rfl ?_
 refine WL.det (op_assign rfl) rfl rfl rfl ?_
 refine WL.end (NE.code (CE.ret' ?_))
 refine XE.leave1 Try.results46 rfl ?_
 refine ⟨rfl, (Mod.refl [] w)⟩

theorem c_heldFilterS_0 (q : Nat) (c : Nat) (b : Nat) (hq : q ≤ 1048576) (w : World) : Cl Try.prog 46 #[vS b 0 0 c, vI ((q : Nat) : Int)] w fun v w' => v = vI ((q : Nat) : Int) ∧ Mod [] w w' := by
 refine Cl.of Try.func46 Try.ntmps46 rfl rfl (ρ := [(0, vS b 0 0 c), (1, vI ((q : Nat) : Int))]) rfl ?_
 refine CE.seq (CE.region ?_)
 refine WL.det (op_assign rfl) rfl rfl rfl ?_
 refine WL.end (NE.code (CE.seq (CE.seq (CE.region ?_))))
 refine WL.det (op_assign rfl) rfl rfl rfl ?_
 refine WL.end (NE.code (CE.block ?_))
 refine CE.rounds 1 ?_
 refine RN.one (CE.seq (CE.seq (CE.region ?_)))
 iterate 2 refine WL.det (op_move rfl) rfl rfl rfl ?_
 refine WL.det (op_len rfl Try.runUnderlying76) rfl rfl rfl ?_
 refine WL.det (op_lti rfl rfl) rfl rfl rfl ?_
 refine WL.end (NE.code ?_)
 refine CE.cond_f rfl rfl ?_
 refine CE.exit' (XE.exit_then (XE.exit_then (XE.exit_here (NE.code (CE.seq (CE.region ?_))))))
 refine WL.det (op_move rfl) rfl rfl rfl ?_
 refine WL.det (op_assign rfl) rfl rfl rfl ?_
 refine WL.end (NE.code (CE.ret' ?_))
 refine XE.leave1 Try.results46 rfl ?_
 refine ⟨rfl, (Mod.refl [] w)⟩

theorem c_markFilterS (n : Nat) (c : Nat) (b : Nat) (es : List FiR) (q : Nat) (ln : es.length = n) (hn : n ≤ 1048576) (hq : q ≤ 1048576) (w : World) (r : Row w b 0 (cat FiR.cells es)) : Cl Try.prog 45 #[vS b 0 n c, vI ((q : Nat) : Int)] w fun v w' => v = vI (((q + 6 * n) : Nat) : Int) ∧ Row w' b 0 (cat FiR.cells (markFs es q n)) ∧ Mod [b] w w' := by
 refine Cl.of Try.func45 Try.ntmps45 rfl rfl (ρ := [(0, vS b 0 n c), (1, vI ((q : Nat) : Int))]) rfl ?_
 refine CE.seq (CE.region ?_)
 refine WL.det (op_assign rfl) rfl rfl rfl ?_
 refine WL.end (NE.code (CE.seq (CE.seq (CE.region ?_))))
 refine WL.det (op_assign rfl) rfl rfl rfl ?_
 refine WL.end (NE.code (CE.block ?_))
 refine CE.loop (fun (i : Nat) => [(5, vI ((i : Nat) : Int)), (1, vI (((q + 6 * i) : Nat) : Int)), (0, vS b 0 n c), (4, vI 0)]) (fun (i : Nat) => fun W => (i ≤ n) ∧ Row W b 0 (cat FiR.cells (markFs es q i)) ∧ Mod [b] w W) (fun (i : Nat) => n - i) 0 (⟨rfl, rfl, rfl, rfl, trivial⟩) ⟨(by omega), (Row.congr r (markFs_zero es q)), Mod.refl _ _⟩ ?_
 rintro i w1 ⟨hi, r1, m1⟩
 show CE _ _ _ _ [(5, vI ((i : Nat) : Int)), (1, vI (((q + 6 * i) : Nat) : Int)), (0, vS b 0 n c), (4, vI 0)] _
 refine CE.seq (CE.seq (CE.region ?_))
 iterate 2 refine WL.det (op_move rfl) rfl rfl rfl ?_
 refine WL.det (op_len rfl Try.runUnderlying76) rfl rfl rfl ?_
 refine WL.det (op_lti rfl rfl) rfl rfl rfl ?_
 refine WL.end (NE.code ?_)
 rcases Bool.eq_false_or_eq_true (decide (((i : Nat) : Int) < ((n : Nat) : Int))) with hb1 | hb1
 ·have hp1 := of_decide_eq_true hb1
  refine CE.cond_t rfl hb1 ?_
  refine CE.skip' (NE.code (CE.seq ?_))
  have r2 : Row w1 b 0 (splice (cat FiR.cells (markFs es q i)) (0 + i * 6) [vI (((markFs es q i).getD i FiR.d).k), vF (((markFs es q i).getD i FiR.d).c0), vF (((markFs es q i).getD i FiR.d).c1), vF (((markFs es q i).getD i FiR.d).c2), vF (((markFs es q i).getD i FiR.d).s0), vF (((markFs es q i).getD i FiR.d).s1)]) := Row.congr r1 (zp_ (cat_part (f := FiR.cells) (d := FiR.d) (fun _ => rfl) (markFs_len ln hi) (show i < n by omega)))
  refine CE.block (CE.seq (CE.region ?_))
  iterate 3 refine WL.det (op_move rfl) rfl rfl rfl ?_
  refine WL.det (op_indexSl (off' := 0 + i * 6) rfl rfl rfl Try.runUnderlying76 Try.sizeOf28 (by omega) (by omega) (by omega)) rfl rfl rfl ?_
  refine WL.det (op_fieldAddr (off' := 0 + i * 6) rfl Try.runUnderlying28 rfl rfl Try.sizeOf2 rfl) rfl rfl rfl ?_
  refine WL.op0 (op_store (i := 0 + i * 6) (cs := [vI (((q + 6 * i) : Nat) : Int)]) rfl rfl rfl Try.sizeOf2 rfl r2 (Nat.zero_add _) (sub_fit (i := 0) (zf_ (cat_fit (f := FiR.cells) (fun _ => rfl) (markFs_len ln hi) (show i < n by omega))) (lB rfl)) rfl) rfl rfl ?_
  rintro _ w2 ⟨r3, m2, z1⟩
  have r4 : Row w2 b 0 (splice (cat FiR.cells (markFs es q i)) (0 + i * 6) [vI (((q + 6 * i) : Nat) : Int), vF (((markFs es q i).getD i FiR.d).c0), vF (((markFs es q i).getD i FiR.d).c1), vF (((markFs es q i).getD i FiR.d).c2), vF (((markFs es q i).getD i FiR.d).s0), vF (((markFs es q i).getD i FiR.d).s1)]) := Row.congr r3 (sub_put (i := 0) (zf_ (cat_fit (f := FiR.cells) (fun _ => rfl) (markFs_len ln hi) (show i < n by omega))) (lB rfl) rfl)
  refine WL.end (NE.code (CE.seq (CE.region ?_)))
  refine WL.det (op_move rfl) rfl rfl rfl ?_
  refine WL.det (op_add (r := (((q + 6 * i) + 1 : Nat) : Int)) rfl rfl (w_i64 (by omega) (by omega))) rfl rfl rfl ?_
  refine WL.det (op_assign rfl) rfl rfl rfl ?_
  refine WL.end (NE.code (CE.seq (CE.seq (CE.region ?_))))
  refine WL.det (op_assign rfl) rfl rfl rfl ?_
  refine WL.end (NE.code (CE.block ?_))
  refine CE.rounds 4 ?_
  refine RN.one (CE.seq (CE.seq (CE.region ?_)))
  refine WL.det (op_move rfl) rfl rfl rfl ?_
  refine WL.det (op_lti rfl rfl) rfl rfl rfl ?_
  refine WL.end (NE.code ?_)
  refine CE.cond_t rfl rfl ?_
  refine CE.skip' (NE.code (CE.seq (CE.block (CE.seq (CE.region ?_)))))
  iterate 4 refine WL.det (op_move rfl) rfl rfl rfl ?_
  refine WL.det (op_cvt_if rfl Try.runUnderlying3 Try.runUnderlying24) rfl rfl rfl ?_
  refine WL.det (op_indexSl (off' := 0 + i * 6) rfl rfl rfl Try.runUnderlying76 Try.sizeOf28 (by omega) (by omega) (by omega)) rfl rfl rfl ?_
  refine WL.det (op_fieldAddr (off' := 0 + i * 6 + 1) rfl Try.runUnderlying28 rfl rfl Try.sizeOf25 rfl) rfl rfl rfl ?_
  refine WL.det (op_indexArr (off' := 0 + i * 6 + 1) rfl rfl Try.runUnderlying25 Try.sizeOf24 (by decide) (by decide) rfl) rfl rfl rfl ?_
  refine WL.op0 (op_store (i := 0 + i * 6 + 1) (cs := [vF (FloatKind.f32.nearest (((q + 6 * i) + 1 : Nat) : Int))]) rfl rfl rfl Try.sizeOf24 rfl r4 (Nat.zero_add _) (sub_fit (i := 1) (zf_ (cat_fit (f := FiR.cells) (fun _ => rfl) (markFs_len ln hi) (show i < n by omega))) (lB rfl)) rfl) rfl rfl ?_
  rintro _ w3 ⟨r5, m3, z2⟩
  have r6 : Row w3 b 0 (splice (cat FiR.cells (markFs es q i)) (0 + i * 6) [vI (((q + 6 * i) : Nat) : Int), vF (FloatKind.f32.nearest (((q + 6 * i) + 1 : Nat) : Int)), vF (((markFs es q i).getD i FiR.d).c1), vF (((markFs es q i).getD i FiR.d).c2), vF (((markFs es q i).getD i FiR.d).s0), vF (((markFs es q i).getD i FiR.d).s1)]) := Row.congr r5 (sub_put (i := 1) (zf_ (cat_fit (f := FiR.cells) (fun _ => rfl) (markFs_len ln hi) (show i < n by omega))) (lB rfl) rfl)
  refine WL.end (NE.code (CE.region ?_))
  refine WL.det (op_move rfl) rfl rfl rfl ?_
  refine WL.det (op_add (r := (((q + 6 * i) + 1 + 1 : Nat) : Int)) rfl rfl (w_i64 (by omega) (by omega))) rfl rfl rfl ?_
  refine WL.det (op_assign rfl) rfl rfl rfl ?_
  refine WL.end (NE.blk (NE.code (CE.region ?_)))
  refine WL.det (op_move rfl) rfl rfl rfl ?_
  refine WL.det (op_add (r := 1) rfl rfl (by decide)) rfl rfl rfl ?_
  refine WL.det (op_assign rfl) rfl rfl rfl ?_
  refine WL.end (NE.round (RN.one (CE.seq (CE.seq (CE.region ?_)))))
  refine WL.det (op_move rfl) rfl rfl rfl ?_
  refine WL.det (op_lti rfl rfl) rfl rfl rfl ?_
  refine WL.end (NE.code ?_)
  refine CE.cond_t rfl rfl ?_
  refine CE.skip' (NE.code (CE.seq (CE.block (CE.seq (CE.region ?_)))))
  iterate 4 refine WL.det (op_move rfl) rfl rfl rfl ?_
  refine WL.det (op_cvt_if rfl Try.runUnderlying3 Try.runUnderlying24) rfl rfl rfl ?_
  refine WL.det (op_indexSl (off' := 0 + i * 6) rfl rfl rfl Try.runUnderlying76 Try.sizeOf28 (by omega) (by omega) (by omega)) rfl rfl rfl ?_
  refine WL.det (op_fieldAddr (off' := 0 + i * 6 + 1) rfl Try.runUnderlying28 rfl rfl Try.sizeOf25 rfl) rfl rfl rfl ?_
  refine WL.det (op_indexArr (off' := 0 + i * 6 + 2) rfl rfl Try.runUnderlying25 Try.sizeOf24 (by decide) (by decide) rfl) rfl rfl rfl ?_
  refine WL.op0 (op_store (i := 0 + i * 6 + 2) (cs := [vF (FloatKind.f32.nearest (((q + 6 * i) + 1 + 1 : Nat) : Int))]) rfl rfl rfl Try.sizeOf24 rfl r6 (Nat.zero_add _) (sub_fit (i := 2) (zf_ (cat_fit (f := FiR.cells) (fun _ => rfl) (markFs_len ln hi) (show i < n by omega))) (lB rfl)) rfl) rfl rfl ?_
  rintro _ w4 ⟨r7, m4, z3⟩
  have r8 : Row w4 b 0 (splice (cat FiR.cells (markFs es q i)) (0 + i * 6) [vI (((q + 6 * i) : Nat) : Int), vF (FloatKind.f32.nearest (((q + 6 * i) + 1 : Nat) : Int)), vF (FloatKind.f32.nearest (((q + 6 * i) + 1 + 1 : Nat) : Int)), vF (((markFs es q i).getD i FiR.d).c2), vF (((markFs es q i).getD i FiR.d).s0), vF (((markFs es q i).getD i FiR.d).s1)]) := Row.congr r7 (sub_put (i := 2) (zf_ (cat_fit (f := FiR.cells) (fun _ => rfl) (markFs_len ln hi) (show i < n by omega))) (lB rfl) rfl)
  refine WL.end (NE.code (CE.region ?_))
  refine WL.det (op_move rfl) rfl rfl rfl ?_
  refine WL.det (op_add (r := (((q + 6 * i) + 1 + 1 + 1 : Nat) : Int)) rfl rfl (w_i64 (by omega) (by omega))) rfl rfl rfl ?_
  refine WL.det (op_assign rfl) rfl rfl rfl ?_
  refine WL.end (NE.blk (NE.code (CE.region ?_)))
  refine WL.det (op_move rfl) rfl rfl rfl ?_
  refine WL.det (op_add (r := 2) rfl rfl (by decide)) rfl rfl rfl ?_
  refine WL.det (op_assign rfl) rfl rfl rfl ?_
  refine WL.end (NE.round (RN.one (CE.seq (CE.seq (CE.region ?_)))))
  refine WL.det (op_move rfl) rfl rfl rfl ?_
  refine WL.det (op_lti rfl rfl) rfl rfl rfl ?_
  refine WL.end (NE.code ?_)
  refine CE.cond_t rfl rfl ?_
  refine CE.skip' (NE.code (CE.seq (CE.block (CE.seq (CE.region ?_)))))
  iterate 4 refine WL.det (op_move rfl) rfl rfl rfl ?_
  refine WL.det (op_cvt_if rfl Try.runUnderlying3 Try.runUnderlying24) rfl rfl rfl ?_
  refine WL.det (op_indexSl (off' := 0 + i * 6) rfl rfl rfl Try.runUnderlying76 Try.sizeOf28 (by omega) (by omega) (by omega)) rfl rfl rfl ?_
  refine WL.det (op_fieldAddr (off' := 0 + i * 6 + 1) rfl Try.runUnderlying28 rfl rfl Try.sizeOf25 rfl) rfl rfl rfl ?_
  refine WL.det (op_indexArr (off' := 0 + i * 6 + 3) rfl rfl Try.runUnderlying25 Try.sizeOf24 (by decide) (by decide) rfl) rfl rfl rfl ?_
  refine WL.op0 (op_store (i := 0 + i * 6 + 3) (cs := [vF (FloatKind.f32.nearest (((q + 6 * i) + 1 + 1 + 1 : Nat) : Int))]) rfl rfl rfl Try.sizeOf24 rfl r8 (Nat.zero_add _) (sub_fit (i := 3) (zf_ (cat_fit (f := FiR.cells) (fun _ => rfl) (markFs_len ln hi) (show i < n by omega))) (lB rfl)) rfl) rfl rfl ?_
  rintro _ w5 ⟨r9, m5, z4⟩
  have r10 : Row w5 b 0 (splice (cat FiR.cells (markFs es q i)) (0 + i * 6) [vI (((q + 6 * i) : Nat) : Int), vF (FloatKind.f32.nearest (((q + 6 * i) + 1 : Nat) : Int)), vF (FloatKind.f32.nearest (((q + 6 * i) + 1 + 1 : Nat) : Int)), vF (FloatKind.f32.nearest (((q + 6 * i) + 1 + 1 + 1 : Nat) : Int)), vF (((markFs es q i).getD i FiR.d).s0), vF (((markFs es q i).getD i FiR.d).s1)]) := Row.congr r9 (sub_put (i := 3) (zf_ (cat_fit (f := FiR.cells) (fun _ => rfl) (markFs_len ln hi) (show i < n by omega))) (lB rfl) rfl)
  refine WL.end (NE.code (CE.region ?_))
  refine WL.det (op_move rfl) rfl rfl rfl ?_
  refine WL.det (op_add (r := (((q + 6 * i) + 1 + 1 + 1 + 1 : Nat) : Int)) rfl rfl (w_i64 (by omega) (by omega))) rfl rfl rfl ?_
  refine WL.det (op_assign rfl) rfl rfl rfl ?_
  refine WL.end (NE.blk (NE.code (CE.region ?_)))
  refine WL.det (op_move rfl) rfl rfl rfl ?_
  refine WL.det (op_add (r := 3) rfl rfl (by decide)) rfl rfl rfl ?_
  refine WL.det (op_assign rfl) rfl rfl rfl ?_
  refine WL.end (NE.round (RN.one (CE.seq (CE.seq (CE.region ?_)))))
  refine WL.det (op_move rfl) rfl rfl rfl ?_
  refine WL.det (op_lti rfl rfl) rfl rfl rfl ?_
  refine WL.end (NE.code ?_)
  refine CE.cond_f rfl rfl ?_
  refine CE.exit' (XE.exit_then (XE.exit_then (XE.exit_here (NE.code (CE.seq (CE.region ?_))))))
  refine WL.det (op_assign rfl) rfl rfl rfl ?_
  refine WL.end (NE.code (CE.block ?_))
  refine CE.rounds 3 ?_
  refine RN.one (CE.seq (CE.seq (CE.region ?_)))
  refine WL.det (op_move rfl) rfl rfl rfl ?_
  refine WL.det (op_lti rfl rfl) rfl rfl rfl ?_
  refine WL.end (NE.code ?_)
  refine CE.cond_t rfl rfl ?_
  refine CE.skip' (NE.code (CE.seq (CE.block (CE.seq (CE.region ?_)))))
  iterate 4 refine WL.det (op_move rfl) rfl rfl rfl ?_
  refine WL.det (op_cvt_if rfl Try.runUnderlying3 Try.runUnderlying24) rfl rfl rfl ?_
  refine WL.det (op_indexSl (off' := 0 + i * 6) rfl rfl rfl Try.runUnderlying76 Try.sizeOf28 (by omega) (by omega) (by omega)) rfl rfl rfl ?_
  refine WL.det (op_fieldAddr (off' := 0 + i * 6 + 4) rfl Try.runUnderlying28 rfl rfl Try.sizeOf26 rfl) rfl rfl rfl ?_
  refine WL.det (op_indexArr (off' := 0 + i * 6 + 4) rfl rfl Try.runUnderlying26 Try.sizeOf24 (by decide) (by decide) rfl) rfl rfl rfl ?_
  refine WL.op0 (op_store (i := 0 + i * 6 + 4) (cs := [vF (FloatKind.f32.nearest (((q + 6 * i) + 1 + 1 + 1 + 1 : Nat) : Int))]) rfl rfl rfl Try.sizeOf24 rfl r10 (Nat.zero_add _) (sub_fit (i := 4) (zf_ (cat_fit (f := FiR.cells) (fun _ => rfl) (markFs_len ln hi) (show i < n by omega))) (lB rfl)) rfl) rfl rfl ?_
  rintro _ w6 ⟨r11, m6, z5⟩
  have r12 : Row w6 b 0 (splice (cat FiR.cells (markFs es q i)) (0 + i * 6) [vI (((q + 6 * i) : Nat) : Int), vF (FloatKind.f32.nearest (((q + 6 * i) + 1 : Nat) : Int)), vF (FloatKind.f32.nearest (((q + 6 * i) + 1 + 1 : Nat) : Int)), vF (FloatKind.f32.nearest (((q + 6 * i) + 1 + 1 + 1 : Nat) : Int)), vF (FloatKind.f32.nearest (((q + 6 * i) + 1 + 1 + 1 + 1 : Nat) : Int)), vF (((markFs es q i).getD i FiR.d).s1)]) := Row.congr r11 (sub_put (i := 4) (zf_ (cat_fit (f := FiR.cells) (fun _ => rfl) (markFs_len ln hi) (show i < n by omega))) (lB rfl) rfl)
  refine WL.end (NE.code (CE.region ?_))
  refine WL.det (op_move rfl) rfl rfl rfl ?_
  refine WL.det (op_add (r := (((q + 6 * i) + 1 + 1 + 1 + 1 + 1 : Nat) : Int)) rfl rfl (w_i64 (by omega) (by omega))) rfl rfl rfl ?_
  refine WL.det (op_assign rfl) rfl rfl rfl ?_
  refine WL.end (NE.blk (NE.code (CE.region ?_)))
  refine WL.det (op_move rfl) rfl rfl rfl ?_
  refine WL.det (op_add (r := 1) rfl rfl (by decide)) rfl rfl rfl ?_
  refine WL.det (op_assign rfl) rfl rfl rfl ?_
  refine WL.end (NE.round (RN.one (CE.seq (CE.seq (CE.region ?_)))))
  refine WL.det (op_move rfl) rfl rfl rfl ?_
  refine WL.det (op_lti rfl rfl) rfl rfl rfl ?_
  refine WL.end (NE.code ?_)
  refine CE.cond_t rfl rfl ?_
  refine CE.skip' (NE.code (CE.seq (CE.block (CE.seq (CE.region ?_)))))
  iterate 4 refine WL.det (op_move rfl) rfl rfl rfl ?_
  refine WL.det (op_cvt_if rfl Try.runUnderlying3 Try.runUnderlying24) rfl rfl rfl ?_
  refine WL.det (op_indexSl (off' := 0 + i * 6) rfl rfl rfl Try.runUnderlying76 Try.sizeOf28 (by omega) (by omega) (by omega)) rfl rfl rfl ?_
  refine WL.det (op_fieldAddr (off' := 0 + i * 6 + 4) rfl Try.runUnderlying28 rfl rfl Try.sizeOf26 rfl) rfl rfl rfl ?_
  refine WL.det (op_indexArr (off' := 0 + i * 6 + 5) rfl rfl Try.runUnderlying26 Try.sizeOf24 (by decide) (by decide) rfl) rfl rfl rfl ?_
  refine WL.op0 (op_store (i := 0 + i * 6 + 5) (cs := [vF (FloatKind.f32.nearest (((q + 6 * i) + 1 + 1 + 1 + 1 + 1 : Nat) : Int))]) rfl rfl rfl Try.sizeOf24 rfl r12 (Nat.zero_add _) (sub_fit (i := 5) (zf_ (cat_fit (f := FiR.cells) (fun _ => rfl) (markFs_len ln hi) (show i < n by omega))) (lB rfl)) rfl) rfl rfl ?_
  rintro _ w7 ⟨r13, m7, z6⟩
  have r14 : Row w7 b 0 (splice (cat FiR.cells (markFs es q i)) (0 + i * 6) [vI (((q + 6 * i) : Nat) : Int), vF (FloatKind.f32.nearest (((q + 6 * i) + 1 : Nat) : Int)), vF (FloatKind.f32.nearest (((q + 6 * i) + 1 + 1 : Nat) : Int)), vF (FloatKind.f32.nearest (((q + 6 * i) + 1 + 1 + 1 : Nat) : Int)), vF (FloatKind.f32.nearest (((q + 6 * i) + 1 + 1 + 1 + 1 : Nat) : Int)), vF (FloatKind.f32.nearest (((q + 6 * i) + 1 + 1 + 1 + 1 + 1 : Nat) : Int))]) := Row.congr r13 (sub_put (i := 5) (zf_ (cat_fit (f := FiR.cells) (fun _ => rfl) (markFs_len ln hi) (show i < n by omega))) (lB rfl) rfl)
  refine WL.end (NE.code (CE.region ?_))
  refine WL.det (op_move rfl) rfl rfl rfl ?_
  refine WL.det (op_add (r := (((q + 6 * i) + 1 + 1 + 1 + 1 + 1 + 1 : Nat) : Int)) rfl rfl (w_i64 (by omega) (by omega))) rfl rfl rfl ?_
  refine WL.det (op_assign rfl) rfl rfl rfl ?_
  refine WL.end (NE.blk (NE.code (CE.region ?_)))
  refine WL.det (op_move rfl) rfl rfl rfl ?_
  refine WL.det (op_add (r := 2) rfl rfl (by decide)) rfl rfl rfl ?_
  refine WL.det (op_assign rfl) rfl rfl rfl ?_
  refine WL.end (NE.round (RN.one (CE.seq (CE.seq (CE.region ?_)))))
  refine WL.det (op_move rfl) rfl rfl rfl ?_
  refine WL.det (op_lti rfl rfl) rfl rfl rfl ?_
  refine WL.end (NE.code ?_)
  refine CE.cond_f rfl rfl ?_
  refine CE.exit' (XE.exit_then (XE.exit_then (XE.exit_here (NE.blk (NE.code (CE.region ?_))))))
  refine WL.det (op_move rfl) rfl rfl rfl ?_
  refine WL.det (op_add (r := ((i + 1 : Nat) : Int)) rfl rfl (w_i64 (by omega) (by omega))) rfl rfl rfl ?_
  refine WL.det (op_assign rfl) rfl rfl rfl ?_
  refine WL.end ?_
  exact NE.again (i + 1) (⟨rfl, rfl, rfl, rfl, trivial⟩) ⟨(by omega), (Row.congr r14 (by rw [← markFi_cells]; exact zs_ ((cat_set (f := FiR.cells) (fun _ => rfl) (markFs_len ln hi) (show i < n by omega) (markFi (q + 6 * i))).trans (congrArg (cat FiR.cells) (markFs_set ln (by omega)))))), ((((((m1.then m2 ((aC (.inl (by simp)) aN))).then m3 ((aC (.inl (by simp)) aN))).then m4 ((aC (.inl (by simp)) aN))).then m5 ((aC (.inl (by simp)) aN))).then m6 ((aC (.inl (by simp)) aN))).then m7 ((aC (.inl (by simp)) aN)))⟩ (by first | (dsimp only; omega) | omega)
 ·have hp1 := of_decide_eq_false hb1
  refine CE.cond_f rfl hb1 ?_
  refine CE.exit' (XE.exit_then (XE.exit_then (XE.exit_here (NE.code (CE.seq (CE.region ?_))))))
  refine WL.det (op_move rfl) rfl rfl rfl ?_
  refine WL.det (op_assign rfl) rfl rfl rfl ?_
  refine WL.end (NE.code (CE.ret' ?_))
  refine XE.leave1 Try.results45 rfl ?_
  refine ⟨?_, (Row.congr r1 ?_), ((Mod.refl [b] w).then m1 ((aC (.inl (by simp)) aN)))⟩
  all_goals (have e : i = n := (by omega); subst e; rfl)

theorem c_heldFilterS (n : Nat) (c : Nat) (b : Nat) (es : List FiR) (q : Nat) (ln : es.length = n) (hn : n ≤ 1048576) (hq : q ≤ 1048576) (hh : ∀ i, i < n → es.getD i FiR.d = markFi (q + 6 * i)) (w : World) (r : Rng w b 0 (cat FiR.cells es)) : Cl Try.prog 46 #[vS b 0 n c, vI ((q : Nat) : Int)] w fun v w' => v = vI (((q + 6 * n) : Nat) : Int) ∧ Mod [] w w' := by
 refine Cl.of Try.func46 Try.ntmps46 rfl rfl (ρ := [(0, vS b 0 n c), (1, vI ((q : Nat) : Int))]) rfl ?_
 refine CE.seq (CE.region ?_)
 refine WL.det (op_assign rfl) rfl rfl rfl ?_
 refine WL.end (NE.code (CE.seq (CE.seq (CE.region ?_))))
 refine WL.det (op_assign rfl) rfl rfl rfl ?_
 refine WL.end (NE.code (CE.block ?_))
 refine CE.loop (fun (i : Nat) => [(5, vI ((i : Nat) : Int)), (1, vI (((q + 6 * i) : Nat) : Int)), (0, vS b 0 n c), (4, vI 0)]) (fun (i : Nat) => fun W => (i ≤ n) ∧ Mod [] w W) (fun (i : Nat) => n - i) 0 (⟨rfl, rfl, rfl, rfl, trivial⟩) ⟨(by omega), Mod.refl _ _⟩ ?_
 rintro i w1 ⟨hi, m1⟩
 show CE _ _ _ _ [(5, vI ((i : Nat) : Int)), (1, vI (((q + 6 * i) : Nat) : Int)), (0, vS b 0 n c), (4, vI 0)] _
 refine CE.seq (CE.seq (CE.region ?_))
 iterate 2 refine WL.det (op_move rfl) rfl rfl rfl ?_
 refine WL.det (op_len rfl Try.runUnderlying76) rfl rfl rfl ?_
 refine WL.det (op_lti rfl rfl) rfl rfl rfl ?_
 refine WL.end (NE.code ?_)
 rcases Bool.eq_false_or_eq_true (decide (((i : Nat) : Int) < ((n : Nat) : Int))) with hb1 | hb1
 ·have hp1 := of_decide_eq_true hb1
  refine CE.cond_t rfl hb1 ?_
  refine CE.skip' (NE.code (CE.seq (CE.block (CE.seq (CE.seq (CE.region ?_))))))
  iterate 2 refine WL.det (op_move rfl) rfl rfl rfl ?_
  refine WL.det (op_indexSl (off' := 0 + i * 6) rfl rfl rfl Try.runUnderlying76 Try.sizeOf28 (by omega) (by omega) (by omega)) rfl rfl rfl ?_
  refine WL.det (op_fieldAddr (off' := 0 + i * 6) rfl Try.runUnderlying28 rfl rfl Try.sizeOf2 rfl) rfl rfl rfl ?_
  refine WL.det (op_load1 (i := i * 6) rfl Try.isAgg2 (r.ext m1) rfl (cat_get0 (f := FiR.cells) (m := 6) (i := i) (d := FiR.d) (fun _ => rfl) (by have eL : List.length es = n := ln; omega) rfl)) rfl rfl rfl ?_
  refine WL.det (op_move rfl) rfl rfl rfl ?_
  refine WL.det (op_nei rfl rfl) rfl rfl rfl ?_
  refine WL.end (NE.code ?_)
  refine CE.cond_f rfl (bne_eq_false_iff_eq.2 (mark_k (hh i (by omega)))) ?_
  refine CE.skip' (NE.code (CE.seq (CE.region ?_)))
  refine WL.det (op_move rfl) rfl rfl rfl ?_
  refine WL.det (op_add (r := (((q + 6 * i) + 1 : Nat) : Int)) rfl rfl (w_i64 (by omega) (by omega))) rfl rfl rfl ?_
  refine WL.det (op_assign rfl) rfl rfl rfl ?_
  refine WL.end (NE.code (CE.seq (CE.seq (CE.region ?_))))
  refine WL.det (op_assign rfl) rfl rfl rfl ?_
  refine WL.end (NE.code (CE.block ?_))
  refine CE.rounds 4 ?_
  refine RN.one (CE.seq (CE.seq (CE.region ?_)))
  refine WL.det (op_move rfl) rfl rfl rfl ?_
  refine WL.det (op_lti rfl rfl) rfl rfl rfl ?_
  refine WL.end (NE.code ?_)
  refine CE.cond_t rfl rfl ?_
  refine CE.skip' (NE.code (CE.seq (CE.block (CE.seq (CE.seq (CE.region ?_))))))
  iterate 3 refine WL.det (op_move rfl) rfl rfl rfl ?_
  refine WL.det (op_indexSl (off' := 0 + i * 6) rfl rfl rfl Try.runUnderlying76 Try.sizeOf28 (by omega) (by omega) (by omega)) rfl rfl rfl ?_
  refine WL.det (op_fieldAddr (off' := 0 + i * 6 + 1) rfl Try.runUnderlying28 rfl rfl Try.sizeOf25 rfl) rfl rfl rfl ?_
  refine WL.det (op_indexArr (off' := 0 + i * 6 + 1) rfl rfl Try.runUnderlying25 Try.sizeOf24 (by decide) (by decide) rfl) rfl rfl rfl ?_
  refine WL.det (op_load1 (i := i * 6 + 1) rfl Try.isAgg24 (r.ext m1) rfl (cat_get (f := FiR.cells) (m := 6) (i := i) (d := FiR.d) (fun _ => rfl) (by have eL : List.length es = n := ln; omega) rfl)) rfl rfl rfl ?_
  refine WL.det (op_move rfl) rfl rfl rfl ?_
  refine WL.det (op_cvt_if rfl Try.runUnderlying3 Try.runUnderlying24) rfl rfl rfl ?_
  refine WL.det (op_fne (c := !(fEq .f32 ((es.getD i FiR.d).c0) (FloatKind.f32.nearest (((q + 6 * i) + 1 : Nat) : Int)))) rfl rfl rfl rfl rfl) rfl rfl rfl ?_
  refine WL.end (NE.code ?_)
  refine CE.cond_f rfl (bnot_t (mark_c0 (hh i (by omega)))) ?_
  refine CE.skip' (NE.code (CE.region ?_))
  refine WL.det (op_move rfl) rfl rfl rfl ?_
  refine WL.det (op_add (r := (((q + 6 * i) + 1 + 1 : Nat) : Int)) rfl rfl (w_i64 (by omega) (by omega))) rfl rfl rfl ?_
  refine WL.det (op_assign rfl) rfl rfl rfl ?_
  refine WL.end (NE.blk (NE.code (CE.region ?_)))
  refine WL.det (op_move rfl) rfl rfl rfl ?_
  refine WL.det (op_add (r := 1) rfl rfl (by decide)) rfl rfl rfl ?_
  refine WL.det (op_assign rfl) rfl rfl rfl ?_
  refine WL.end (NE.round (RN.one (CE.seq (CE.seq (CE.region ?_)))))
  refine WL.det (op_move rfl) rfl rfl rfl ?_
  refine WL.det (op_lti rfl rfl) rfl rfl rfl ?_
  refine WL.end (NE.code ?_)
  refine CE.cond_t rfl rfl ?_
  refine CE.skip' (NE.code (CE.seq (CE.block (CE.seq (CE.seq (CE.region ?_))))))
  iterate 3 refine WL.det (op_move rfl) rfl rfl rfl ?_
  refine WL.det (op_indexSl (off' := 0 + i * 6) rfl rfl rfl Try.runUnderlying76 Try.sizeOf28 (by omega) (by omega) (by omega)) rfl rfl rfl ?_
  refine WL.det (op_fieldAddr (off' := 0 + i * 6 + 1) rfl Try.runUnderlying28 rfl rfl Try.sizeOf25 rfl) rfl rfl rfl ?_
  refine WL.det (op_indexArr (off' := 0 + i * 6 + 2) rfl rfl Try.runUnderlying25 Try.sizeOf24 (by decide) (by decide) rfl) rfl rfl rfl ?_
  refine WL.det (op_load1 (i := i * 6 + 2) rfl Try.isAgg24 (r.ext m1) rfl (cat_get (f := FiR.cells) (m := 6) (i := i) (d := FiR.d) (fun _ => rfl) (by have eL : List.length es = n := ln; omega) rfl)) rfl rfl rfl ?_
  refine WL.det (op_move rfl) rfl rfl rfl ?_
  refine WL.det (op_cvt_if rfl Try.runUnderlying3 Try.runUnderlying24) rfl rfl rfl ?_
  refine WL.det (op_fne (c := !(fEq .f32 ((es.getD i FiR.d).c1) (FloatKind.f32.nearest (((q + 6 * i) + 1 + 1 : Nat) : Int)))) rfl rfl rfl rfl rfl) rfl rfl rfl ?_
  refine WL.end (NE.code ?_)
  refine CE.cond_f rfl (bnot_t (mark_c1 (hh i (by omega)))) ?_
  refine CE.skip' (NE.code (CE.region ?_))
  refine WL.det (op_move rfl) rfl rfl rfl ?_
  refine WL.det (op_add (r := (((q + 6 * i) + 1 + 1 + 1 : Nat) : Int)) rfl rfl (w_i64 (by omega) (by omega))) rfl rfl rfl ?_
  refine WL.det (op_assign rfl) rfl rfl rfl ?_
  refine WL.end (NE.blk (NE.code (CE.region ?_)))
  refine WL.det (op_move rfl) rfl rfl rfl ?_
  refine WL.det (op_add (r := 2) rfl rfl (by decide)) rfl rfl rfl ?_
  refine WL.det (op_assign rfl) rfl rfl rfl ?_
  refine WL.end (NE.round (RN.one (CE.seq (CE.seq (CE.region ?_)))))
  refine WL.det (op_move rfl) rfl rfl rfl ?_
  refine WL.det (op_lti rfl rfl) rfl rfl rfl ?_
  refine WL.end (NE.code ?_)
  refine CE.cond_t rfl rfl ?_
  refine CE.skip' (NE.code (CE.seq (CE.block (CE.seq (CE.seq (CE.region ?_))))))
  iterate 3 refine WL.det (op_move rfl) rfl rfl rfl ?_
  refine WL.det (op_indexSl (off' := 0 + i * 6) rfl rfl rfl Try.runUnderlying76 Try.sizeOf28 (by omega) (by omega) (by omega)) rfl rfl rfl ?_
  refine WL.det (op_fieldAddr (off' := 0 + i * 6 + 1) rfl Try.runUnderlying28 rfl rfl Try.sizeOf25 rfl) rfl rfl rfl ?_
  refine WL.det (op_indexArr (off' := 0 + i * 6 + 3) rfl rfl Try.runUnderlying25 Try.sizeOf24 (by decide) (by decide) rfl) rfl rfl rfl ?_
  refine WL.det (op_load1 (i := i * 6 + 3) rfl Try.isAgg24 (r.ext m1) rfl (cat_get (f := FiR.cells) (m := 6) (i := i) (d := FiR.d) (fun _ => rfl) (by have eL : List.length es = n := ln; omega) rfl)) rfl rfl rfl ?_
  refine WL.det (op_move rfl) rfl rfl rfl ?_
  refine WL.det (op_cvt_if rfl Try.runUnderlying3 Try.runUnderlying24) rfl rfl rfl ?_
  refine WL.det (op_fne (c := !(fEq .f32 ((es.getD i FiR.d).c2) (FloatKind.f32.nearest (((q + 6 * i) + 1 + 1 + 1 : Nat) : Int)))) rfl rfl rfl rfl rfl) rfl rfl rfl ?_
  refine WL.end (NE.code ?_)
  refine CE.cond_f rfl (bnot_t (mark_c2 (hh i (by omega)))) ?_
  refine CE.skip' (NE.code (CE.region ?_))
  refine WL.det (op_move rfl) rfl rfl rfl ?_
  refine WL.det (op_add (r := (((q + 6 * i) + 1 + 1 + 1 + 1 : Nat) : Int)) rfl rfl (w_i64 (by omega) (by omega))) rfl rfl rfl ?_
  refine WL.det (op_assign rfl) rfl rfl rfl ?_
  refine WL.end (NE.blk (NE.code (CE.region ?_)))
  refine WL.det (op_move rfl) rfl rfl rfl ?_
  refine WL.det (op_add (r := 3) rfl rfl (by decide)) rfl rfl rfl ?_
  refine WL.det (op_assign rfl) rfl rfl rfl ?_
  refine WL.end (NE.round (RN.one (CE.seq (CE.seq (CE.region ?_)))))
  refine WL.det (op_move rfl) rfl rfl rfl ?_
  refine WL.det (op_lti rfl rfl) rfl rfl rfl ?_
  refine WL.end (NE.code ?_)
  refine CE.cond_f rfl rfl ?_
  refine CE.exit' (XE.exit_then (XE.exit_then (XE.exit_here (NE.code (CE.seq (CE.region ?_))))))
  refine WL.det (op_assign rfl) rfl rfl rfl ?_
  refine WL.end (NE.code (CE.block ?_))
  refine CE.rounds 3 ?_
  refine RN.one (CE.seq (CE.seq (CE.region ?_)))
  refine WL.det (op_move rfl) rfl rfl rfl ?_
  refine WL.det (op_lti rfl rfl) rfl rfl rfl ?_
  refine WL.end (NE.code ?_)
  refine CE.cond_t rfl rfl ?_
  refine CE.skip' (NE.code (CE.seq (CE.block (CE.seq (CE.seq (CE.region ?_))))))
  iterate 3 refine WL.det (op_move rfl) rfl rfl rfl ?_
  refine WL.det (op_indexSl (off' := 0 + i * 6) rfl rfl rfl Try.runUnderlying76 Try.sizeOf28 (by omega) (by omega) (by omega)) rfl rfl rfl ?_
  refine WL.det (op_fieldAddr (off' := 0 + i * 6 + 4) rfl Try.runUnderlying28 rfl rfl Try.sizeOf26 rfl) rfl rfl rfl ?_
  refine WL.det (op_indexArr (off' := 0 + i * 6 + 4) rfl rfl Try.runUnderlying26 Try.sizeOf24 (by decide) (by decide) rfl) rfl rfl rfl ?_
  refine WL.det (op_load1 (i := i * 6 + 4) rfl Try.isAgg24 (r.ext m1) rfl (cat_get (f := FiR.cells) (m := 6) (i := i) (d := FiR.d) (fun _ => rfl) (by have eL : List.length es = n := ln; omega) rfl)) rfl rfl rfl ?_
  refine WL.det (op_move rfl) rfl rfl rfl ?_
  refine WL.det (op_cvt_if rfl Try.runUnderlying3 Try.runUnderlying24) rfl rfl rfl ?_
  refine WL.det (op_fne (c := !(fEq .f32 ((es.getD i FiR.d).s0) (FloatKind.f32.nearest (((q + 6 * i) + 1 + 1 + 1 + 1 : Nat) : Int)))) rfl rfl rfl rfl rfl) rfl rfl rfl ?_
  refine WL.end (NE.code ?_)
  refine CE.cond_f rfl (bnot_t (mark_s0 (hh i (by omega)))) ?_
  refine CE.skip' (NE.code (CE.region ?_))
  refine WL.det (op_move rfl) rfl rfl rfl ?_
  refine WL.det (op_add (r := (((q + 6 * i) + 1 + 1 + 1 + 1 + 1 : Nat) : Int)) rfl rfl (w_i64 (by omega) (by omega))) rfl rfl rfl ?_
  refine WL.det (op_assign rfl) rfl rfl rfl ?_
  refine WL.end (NE.blk (NE.code (CE.region ?_)))
  refine WL.det (op_move rfl) rfl rfl rfl ?_
  refine WL.det (op_add (r := 1) rfl rfl (by decide)) rfl rfl rfl ?_
  refine WL.det (op_assign rfl) rfl rfl rfl ?_
  refine WL.end (NE.round (RN.one (CE.seq (CE.seq (CE.region ?_)))))
  refine WL.det (op_move rfl) rfl rfl rfl ?_
  refine WL.det (op_lti rfl rfl) rfl rfl rfl ?_
  refine WL.end (NE.code ?_)
  refine CE.cond_t rfl rfl ?_
  refine CE.skip' (NE.code (CE.seq (CE.block (CE.seq (CE.seq (CE.region ?_))))))
  iterate 3 refine WL.det (op_move rfl) rfl rfl rfl ?_
  refine WL.det (op_indexSl (off' := 0 + i * 6) rfl rfl rfl Try.runUnderlying76 Try.sizeOf28 (by omega) (by omega) (by omega)) rfl rfl rfl ?_
  refine WL.det (op_fieldAddr (off' := 0 + i * 6 + 4) rfl Try.runUnderlying28 rfl rfl Try.sizeOf26 rfl) rfl rfl rfl ?_
  refine WL.det (op_indexArr (off' := 0 + i * 6 + 5) rfl rfl Try.runUnderlying26 Try.sizeOf24 (by decide) (by decide) rfl) rfl rfl rfl ?_
  refine WL.det (op_load1 (i := i * 6 + 5) rfl Try.isAgg24 (r.ext m1) rfl (cat_get (f := FiR.cells) (m := 6) (i := i) (d := FiR.d) (fun _ => rfl) (by have eL : List.length es = n := ln; omega) rfl)) rfl rfl rfl ?_
  refine WL.det (op_move rfl) rfl rfl rfl ?_
  refine WL.det (op_cvt_if rfl Try.runUnderlying3 Try.runUnderlying24) rfl rfl rfl ?_
  refine WL.det (op_fne (c := !(fEq .f32 ((es.getD i FiR.d).s1) (FloatKind.f32.nearest (((q + 6 * i) + 1 + 1 + 1 + 1 + 1 : Nat) : Int)))) rfl rfl rfl rfl rfl) rfl rfl rfl ?_
  refine WL.end (NE.code ?_)
  refine CE.cond_f rfl (bnot_t (mark_s1 (hh i (by omega)))) ?_
  refine CE.skip' (NE.code (CE.region ?_))
  refine WL.det (op_move rfl) rfl rfl rfl ?_
  refine WL.det (op_add (r := (((q + 6 * i) + 1 + 1 + 1 + 1 + 1 + 1 : Nat) : Int)) rfl rfl (w_i64 (by omega) (by omega))) rfl rfl rfl ?_
  refine WL.det (op_assign rfl) rfl rfl rfl ?_
  refine WL.end (NE.blk (NE.code (CE.region ?_)))
  refine WL.det (op_move rfl) rfl rfl rfl ?_
  refine WL.det (op_add (r := 2) rfl rfl (by decide)) rfl rfl rfl ?_
  refine WL.det (op_assign rfl) rfl rfl rfl ?_
  refine WL.end (NE.round (RN.one (CE.seq (CE.seq (CE.region ?_)))))
  refine WL.det (op_move rfl) rfl rfl rfl ?_
  refine WL.det (op_lti rfl rfl) rfl rfl rfl ?_
  refine WL.end (NE.code ?_)
  refine CE.cond_f rfl rfl ?_
  refine CE.exit' (XE.exit_then (XE.exit_then (XE.exit_here (NE.blk (NE.code (CE.region ?_))))))
  refine WL.det (op_move rfl) rfl rfl rfl ?_
  refine WL.det (op_add (r := ((i + 1 : Nat) : Int)) rfl rfl (w_i64 (by omega) (by omega))) rfl rfl rfl ?_
  refine WL.det (op_assign rfl) rfl rfl rfl ?_
  refine WL.end ?_
  exact NE.again (i + 1) (⟨rfl, rfl, rfl, rfl, trivial⟩) ⟨(by omega), m1⟩ (by first | (dsimp only; omega) | omega)
 ·have hp1 := of_decide_eq_false hb1
  refine CE.cond_f rfl hb1 ?_
  refine CE.exit' (XE.exit_then (XE.exit_then (XE.exit_here (NE.code (CE.seq (CE.region ?_))))))
  refine WL.det (op_move rfl) rfl rfl rfl ?_
  refine WL.det (op_assign rfl) rfl rfl rfl ?_
  refine WL.end (NE.code (CE.ret' ?_))
  refine XE.leave1 Try.results46 rfl ?_
  refine ⟨?_, ((Mod.refl [] w).nt m1)⟩
  all_goals (have e : i = n := (by omega); subst e; rfl)

theorem c_areFil1 (kd : Int) (c0 : Nat) (c1 : Nat) (c2 : Nat) (s0 : Nat) (s1 : Nat) (w : World) : Cl Try.prog 114 #[.agg #[vI kd, vF c0, vF c1, vF c2, vF s0, vF s1]] w fun v w' => v = .bool (!(vFil kd c0 c1 c2 s0 s1)) ∧ Mod [] w w' := by
 refine Cl.of Try.func114 Try.ntmps114 rfl rfl (ρ := [(0, .agg #[vI kd, vF c0, vF c1, vF c2, vF s0, vF s1])]) rfl ?_
 refine CE.seq (CE.region ?_)
 refine WL.op (op_box (cs := [vI kd, vF c0, vF c1, vF c2, vF s0, vF s1]) rfl rfl) rfl rfl (ltb rfl) ?_
 rintro _ w1 ⟨rfl, r1, m1, z1⟩
 refine WL.det (op_assign rfl) rfl rfl rfl ?_
 refine WL.end (NE.code (CE.seq (CE.region ?_)))
 refine WL.det (op_loadA (i := 0) (cs := [vI kd, vF c0, vF c1, vF c2, vF s0, vF s1]) rfl Try.isAgg28 Try.sizeOf28 r1.rng rfl rfl rfl) rfl rfl rfl ?_
 refine WL.call (oc_call (vs := [.agg #[vI kd, vF c0, vF c1, vF c2, vF s0, vF s1]]) (cap := []) rfl rfl rfl Try.call47 (c_ValidFilter kd c0 c1 c2 s0 s1 w1)) rfl rfl (ltb rfl) ?_
 rintro _ w2 ⟨rfl, m2⟩
 refine WL.det (op_not rfl) rfl rfl rfl ?_
 refine WL.det (op_assign rfl) rfl rfl rfl ?_
 refine WL.end (NE.code (CE.ret' ?_))
 refine XE.leave1 Try.results114 rfl ?_
 refine ⟨rfl, (((Mod.refl [] w).nt m1).nt m2)⟩

theorem c_indexFil (n : Nat) (c : Nat) (b : Nat) (es : List FiR) (ln : es.length = n) (hn : n ≤ 1048576) (w : World) (r : Rng w b 0 (cat FiR.cells es)) : Cl Try.prog 128 #[vS b 0 n c, .func (.func 114) #[] #[]] w fun v w' => ∃ (z : Int), v = vI z ∧ ((decide (0 ≤ z)) = !vFils es n) ∧ Mod [] w w' := by
 refine Cl.of Try.func128 Try.ntmps128 rfl rfl (ρ := [(0, vS b 0 n c), (1, .func (.func 114) #[] #[])]) rfl ?_
 refine CE.seq (CE.region ?_)
 refine WL.det (op_assign rfl) rfl rfl rfl ?_
 refine WL.end (NE.code (CE.seq (CE.seq (CE.region ?_))))
 refine WL.det (op_move rfl) rfl rfl rfl ?_
 refine WL.det (op_len rfl Try.runUnderlying76) rfl rfl rfl ?_
 refine WL.det (op_move rfl) rfl rfl rfl ?_
 refine WL.end (NE.code (CE.block ?_))
 refine CE.loop (fun (i : Nat) => [(8, vI ((i : Nat) : Int)), (0, vS b 0 n c), (1, .func (.func 114) #[] #[]), (4, vI 0), (7, vI ((n : Nat) : Int))]) (fun (i : Nat) => fun W => (i ≤ n) ∧ (vFils es i = true) ∧ Mod [] w W) (fun (i : Nat) => n - i) 0 (⟨rfl, rfl, rfl, rfl, rfl, trivial⟩) ⟨(by omega), (by rfl), Mod.refl _ _⟩ ?_
 rintro i w1 ⟨hi, hu, m1⟩
 show CE _ _ _ _ [(8, vI ((i : Nat) : Int)), (0, vS b 0 n c), (1, .func (.func 114) #[] #[]), (4, vI 0), (7, vI ((n : Nat) : Int))] _
 refine CE.seq (CE.region ?_)
 refine WL.det (op_lti rfl rfl) rfl rfl rfl ?_
 refine WL.end (NE.code (CE.seq ?_))
 rcases Bool.eq_false_or_eq_true (decide (((i : Nat) : Int) < ((n : Nat) : Int))) with hb1 | hb1
 ·have hp1 := of_decide_eq_true hb1
  refine CE.cond_t rfl hb1 ?_
  refine CE.skip' (NE.code (CE.seq (CE.block (CE.seq (CE.region ?_)))))
  refine WL.det (op_move rfl) rfl rfl rfl ?_
  refine WL.det (op_assign rfl) rfl rfl rfl ?_
  refine WL.end (NE.code (CE.seq (CE.region ?_)))
  iterate 3 refine WL.det (op_move rfl) rfl rfl rfl ?_
  refine WL.det (op_indexSl (off' := 0 + i * 6) rfl rfl rfl Try.runUnderlying76 Try.sizeOf28 (by omega) (by omega) (by omega)) rfl rfl rfl ?_
  refine WL.det (op_loadA (i := i * 6) (cs := [vI ((es.getD i FiR.d).k), vF ((es.getD i FiR.d).c0), vF ((es.getD i FiR.d).c1), vF ((es.getD i FiR.d).c2), vF ((es.getD i FiR.d).s0), vF ((es.getD i FiR.d).s1)]) rfl Try.isAgg28 Try.sizeOf28 (r.ext m1) rfl (cat_at (f := FiR.cells) (m := 6) (i := i) (d := FiR.d) (fun _ => rfl) (by have eL : List.length es = n := ln; omega)) rfl) rfl rfl rfl ?_
  refine WL.call (oc_call (vs := [.agg #[vI ((es.getD i FiR.d).k), vF ((es.getD i FiR.d).c0), vF ((es.getD i FiR.d).c1), vF ((es.getD i FiR.d).c2), vF ((es.getD i FiR.d).s0), vF ((es.getD i FiR.d).s1)]]) (cap := []) rfl rfl rfl Try.call114 (c_areFil1 ((es.getD i FiR.d).k) ((es.getD i FiR.d).c0) ((es.getD i FiR.d).c1) ((es.getD i FiR.d).c2) ((es.getD i FiR.d).s0) ((es.getD i FiR.d).s1) w1)) rfl rfl (ltb rfl) ?_
  rintro _ w2 ⟨rfl, m2⟩
  refine WL.end (NE.code ?_)
  rcases Bool.eq_false_or_eq_true (vFil ((es.getD i FiR.d).k) ((es.getD i FiR.d).c0) ((es.getD i FiR.d).c1) ((es.getD i FiR.d).c2) ((es.getD i FiR.d).s0) ((es.getD i FiR.d).s1)) with hb2 | hb2
  ·refine CE.cond_f rfl (bnot_t hb2) ?_
   refine CE.skip' (NE.blk (NE.code (CE.region ?_)))
   refine WL.det (op_add (r := ((i + 1 : Nat) : Int)) rfl rfl (w_i64 (by omega) (by omega))) rfl rfl rfl ?_
   refine WL.det (op_move rfl) rfl rfl rfl ?_
   refine WL.end ?_
   exact NE.again (i + 1) (⟨rfl, rfl, rfl, rfl, rfl, trivial⟩) ⟨(by omega), (by exact vFils_step hu (by simp_all)), (m1.nt m2)⟩ (by first | (dsimp only; omega) | omega)
  ·refine CE.cond_t rfl (bnot_f hb2) ?_
   refine CE.seq (CE.region ?_)
   refine WL.det (op_move rfl) rfl rfl rfl ?_
   refine WL.det (op_assign rfl) rfl rfl rfl ?_
   refine WL.end (NE.code (CE.ret' (XE.ret_blk (XE.ret_then (XE.ret_then (XE.ret_blk (XE.ret_then ?_)))))))
   refine XE.leave1 Try.results128 rfl ?_
   refine ⟨((i : Nat) : Int), rfl, ?_, (((Mod.refl [] w).nt m1).nt m2)⟩
   all_goals first | (rw [vFils_out (i := i) (by omega) (by simp_all)]; simp; done) | (have e : i = n := (by omega); subst e; rw [hu]; rfl)
 ·have hp1 := of_decide_eq_false hb1
  refine CE.cond_f rfl hb1 ?_
  refine CE.exit' (XE.exit_then (XE.exit_then (XE.exit_here (NE.code (CE.seq (CE.region ?_))))))
  refine WL.det (op_assign rfl) rfl rfl rfl ?_
  refine WL.end (NE.code (CE.ret' ?_))
  refine XE.leave1 Try.results128 rfl ?_
  refine ⟨(-1), rfl, ?_, ((Mod.refl [] w).nt m1)⟩
  all_goals first | (rw [vFils_out (i := i) (by omega) (by simp_all)]; simp; done) | (have e : i = n := (by omega); subst e; rw [hu]; rfl)

theorem c_containsFil (n : Nat) (c : Nat) (b : Nat) (es : List FiR) (ln : es.length = n) (hn : n ≤ 1048576) (w : World) (r : Rng w b 0 (cat FiR.cells es)) : Cl Try.prog 113 #[vS b 0 n c, .func (.func 114) #[] #[]] w fun v w' => v = .bool (!vFils es n) ∧ Mod [] w w' := by
 refine Cl.of Try.func113 Try.ntmps113 rfl rfl (ρ := [(0, vS b 0 n c), (1, .func (.func 114) #[] #[])]) rfl ?_
 refine CE.seq (CE.region ?_)
 refine WL.det (op_assign rfl) rfl rfl rfl ?_
 refine WL.end (NE.code (CE.seq (CE.region ?_)))
 iterate 2 refine WL.det (op_move rfl) rfl rfl rfl ?_
 refine WL.call (oc_call (vs := [vS b 0 n c, .func (.func 114) #[] #[]]) (cap := []) rfl rfl rfl Try.call128 (c_indexFil n c b es ln (by omega) w r)) rfl rfl (ltb rfl) ?_
 rintro _ w1 ⟨z1, rfl, h1, m1⟩
 refine WL.det (op_gei rfl rfl) rfl rfl rfl ?_
 refine WL.det (op_assign rfl) rfl rfl rfl ?_
 refine WL.end (NE.code (CE.ret' ?_))
 refine XE.leave1 Try.results113 rfl ?_
 refine ⟨?_, ((Mod.refl [] w).nt m1)⟩
 all_goals (exact congrArg Value.bool (by assumption))

theorem c_areFilters (n : Nat) (c : Nat) (b : Nat) (es : List FiR) (ln : es.length = n) (hn : n ≤ 1048576) (w : World) (r : Rng w b 0 (cat FiR.cells es)) : Cl Try.prog 78 #[vS b 0 n c] w fun v w' => v = .bool (vFils es n) ∧ Mod [] w w' := by
 refine Cl.of Try.func78 Try.ntmps78 rfl rfl (ρ := [(0, vS b 0 n c)]) rfl ?_
 refine CE.seq (CE.region ?_)
 refine WL.det (op_assign rfl) rfl rfl rfl ?_
 refine WL.end (NE.code (CE.seq (CE.region ?_)))
 refine WL.det (op_move rfl) rfl rfl rfl ?_
 refine WL.call (oc_call (vs := [vS b 0 n c, .func (.func 114) #[] #[]]) (cap := []) rfl rfl rfl Try.call113 (c_containsFil n c b es ln (by omega) w r)) rfl rfl (ltb rfl) ?_
 rintro _ w1 ⟨rfl, m1⟩
 refine WL.det (op_not rfl) rfl rfl rfl ?_
 refine WL.det (op_assign rfl) rfl rfl rfl ?_
 refine WL.end (NE.code (CE.ret' ?_))
 refine XE.leave1 Try.results78 rfl ?_
 refine ⟨?_, ((Mod.refl [] w).nt m1)⟩
 all_goals simp

theorem c_CloneFil (n : Nat) (c : Nat) (b : Nat) (es : List FiR) (ln : es.length = n) (h0 : 0 < n) (hn : n ≤ 1048576) (w : World) (r : Rng w b 0 (cat FiR.cells es)) : Cl Try.prog 79 #[vS b 0 n c] w fun v w' => ∃ (b' : Nat) (c' : Nat), v = vS b' 0 n c' ∧ Row w' b' 0 (cat FiR.cells es) ∧ w.heap.size ≤ b' ∧ Mod [] w w' := by
 refine Cl.of Try.func79 Try.ntmps79 rfl rfl (ρ := [(0, vS b 0 n c)]) rfl ?_
 refine CE.seq (CE.region ?_)
 refine WL.det (op_assign rfl) rfl rfl rfl ?_
 refine WL.end (NE.code (CE.seq (CE.seq (CE.region ?_))))
 refine WL.det (op_move rfl) rfl rfl rfl ?_
 refine WL.det (op_sl_nil rfl rfl Try.underlying76) rfl rfl rfl ?_
 refine WL.end (NE.code ?_)
 refine CE.cond_f rfl rfl ?_
 refine CE.skip' (NE.code (CE.seq (CE.region ?_)))
 refine WL.op (op_emptySl rfl Try.runUnderlying76 Try.sizeOf28) rfl rfl (ltb rfl) ?_
 rintro _ w1 ⟨rfl, r1, m1, z1⟩
 refine WL.det (op_move rfl) rfl rfl rfl ?_
 refine WL.op (op_appendR (f := FiR.cells) (i := Try.t28) (sz := 6) (bt := 32) (fun _ => rfl) rfl rfl Try.underlying76 rfl rfl rfl rfl (r.ext m1) ln (by omega) (by omega) (by decide)) rfl rfl (ltb rfl) ?_
 rintro _ w2 ⟨b1, c1, rfl, ge1, r2, m2⟩
 refine WL.det (op_assign rfl) rfl rfl rfl ?_
 refine WL.end (NE.code (CE.ret' ?_))
 refine XE.leave1 Try.results79 rfl ?_
 refine ⟨b1, c1, rfl, r2, (lT m1.size ge1), (((Mod.refl [] w).nt m1).nt m2)⟩

theorem c_CloneFil0 (c : Nat) (b : Nat) (w : World) : Cl Try.prog 79 #[vS b 0 0 c] w fun v w' => ∃ (b' : Nat), v = vS b' 0 0 0 ∧ Row w' b' 0 [] ∧ w.heap.size ≤ b' ∧ Mod [] w w' := by
 refine Cl.of Try.func79 Try.ntmps79 rfl rfl (ρ := [(0, vS b 0 0 c)]) rfl ?_
 refine CE.seq (CE.region ?_)
 refine WL.det (op_assign rfl) rfl rfl rfl ?_
 refine WL.end (NE.code (CE.seq (CE.seq (CE.region ?_))))
 refine WL.det (op_move rfl) rfl rfl rfl ?_
 refine WL.det (op_sl_nil rfl rfl Try.underlying76) rfl rfl rfl ?_
 refine WL.end (NE.code ?_)
 refine CE.cond_f rfl rfl ?_
 refine CE.skip' (NE.code (CE.seq (CE.region ?_)))
 refine WL.op (op_emptySl rfl Try.runUnderlying76 Try.sizeOf28) rfl rfl (ltb rfl) ?_
 rintro _ w1 ⟨rfl, r1, m1, z1⟩
 refine WL.det (op_move rfl) rfl rfl rfl ?_
 refine WL.det (op_appN (i := Try.t28) rfl rfl (by decide) Try.underlying76 rfl) rfl rfl rfl ?_
 refine WL.det (op_assign rfl) rfl rfl rfl ?_
 refine WL.end (NE.code (CE.ret' ?_))
 refine XE.leave1 Try.results79 rfl ?_
 refine ⟨w.heap.size, rfl, r1, lR, ((Mod.refl [] w).nt m1)⟩

end Go.Proofs.Ytnpkhjafnjpnmaa
