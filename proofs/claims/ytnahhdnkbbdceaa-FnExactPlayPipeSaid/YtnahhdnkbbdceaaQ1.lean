/- What the functions on lists of rings compute: sizes, copies, comparisons and marks. -/
import Derived.Test.YtnahhdnkbbdceaaH0
import Derived.Test.YtnahhdnkbbdceaaE16
set_option linter.unusedVariables false
set_option linter.unusedSimpArgs false
set_option maxRecDepth 100000
set_option maxHeartbeats 8000000
namespace Go.Proofs.Ytnahhdnkbbdceaa

/-- the number of samples of the first `i` rings -/
def sumR (es : List RiR) : Nat → Nat
  | 0 => 0
  | i + 1 => sumR es i + (es.getD i RiR.d).n
theorem sumR_succ (es : List RiR) (i : Nat) : sumR es (i + 1) = sumR es i + (es.getD i RiR.d).n := rfl
theorem sumR_le {es : List RiR} {i n : Nat} (h : i ≤ n) : sumR es i ≤ sumR es n := by
  induction n with
  | zero => obtain rfl : i = 0 := by omega
            exact Nat.le_refl _
  | succ n ih =>
    rcases Nat.lt_or_ge n i with c | c
    · obtain rfl : i = n + 1 := by omega
      exact Nat.le_refl _
    · have := ih c; rw [sumR_succ]; omega
theorem sumR_get {es : List RiR} {n : Nat} (hl : es.length = n) (i : Nat) : (es.getD i RiR.d).n ≤ sumR es n := by
  rcases Nat.lt_or_ge i n with c | c
  · have := sumR_le (es := es) (i := i + 1) (n := n) c
    rw [sumR_succ] at this; omega
  · have : es.getD i RiR.d = RiR.d := by simp [List.getD_eq_getElem?_getD, List.getElem?_eq_none (show es.length ≤ i by omega)]
    rw [this]; exact Nat.zero_le _
theorem rd_len {es : List RiR} {n : Nat} (hl : es.length = n) : (es.map RiR.rd).length = n := by simpa using hl
theorem rd_small {w : World} {es : List RiR} (h : InF w es) (hz : ∀ i, (es.getD i RiR.d).n ≤ 1048576) (i : Nat) : ((es.map RiR.rd).getD i RD.d).xs.length ≤ 1048576 := by
  rw [InF.rd]; exact Nat.le_trans (Nat.le_of_eq (h.len i)) (hz i)
theorem OF.congr {lo : Nat} {w : World} {D D' : List RD} {P : List BC} (h : OF lo w D P) (e : D = D') : OF lo w D' P := e ▸ h
theorem small_set {D : List RD} {i m : Nat} {a : RD} (hz : ∀ j, (D.getD j RD.d).xs.length ≤ m) (ha : a.xs.length ≤ m) (j : Nat) : ((D.set i a).getD j RD.d).xs.length ≤ m := by
  by_cases e : i = j
  · subst e
    by_cases hi : i < D.length
    · have : (D.set i a).getD i RD.d = a := by simp [List.getD_eq_getElem?_getD, hi]
      rw [this]; exact ha
    · have : D.set i a = D := List.set_eq_of_length_le (by omega)
      rw [this]; exact hz i
  · have : (D.set i a).getD j RD.d = D.getD j RD.d := by simp only [List.getD_eq_getElem?_getD, List.getElem?_set_ne e]
    rw [this]; exact hz j
theorem small_two {D : List RD} {i m : Nat} {xs : List Nat} {a c : Int} (hz : ∀ j, (D.getD j RD.d).xs.length ≤ m) (ha : xs.length ≤ m) (j : Nat) : (((D.set i ⟨xs, a⟩).set i ⟨((D.set i ⟨xs, a⟩).getD i RD.d).xs, c⟩).getD j RD.d).xs.length ≤ m :=
  small_set (a := ⟨_, c⟩) (small_set (a := ⟨xs, a⟩) hz ha) (small_set (a := ⟨xs, a⟩) hz ha i) j

theorem c_szRingS (l : Nat) (n : Nat) (c : Nat) (A : Option Addr) (b : Nat) (o : Nat) (es : List RiR) (ln : es.length = n) (hA : 0 < n → A = some ⟨b, o, none⟩) (hl : n + sumR es n ≤ l) (hm : l ≤ 1048576) (w : World) (r : Rng w b o (cat RiR.cells es)) (hFes : InF w es) : Cl Try.prog 79 #[.slice A n c, vI ((l : Nat) : Int)] w fun v w' => v = vI ((l - n - sumR es n : Nat) : Int) ∧ Mod [] w w' := by
 refine Cl.of Try.func79 Try.ntmps79 rfl rfl (ρ := [(0, .slice A n c), (1, vI ((l : Nat) : Int))]) rfl ?_
 refine CE.seq (CE.region ?_)
 refine WL.det (op_assign rfl) rfl rfl rfl ?_
 refine WL.end (NE.code (CE.seq (CE.region ?_)))
 iterate 2 refine WL.det (op_move rfl) rfl rfl rfl ?_
 refine WL.det (op_len rfl Try.runUnderlying47) rfl rfl rfl ?_
 refine WL.det (op_sub (r := ((l - n : Nat) : Int)) rfl rfl (w_nsub (l := l) (n := n) (by omega) (by omega))) rfl rfl rfl ?_
 refine WL.det (op_assign rfl) rfl rfl rfl ?_
 refine WL.end (NE.code (CE.seq (CE.seq (CE.region ?_))))
 refine WL.det (op_move rfl) rfl rfl rfl ?_
 refine WL.det (op_lti_f rfl rfl (Int.not_lt.2 (Int.natCast_nonneg _))) rfl rfl rfl ?_
 refine WL.end (NE.code ?_)
 refine CE.cond_f rfl rfl ?_
 refine CE.skip' (NE.code (CE.seq (CE.seq (CE.region ?_))))
 refine WL.det (op_assign rfl) rfl rfl rfl ?_
 refine WL.end (NE.code (CE.block ?_))
 refine CE.loop (fun (z : Nat × Nat) => [(5, vI ((z.1 : Nat) : Int)), (1, vI ((z.2 : Nat) : Int)), (0, .slice A n c), (4, vI 0)]) (fun (z : Nat × Nat) => fun W => (z.1 ≤ n) ∧ (z.2 + n + sumR es z.1 = l) ∧ Mod [] w W) (fun (z : Nat × Nat) => n - z.1) (0, (l - n)) (⟨rfl, rfl, rfl, rfl, trivial⟩) ⟨(by omega), (by show _ + _ + 0 = _; omega), Mod.refl _ _⟩ ?_
 rintro ⟨i, k⟩ w1 ⟨hi, hk, m1⟩
 replace hi : i ≤ n := hi
 replace hk : k + n + sumR es i = l := hk
 have hs1 := sumR_succ es i
 have hs2 : i + 1 ≤ n → sumR es (i + 1) ≤ sumR es n := sumR_le
 show CE _ _ _ _ [(5, vI ((i : Nat) : Int)), (1, vI ((k : Nat) : Int)), (0, .slice A n c), (4, vI 0)] _
 refine CE.seq (CE.seq (CE.region ?_))
 iterate 2 refine WL.det (op_move rfl) rfl rfl rfl ?_
 refine WL.det (op_len rfl Try.runUnderlying47) rfl rfl rfl ?_
 refine WL.det (op_lti rfl rfl) rfl rfl rfl ?_
 refine WL.end (NE.code ?_)
 rcases Bool.eq_false_or_eq_true (decide (((i : Nat) : Int) < ((n : Nat) : Int))) with hb1 | hb1
 ·have hp1 := of_decide_eq_true hb1
  refine CE.cond_t rfl hb1 ?_
  refine CE.skip' (NE.code (CE.seq (CE.block (CE.seq (CE.region ?_)))))
  iterate 2 refine WL.det (op_move rfl) rfl rfl rfl ?_
  refine WL.det (op_indexSl (off' := o + i * 2) rfl (hA (by omega)) rfl Try.runUnderlying47 Try.sizeOf143 (by omega) (by omega) (by omega)) rfl rfl rfl ?_
  refine WL.det (op_loadA (i := i * 2) (cs := [.slice (es.getD i RiR.d).A ((es.getD i RiR.d).n) ((es.getD i RiR.d).c), vI ((es.getD i RiR.d).at_)]) rfl Try.isAgg143 Try.sizeOf143 (r.ext m1) rfl (cat_at (f := RiR.cells) (m := 2) (i := i) (d := RiR.d) (fun _ => rfl) (by have eL : List.length es = n := ln; omega)) rfl) rfl rfl rfl ?_
  refine WL.det (op_move rfl) rfl rfl rfl ?_
  refine WL.call (oc_call (vs := [.agg #[.slice (es.getD i RiR.d).A ((es.getD i RiR.d).n) ((es.getD i RiR.d).c), vI ((es.getD i RiR.d).at_)], vI ((k : Nat) : Int)]) (cap := []) rfl rfl rfl Try.call129 (c_szRing k ((es.getD i RiR.d).n) ((es.getD i RiR.d).c) ((es.getD i RiR.d).A) ((es.getD i RiR.d).at_) (by omega) (by omega) w1)) rfl rfl (ltb rfl) ?_
  rintro _ w2 ⟨rfl, m2⟩
  refine WL.det (op_assign rfl) rfl rfl rfl ?_
  refine WL.end (NE.code (CE.seq (CE.region ?_)))
  refine WL.det (op_move rfl) rfl rfl rfl ?_
  refine WL.det (op_lti_f rfl rfl (Int.not_lt.2 (Int.natCast_nonneg _))) rfl rfl rfl ?_
  refine WL.end (NE.code ?_)
  refine CE.cond_f rfl rfl ?_
  refine CE.skip' (NE.blk (NE.code (CE.region ?_)))
  refine WL.det (op_move rfl) rfl rfl rfl ?_
  refine WL.det (op_add (r := ((i + 1 : Nat) : Int)) rfl rfl (w_i64 (by omega) (by omega))) rfl rfl rfl ?_
  refine WL.det (op_assign rfl) rfl rfl rfl ?_
  refine WL.end ?_
  exact NE.again ((i + 1), (k - ((es.getD i RiR.d).n))) (⟨rfl, rfl, rfl, rfl, trivial⟩) ⟨(by omega), (by rw [sumR_succ]; omega), (m1.nt m2)⟩ (by first | (dsimp only; omega) | omega)
 ·have hp1 := of_decide_eq_false hb1
  refine CE.cond_f rfl hb1 ?_
  refine CE.exit' (XE.exit_then (XE.exit_then (XE.exit_here (NE.code (CE.seq (CE.region ?_))))))
  refine WL.det (op_move rfl) rfl rfl rfl ?_
  refine WL.det (op_assign rfl) rfl rfl rfl ?_
  refine WL.end (NE.code (CE.ret' ?_))
  refine XE.leave1 Try.results79 rfl ?_
  refine ⟨?_, ((Mod.refl [] w).nt m1)⟩
  all_goals (have e : i = n := (by omega); subst e; exact congrArg (fun z : Nat => Value.int .i64 (z : Int)) (by omega))

theorem c_szRingS_o1 (l : Nat) (n : Nat) (c : Nat) (A : Option Addr) (b : Nat) (o : Nat) (es : List RiR) (ln : es.length = n) (hA : 0 < n → A = some ⟨b, o, none⟩) (hl : l < n) (hm : l ≤ 1048576) (hn : n ≤ 9223372036854775807) (w : World) (r : Rng w b o (cat RiR.cells es)) (hFes : InF w es) : Cl Try.prog 79 #[.slice A n c, vI ((l : Nat) : Int)] w fun v w' => v = vI (-1) ∧ Mod [] w w' := by
 refine Cl.of Try.func79 Try.ntmps79 rfl rfl (ρ := [(0, .slice A n c), (1, vI ((l : Nat) : Int))]) rfl ?_
 refine CE.seq (CE.region ?_)
 refine WL.det (op_assign rfl) rfl rfl rfl ?_
 refine WL.end (NE.code (CE.seq (CE.region ?_)))
 iterate 2 refine WL.det (op_move rfl) rfl rfl rfl ?_
 refine WL.det (op_len rfl Try.runUnderlying47) rfl rfl rfl ?_
 refine WL.det (op_sub (r := (((l : Nat) : Int) - ((n : Nat) : Int))) rfl rfl (w_i64 (by omega) (by omega))) rfl rfl rfl ?_
 refine WL.det (op_assign rfl) rfl rfl rfl ?_
 refine WL.end (NE.code (CE.seq (CE.seq (CE.region ?_))))
 refine WL.det (op_move rfl) rfl rfl rfl ?_
 refine WL.det (op_lti rfl rfl) rfl rfl rfl ?_
 refine WL.end (NE.code ?_)
 refine CE.cond_t rfl (decide_eq_true (by omega)) ?_
 refine CE.seq (CE.region ?_)
 refine WL.det (op_assign rfl) rfl rfl rfl ?_
 refine WL.end (NE.code (CE.ret' (XE.ret_then ?_)))
 refine XE.leave1 Try.results79 rfl ?_
 refine ⟨rfl, (Mod.refl [] w)⟩

theorem c_szRingS_o2 (l : Nat) (n : Nat) (c : Nat) (A : Option Addr) (b : Nat) (o : Nat) (es : List RiR) (ln : es.length = n) (hA : 0 < n → A = some ⟨b, o, none⟩) (hl : l < n + sumR es n) (hnl : n ≤ l) (hm : l ≤ 1048576) (w : World) (r : Rng w b o (cat RiR.cells es)) (hFes : InF w es) : Cl Try.prog 79 #[.slice A n c, vI ((l : Nat) : Int)] w fun v w' => v = vI (-1) ∧ Mod [] w w' := by
 refine Cl.of Try.func79 Try.ntmps79 rfl rfl (ρ := [(0, .slice A n c), (1, vI ((l : Nat) : Int))]) rfl ?_
 refine CE.seq (CE.region ?_)
 refine WL.det (op_assign rfl) rfl rfl rfl ?_
 refine WL.end (NE.code (CE.seq (CE.region ?_)))
 iterate 2 refine WL.det (op_move rfl) rfl rfl rfl ?_
 refine WL.det (op_len rfl Try.runUnderlying47) rfl rfl rfl ?_
 refine WL.det (op_sub (r := ((l - n : Nat) : Int)) rfl rfl (w_nsub (l := l) (n := n) (by omega) (by omega))) rfl rfl rfl ?_
 refine WL.det (op_assign rfl) rfl rfl rfl ?_
 refine WL.end (NE.code (CE.seq (CE.seq (CE.region ?_))))
 refine WL.det (op_move rfl) rfl rfl rfl ?_
 refine WL.det (op_lti_f rfl rfl (Int.not_lt.2 (Int.natCast_nonneg _))) rfl rfl rfl ?_
 refine WL.end (NE.code ?_)
 refine CE.cond_f rfl rfl ?_
 refine CE.skip' (NE.code (CE.seq (CE.seq (CE.region ?_))))
 refine WL.det (op_assign rfl) rfl rfl rfl ?_
 refine WL.end (NE.code (CE.block ?_))
 refine CE.loop (fun (z : Nat × Nat) => [(5, vI ((z.1 : Nat) : Int)), (1, vI ((z.2 : Nat) : Int)), (0, .slice A n c), (4, vI 0)]) (fun (z : Nat × Nat) => fun W => (z.1 ≤ n) ∧ (z.2 + n + sumR es z.1 = l) ∧ Mod [] w W) (fun (z : Nat × Nat) => n - z.1) (0, (l - n)) (⟨rfl, rfl, rfl, rfl, trivial⟩) ⟨(by omega), (by show _ + _ + 0 = _; omega), Mod.refl _ _⟩ ?_
 rintro ⟨i, k⟩ w1 ⟨hi, hk, m1⟩
 replace hi : i ≤ n := hi
 replace hk : k + n + sumR es i = l := hk
 have hs1 := sumR_succ es i
 have hs2 : i + 1 ≤ n → sumR es (i + 1) ≤ sumR es n := sumR_le
 have hb := hFes.small i
 show CE _ _ _ _ [(5, vI ((i : Nat) : Int)), (1, vI ((k : Nat) : Int)), (0, .slice A n c), (4, vI 0)] _
 refine CE.seq (CE.seq (CE.region ?_))
 iterate 2 refine WL.det (op_move rfl) rfl rfl rfl ?_
 refine WL.det (op_len rfl Try.runUnderlying47) rfl rfl rfl ?_
 refine WL.det (op_lti rfl rfl) rfl rfl rfl ?_
 refine WL.end (NE.code ?_)
 rcases Bool.eq_false_or_eq_true (decide (((i : Nat) : Int) < ((n : Nat) : Int))) with hb1 | hb1
 ·have hp1 := of_decide_eq_true hb1
  refine CE.cond_t rfl hb1 ?_
  refine CE.skip' (NE.code (CE.seq (CE.block (CE.seq (CE.region ?_)))))
  iterate 2 refine WL.det (op_move rfl) rfl rfl rfl ?_
  refine WL.det (op_indexSl (off' := o + i * 2) rfl (hA (by omega)) rfl Try.runUnderlying47 Try.sizeOf143 (by omega) (by omega) (by omega)) rfl rfl rfl ?_
  refine WL.det (op_loadA (i := i * 2) (cs := [.slice (es.getD i RiR.d).A ((es.getD i RiR.d).n) ((es.getD i RiR.d).c), vI ((es.getD i RiR.d).at_)]) rfl Try.isAgg143 Try.sizeOf143 (r.ext m1) rfl (cat_at (f := RiR.cells) (m := 2) (i := i) (d := RiR.d) (fun _ => rfl) (by have eL : List.length es = n := ln; omega)) rfl) rfl rfl rfl ?_
  refine WL.det (op_move rfl) rfl rfl rfl ?_
  rcases Bool.eq_false_or_eq_true (decide (k < (es.getD i RiR.d).n)) with hb2 | hb2
  ·have hp2 := of_decide_eq_true hb2
   refine WL.call (oc_call (vs := [.agg #[.slice (es.getD i RiR.d).A ((es.getD i RiR.d).n) ((es.getD i RiR.d).c), vI ((es.getD i RiR.d).at_)], vI ((k : Nat) : Int)]) (cap := []) rfl rfl rfl Try.call129 (c_szRing_over k ((es.getD i RiR.d).n) ((es.getD i RiR.d).c) ((es.getD i RiR.d).A) ((es.getD i RiR.d).at_) (by omega) (by omega) (by omega) w1)) rfl rfl (ltb rfl) ?_
   rintro _ w2 ⟨rfl, m2⟩
   refine WL.det (op_assign rfl) rfl rfl rfl ?_
   refine WL.end (NE.code (CE.seq (CE.region ?_)))
   refine WL.det (op_move rfl) rfl rfl rfl ?_
   refine WL.det (op_lti rfl rfl) rfl rfl rfl ?_
   refine WL.end (NE.code ?_)
   refine CE.cond_t rfl rfl ?_
   refine CE.seq (CE.region ?_)
   refine WL.det (op_assign rfl) rfl rfl rfl ?_
   refine WL.end (NE.code (CE.ret' (XE.ret_blk (XE.ret_then (XE.ret_then (XE.ret_blk (XE.ret_then ?_)))))))
   refine XE.leave1 Try.results79 rfl ?_
   refine ⟨rfl, (((Mod.refl [] w).nt m1).nt m2)⟩
  ·have hp2 := of_decide_eq_false hb2
   refine WL.call (oc_call (vs := [.agg #[.slice (es.getD i RiR.d).A ((es.getD i RiR.d).n) ((es.getD i RiR.d).c), vI ((es.getD i RiR.d).at_)], vI ((k : Nat) : Int)]) (cap := []) rfl rfl rfl Try.call129 (c_szRing k ((es.getD i RiR.d).n) ((es.getD i RiR.d).c) ((es.getD i RiR.d).A) ((es.getD i RiR.d).at_) (by omega) (by omega) w1)) rfl rfl (ltb rfl) ?_
   rintro _ w3 ⟨rfl, m3⟩
   refine WL.det (op_assign rfl) rfl rfl rfl ?_
   refine WL.end (NE.code (CE.seq (CE.region ?_)))
   refine WL.det (op_move rfl) rfl rfl rfl ?_
   refine WL.det (op_lti_f rfl rfl (Int.not_lt.2 (Int.natCast_nonneg _))) rfl rfl rfl ?_
   refine WL.end (NE.code ?_)
   refine CE.cond_f rfl rfl ?_
   refine CE.skip' (NE.blk (NE.code (CE.region ?_)))
   refine WL.det (op_move rfl) rfl rfl rfl ?_
   refine WL.det (op_add (r := ((i + 1 : Nat) : Int)) rfl rfl (w_i64 (by omega) (by omega))) rfl rfl rfl ?_
   refine WL.det (op_assign rfl) rfl rfl rfl ?_
   refine WL.end ?_
   exact NE.again ((i + 1), (k - ((es.getD i RiR.d).n))) (⟨rfl, rfl, rfl, rfl, trivial⟩) ⟨(by omega), (by rw [sumR_succ]; omega), (m1.nt m3)⟩ (by first | (dsimp only; omega) | omega)
 ·have hp1 := of_decide_eq_false hb1
  refine CE.cond_f rfl hb1 ?_
  refine CE.exit' (XE.exit_then (XE.exit_then (XE.exit_here (NE.code (CE.seq (CE.region ?_))))))
  refine WL.det (op_move rfl) rfl rfl rfl ?_
  refine WL.det (op_assign rfl) rfl rfl rfl ?_
  refine WL.end (NE.code (CE.ret' ?_))
  refine XE.leave1 Try.results79 rfl ?_
  refine ⟨?_, ((Mod.refl [] w).nt m1)⟩
  all_goals (exfalso; have e : i = n := (by omega); subst e; omega)

theorem c_toRingS (n : Nat) (c : Nat) (A : Option Addr) (b : Nat) (o : Nat) (es : List RiR) (ln : es.length = n) (hA : 0 < n → A = some ⟨b, o, none⟩) (hn : n ≤ 1048576) (hz : ∀ i, (es.getD i RiR.d).n ≤ 1048576) (w : World) (r : Rng w b o (cat RiR.cells es)) (hFes : InF w es) : Cl Try.prog 81 #[.slice A n c] w fun v w' => ∃ (b' : Nat) (P : List BC), v = vS b' 0 n n ∧ (P.length = n) ∧ Row w' b' 0 (olc (es.map RiR.rd) P) ∧ w.heap.size ≤ b' ∧ OF w.heap.size w' (es.map RiR.rd) P ∧ (∀ i, i < n → (P.getD i BC.d).b ≠ b') ∧ Mod [] w w' := by
 refine Cl.of Try.func81 Try.ntmps81 rfl rfl (ρ := [(0, .slice A n c)]) rfl ?_
 refine CE.seq (CE.region ?_)
 refine WL.det (op_assign rfl) rfl rfl rfl ?_
 refine WL.end (NE.code (CE.seq (CE.region ?_)))
 refine WL.det (op_move rfl) rfl rfl rfl ?_
 refine WL.det (op_len rfl Try.runUnderlying47) rfl rfl rfl ?_
 refine WL.op (op_makeR (f := zf) (d := ()) (i := Try.t60) (m := n) (sz := 2) (bt := 32) rfl rfl rfl rfl Try.underlying25 rfl rfl rfl rfl (by decide) rfl rfl (by decide) (by omega)) rfl rfl (ltb rfl) ?_
 rintro _ w1 ⟨rfl, r1, m1, z1⟩
 refine WL.det (op_assign rfl) rfl rfl rfl ?_
 refine WL.end (NE.code (CE.seq (CE.seq (CE.region ?_))))
 refine WL.det (op_assign rfl) rfl rfl rfl ?_
 refine WL.end (NE.code (CE.block ?_))
 refine CE.loop (fun (z : Nat × List BC) => [(4, vI ((z.1 : Nat) : Int)), (0, .slice A n c), (2, .slice none 0 0), (3, vS w.heap.size 0 n n)]) (fun (z : Nat × List BC) => fun W => (z.1 ≤ n) ∧ (z.2.length = z.1) ∧ Row W w.heap.size 0 (olz n ((es.take z.1).map RiR.rd) z.2) ∧ OF w1.heap.size W ((es.take z.1).map RiR.rd) z.2 ∧ Mod [w.heap.size] w1 W) (fun (z : Nat × List BC) => n - z.1) (0, []) (⟨rfl, rfl, rfl, rfl, trivial⟩) ⟨(by omega), (by rfl), (Row.congr r1 rfl), OF.nil, Mod.refl _ _⟩ ?_
 rintro ⟨i, P⟩ w2 ⟨hi, hP, r2, fm1, m2⟩
 replace hi : i ≤ n := hi
 replace hP : P.length = i := hP
 replace r2 : Row w2 w.heap.size 0 (olz n ((es.take i).map RiR.rd) P) := r2
 replace fm1 : OF w1.heap.size w2 ((es.take i).map RiR.rd) P := fm1
 have hzi := hz i
 show CE _ _ _ _ [(4, vI ((i : Nat) : Int)), (0, .slice A n c), (2, .slice none 0 0), (3, vS w.heap.size 0 n n)] _
 refine CE.seq (CE.seq (CE.region ?_))
 iterate 2 refine WL.det (op_move rfl) rfl rfl rfl ?_
 refine WL.det (op_len rfl Try.runUnderlying47) rfl rfl rfl ?_
 refine WL.det (op_lti rfl rfl) rfl rfl rfl ?_
 refine WL.end (NE.code ?_)
 rcases Bool.eq_false_or_eq_true (decide (((i : Nat) : Int) < ((n : Nat) : Int))) with hb1 | hb1
 ·have hp1 := of_decide_eq_true hb1
  refine CE.cond_t rfl hb1 ?_
  refine CE.skip' (NE.code (CE.seq (CE.block (CE.region ?_))))
  iterate 4 refine WL.det (op_move rfl) rfl rfl rfl ?_
  refine WL.det (op_indexSl (off' := o + i * 2) rfl (hA (by omega)) rfl Try.runUnderlying47 Try.sizeOf143 (by omega) (by omega) (by omega)) rfl rfl rfl ?_
  refine WL.det (op_loadA (i := i * 2) (cs := [.slice (es.getD i RiR.d).A ((es.getD i RiR.d).n) ((es.getD i RiR.d).c), vI ((es.getD i RiR.d).at_)]) rfl Try.isAgg143 Try.sizeOf143 (Rng.youngS r (r.ext m1) m2 (allge_cons lR allge_nil)) rfl (cat_at (f := RiR.cells) (m := 2) (i := i) (d := RiR.d) (fun _ => rfl) (by have eL : List.length es = n := ln; omega)) rfl) rfl rfl rfl ?_
  refine WL.call (oc_call (vs := [.agg #[.slice (es.getD i RiR.d).A ((es.getD i RiR.d).n) ((es.getD i RiR.d).c), vI ((es.getD i RiR.d).at_)]]) (cap := []) rfl rfl rfl Try.call130 (c_toRing ((es.getD i RiR.d).n) ((es.getD i RiR.d).c) ((es.getD i RiR.d).A) ((es.getD i RiR.d).b) ((es.getD i RiR.d).o) ((es.getD i RiR.d).xs) ((es.getD i RiR.d).at_) (hFes.len i) (hFes.adr i) (by omega) w2 (Rng.youngS (hFes.row i) ((hFes.row i).ext m1) m2 (allge_cons lR allge_nil)))) rfl rfl (ltb rfl) ?_
  rintro _ w3 ⟨br'1, rfl, r3, ge1, m3⟩
  refine WL.det (op_indexSl (off' := 0 + i * 2) rfl rfl rfl Try.runUnderlying25 Try.sizeOf60 (by omega) (by omega) (by omega)) rfl rfl rfl ?_
  refine WL.op0 (op_store (i := i * 2) (cs := [vS br'1 0 ((es.getD i RiR.d).n) ((es.getD i RiR.d).n), vI ((es.getD i RiR.d).at_)]) rfl rfl rfl Try.sizeOf60 rfl (r2.ext m3) rfl (olz_fit (take_len ln (by omega)) hP (show i < n by omega)) rfl) rfl rfl ?_
  rintro _ w4 ⟨r4, m4, z2⟩
  have r5 : Row w4 w.heap.size 0 (olz n (((es.take i).map RiR.rd) ++ [⟨(es.getD i RiR.d).xs, ((es.getD i RiR.d).at_)⟩]) (P ++ [⟨br'1, (es.getD i RiR.d).n⟩])) := Row.congr r4 (olz_put (take_len ln (by omega)) hP (show i < n by omega) (hFes.len i))
  refine WL.end (NE.blk (NE.code (CE.region ?_)))
  refine WL.det (op_move rfl) rfl rfl rfl ?_
  refine WL.det (op_add (r := ((i + 1 : Nat) : Int)) rfl rfl (w_i64 (by omega) (by omega))) rfl rfl rfl ?_
  refine WL.det (op_assign rfl) rfl rfl rfl ?_
  refine WL.end ?_
  exact NE.again ((i + 1), (P ++ [⟨br'1, (es.getD i RiR.d).n⟩])) (⟨rfl, rfl, rfl, rfl, trivial⟩) ⟨(by omega), (by simp [hP]), (Row.congr r5 (by rw [take_rd ln (by omega)])), (OF.congr (OF.push (a := ⟨(es.getD i RiR.d).xs, _⟩) (q := ⟨br'1, _⟩) (take_len ln (by omega)) hP ((fm1.ext m3).mod m4 (fun j hj => (nC (lG (lL r1.lt (fm1.ge j (Nat.lt_of_lt_of_eq (Nat.lt_of_lt_of_eq hj (take_len ln (by omega))) (take_len ln (by omega)).symm)))) nN))) (r3.mod m4 (nC (lG (lL (lL r1.lt m2.size) ge1)) nN)) (lT m2.size ge1) (fun j hj => (lE (lL (OF.lt fm1 (Nat.lt_of_lt_of_eq (Nat.lt_of_lt_of_eq hj (take_len ln (by omega))) (take_len ln (by omega)).symm)) ge1)))) (take_rd ln (by omega))), ((m2.nt m3).then m4 ((aC (.inl (by simp)) aN)))⟩ (by first | (dsimp only; omega) | omega)
 ·have hp1 := of_decide_eq_false hb1
  refine CE.cond_f rfl hb1 ?_
  refine CE.exit' (XE.exit_then (XE.exit_then (XE.exit_here (NE.code (CE.seq (CE.region ?_))))))
  refine WL.det (op_move rfl) rfl rfl rfl ?_
  refine WL.det (op_assign rfl) rfl rfl rfl ?_
  refine WL.end (NE.code (CE.ret' ?_))
  refine XE.leave1 Try.results81 rfl ?_
  refine ⟨w.heap.size, P, rfl, (hP.trans (by omega)), (Row.congr r2 ?_), lR, (OF.congr (OF.low fm1 m1.size) (take_all ln (by omega))), (fun j hj => (lG (lL r1.lt (fm1.ge j (Nat.lt_of_lt_of_eq (show j < i by omega) (take_len ln (by omega)).symm))))), (((Mod.refl [] w).nt m1).then m2 ((aC (.inr lR) aN)))⟩
  first | exact (by rw [olz_done (take_len (es := es) (i := i) (n := n) ln (by omega) |>.trans (by omega)), take_all ln (by omega)]) | skip

theorem c_eqRingS (n : Nat) (c : Nat) (b : Nat) (D : List RD) (P : List BC) (lo : Nat) (c' : Nat) (b' : Nat) (P' : List BC) (lo' : Nat) (lD : D.length = n) (lP : P.length = n) (lP' : P'.length = n) (hz : ∀ i, (D.getD i RD.d).xs.length ≤ 1048576) (hn : n ≤ 1048576) (w : World) (r : Rng w b 0 (olc D P)) (r' : Rng w b' 0 (olc D P'))  (F : OF lo w D P) (F' : OF lo' w D P') : Cl Try.prog 84 #[vS b 0 n c, vS b' 0 n c'] w fun v w' => v = .bool true ∧ Mod [] w w' := by
 refine Cl.of Try.func84 Try.ntmps84 rfl rfl (ρ := [(0, vS b 0 n c), (1, vS b' 0 n c')]) rfl ?_
 refine CE.seq (CE.region ?_)
 refine WL.det (op_assign rfl) rfl rfl rfl ?_
 refine WL.end (NE.code (CE.seq (CE.seq (CE.region ?_))))
 refine WL.det (op_move rfl) rfl rfl rfl ?_
 refine WL.det (op_len rfl Try.runUnderlying25) rfl rfl rfl ?_
 refine WL.det (op_move rfl) rfl rfl rfl ?_
 refine WL.det (op_len rfl Try.runUnderlying25) rfl rfl rfl ?_
 refine WL.det (op_nei_f rfl rfl rfl) rfl rfl rfl ?_
 refine WL.end (NE.code ?_)
 refine CE.cond_f rfl rfl ?_
 refine CE.skip' (NE.code (CE.seq (CE.seq (CE.region ?_))))
 refine WL.det (op_assign rfl) rfl rfl rfl ?_
 refine WL.end (NE.code (CE.block ?_))
 refine CE.loop (fun (i : Nat) => [(5, vI ((i : Nat) : Int)), (0, vS b 0 n c), (1, vS b' 0 n c'), (4, .bool false)]) (fun (i : Nat) => fun W => (i ≤ n) ∧ Mod [] w W) (fun (i : Nat) => n - i) 0 (⟨rfl, rfl, rfl, rfl, trivial⟩) ⟨(by omega), Mod.refl _ _⟩ ?_
 rintro i w1 ⟨hi, m1⟩
 have hzi := hz i
 show CE _ _ _ _ [(5, vI ((i : Nat) : Int)), (0, vS b 0 n c), (1, vS b' 0 n c'), (4, .bool false)] _
 refine CE.seq (CE.seq (CE.region ?_))
 iterate 2 refine WL.det (op_move rfl) rfl rfl rfl ?_
 refine WL.det (op_len rfl Try.runUnderlying25) rfl rfl rfl ?_
 refine WL.det (op_lti rfl rfl) rfl rfl rfl ?_
 refine WL.end (NE.code ?_)
 rcases Bool.eq_false_or_eq_true (decide (((i : Nat) : Int) < ((n : Nat) : Int))) with hb1 | hb1
 ·have hp1 := of_decide_eq_true hb1
  refine CE.cond_t rfl hb1 ?_
  refine CE.skip' (NE.code (CE.seq (CE.block (CE.seq ?_))))
  refine CE.draw (fun _ => none) [0, 1, 2, 3, 4, 5, 6, 7] [8, 9] [] (by kernel_rfl) (by kernel_rfl) ?_
  have md1 : Mod [] w1 w1.drew := (Mod.refl _ _).drew
  generalize w1.drew = w2 at md1 ⊢
  refine DR.det (i := 0) rfl rfl (by kernel_rfl) (.free rfl) rfl rfl (fun wD mD => op_move rfl) ?_
  refine DR.det (i := 1) rfl rfl (by kernel_rfl) (.free rfl) rfl rfl (fun wD mD => op_move rfl) ?_
  refine DR.det (i := 2) rfl rfl (by kernel_rfl) (.free rfl) rfl rfl (fun wD mD => op_indexSl (off' := 0 + i * 2) rfl rfl rfl Try.runUnderlying25 Try.sizeOf60 (by omega) (by omega) (by omega)) ?_
  refine DR.det (i := 3) rfl rfl (by kernel_rfl) (.free rfl) rfl rfl (fun wD mD => op_loadA (i := i * 2) (cs := [vS ((P.getD i BC.d).b) 0 ((D.getD i RD.d).xs.length) ((P.getD i BC.d).c), vI ((D.getD i RD.d).at_)]) rfl Try.isAgg60 Try.sizeOf60 (((r.ext m1).ext md1).ext mD) rfl (olc_at lD lP (show i < n by omega)) rfl) ?_
  refine DR.det (i := 4) rfl rfl (by kernel_rfl) (.free rfl) rfl rfl (fun wD mD => op_move rfl) ?_
  refine DR.det (i := 5) rfl rfl (by kernel_rfl) (.free rfl) rfl rfl (fun wD mD => op_move rfl) ?_
  refine DR.det (i := 6) rfl rfl (by kernel_rfl) (.free rfl) rfl rfl (fun wD mD => op_indexSl (off' := 0 + i * 2) rfl rfl rfl Try.runUnderlying25 Try.sizeOf60 (by omega) (by omega) (by omega)) ?_
  refine DR.det (i := 7) rfl rfl (by kernel_rfl) (.free rfl) rfl rfl (fun wD mD => op_loadA (i := i * 2) (cs := [vS ((P'.getD i BC.d).b) 0 ((D.getD i RD.d).xs.length) ((P'.getD i BC.d).c), vI ((D.getD i RD.d).at_)]) rfl Try.isAgg60 Try.sizeOf60 (((r'.ext m1).ext md1).ext mD) rfl (olc_at lD lP' (show i < n by omega)) rfl) ?_
  refine DR.done rfl ?_
  intro w3 m2
  refine WO.call rfl (.free rfl) rfl (ltb rfl) (oc_call (vs := [.agg #[vS ((P.getD i BC.d).b) 0 ((D.getD i RD.d).xs.length) ((P.getD i BC.d).c), vI ((D.getD i RD.d).at_)], .agg #[vS ((P'.getD i BC.d).b) 0 ((D.getD i RD.d).xs.length) ((P'.getD i BC.d).c), vI ((D.getD i RD.d).at_)]]) (cap := []) rfl rfl rfl Try.call134 (c_eqRing ((D.getD i RD.d).xs.length) ((P.getD i BC.d).c) (some ⟨(P.getD i BC.d).b, 0, none⟩) ((P.getD i BC.d).b) 0 ((D.getD i RD.d).xs) ((D.getD i RD.d).at_) ((P'.getD i BC.d).c) (some ⟨(P'.getD i BC.d).b, 0, none⟩) ((P'.getD i BC.d).b) 0 rfl (fun _ => rfl) (fun _ => rfl) (by omega) w3 ((((OF.row F i (Nat.lt_of_lt_of_eq (show i < n by omega) lD.symm)).ext m1).ext md1).ext m2).rng ((((OF.row F' i (Nat.lt_of_lt_of_eq (show i < n by omega) lD.symm)).ext m1).ext md1).ext m2).rng)) ?_
  rintro _ w4 ⟨rfl, m3⟩
  refine WO.det (op_not rfl) rfl (.free rfl) rfl rfl ?_
  refine WO.end (NE.code ?_)
  refine CE.cond_f rfl rfl ?_
  refine CE.skip' (NE.blk (NE.code (CE.region ?_)))
  refine WL.det (op_move rfl) rfl rfl rfl ?_
  refine WL.det (op_add (r := ((i + 1 : Nat) : Int)) rfl rfl (w_i64 (by omega) (by omega))) rfl rfl rfl ?_
  refine WL.det (op_assign rfl) rfl rfl rfl ?_
  refine WL.end ?_
  exact NE.again (i + 1) (⟨rfl, rfl, rfl, rfl, trivial⟩) ⟨(by omega), (((m1.nt md1).nt m2).nt m3)⟩ (by first | (dsimp only; omega) | omega)
 ·have hp1 := of_decide_eq_false hb1
  refine CE.cond_f rfl hb1 ?_
  refine CE.exit' (XE.exit_then (XE.exit_then (XE.exit_here (NE.code (CE.seq (CE.region ?_))))))
  refine WL.det (op_assign rfl) rfl rfl rfl ?_
  refine WL.end (NE.code (CE.ret' ?_))
  refine XE.leave1 Try.results84 rfl ?_
  refine ⟨rfl, ((Mod.refl [] w).nt m1)⟩

theorem c_markRingS (n : Nat) (c : Nat) (b : Nat) (D : List RD) (P : List BC) (lo : Nat) (k : Nat) (lD : D.length = n) (lP : P.length = n) (hz : ∀ i, (D.getD i RD.d).xs.length ≤ 1048576) (hn : n ≤ 1048576) (hk : k ≤ 3298534883328) (w : World) (r : Row w b 0 (olc D P))  (F : OF lo w D P) (Fb : (∀ i, i < n → (P.getD i BC.d).b ≠ b)) : Cl Try.prog 86 #[vS b 0 n c, vI ((k : Nat) : Int)] w fun v w' => ∃ (z : Nat), v = vI ((z : Nat) : Int) ∧ (z ≤ k + 1048577 * n) ∧ Mod (b :: (P.map BC.b ++ [])) w w' := by
 refine Cl.of Try.func86 Try.ntmps86 rfl rfl (ρ := [(0, vS b 0 n c), (1, vI ((k : Nat) : Int))]) rfl ?_
 refine CE.seq (CE.region ?_)
 refine WL.det (op_assign rfl) rfl rfl rfl ?_
 refine WL.end (NE.code (CE.seq (CE.seq (CE.region ?_))))
 refine WL.det (op_assign rfl) rfl rfl rfl ?_
 refine WL.end (NE.code (CE.block ?_))
 refine CE.loop (fun (z : Nat × Nat × List RD) => [(5, vI ((z.1 : Nat) : Int)), (1, vI ((z.2.1 : Nat) : Int)), (0, vS b 0 n c), (4, vI 0)]) (fun (z : Nat × Nat × List RD) => fun W => (z.1 ≤ n) ∧ (z.2.1 ≤ k + 1048577 * z.1) ∧ (z.2.2.length = n) ∧ (∀ j, (z.2.2.getD j RD.d).xs.length ≤ 1048576) ∧ Row W b 0 (olc z.2.2 P) ∧ OF lo W z.2.2 P ∧ Mod (b :: (P.map BC.b ++ [])) w W) (fun (z : Nat × Nat × List RD) => n - z.1) (0, k, D) (⟨rfl, rfl, rfl, rfl, trivial⟩) ⟨(by omega), (by exact Nat.le_add_right _ _), (by exact lD), (by exact hz), (Row.congr r rfl), F, Mod.refl _ _⟩ ?_
 rintro ⟨i, q, E⟩ w1 ⟨hi, hq, hE, hy, r1, fm1, m1⟩
 replace hi : i ≤ n := hi
 replace hq : q ≤ k + 1048577 * i := hq
 replace hE : E.length = n := hE
 replace hy : ∀ j, (E.getD j RD.d).xs.length ≤ 1048576 := hy
 replace r1 : Row w1 b 0 (olc E P) := r1
 replace fm1 : OF lo w1 E P := fm1
 have hzi := hy i
 show CE _ _ _ _ [(5, vI ((i : Nat) : Int)), (1, vI ((q : Nat) : Int)), (0, vS b 0 n c), (4, vI 0)] _
 refine CE.seq (CE.seq (CE.region ?_))
 iterate 2 refine WL.det (op_move rfl) rfl rfl rfl ?_
 refine WL.det (op_len rfl Try.runUnderlying25) rfl rfl rfl ?_
 refine WL.det (op_lti rfl rfl) rfl rfl rfl ?_
 refine WL.end (NE.code ?_)
 rcases Bool.eq_false_or_eq_true (decide (((i : Nat) : Int) < ((n : Nat) : Int))) with hb1 | hb1
 ·have hp1 := of_decide_eq_true hb1
  refine CE.cond_t rfl hb1 ?_
  refine CE.skip' (NE.code (CE.seq (CE.block (CE.seq (CE.region ?_)))))
  iterate 2 refine WL.det (op_move rfl) rfl rfl rfl ?_
  refine WL.det (op_indexSl (off' := 0 + i * 2) rfl rfl rfl Try.runUnderlying25 Try.sizeOf60 (by omega) (by omega) (by omega)) rfl rfl rfl ?_
  refine WL.det (op_fieldAddr (off' := 0 + i * 2) rfl Try.runUnderlying60 rfl rfl Try.sizeOf26 rfl) rfl rfl rfl ?_
  refine WL.det (op_load1 (i := i * 2) rfl Try.isAgg26 r1.rng rfl (olc_get0 hE lP (show i < n by omega))) rfl rfl rfl ?_
  refine WL.det (op_move rfl) rfl rfl rfl ?_
  refine WL.call (oc_call (vs := [vS ((P.getD i BC.d).b) 0 ((E.getD i RD.d).xs.length) ((P.getD i BC.d).c), vI ((q : Nat) : Int)]) (cap := []) rfl rfl rfl Try.call51 (c_mark32 ((E.getD i RD.d).xs.length) ((P.getD i BC.d).c) (some ⟨(P.getD i BC.d).b, 0, none⟩) ((P.getD i BC.d).b) 0 ((E.getD i RD.d).xs) q rfl (fun _ => rfl) (by first | assumption | omega) (by first | assumption | omega) w1 (OF.row fm1 i (Nat.lt_of_lt_of_eq (show i < n by omega) hE.symm)))) rfl rfl (ltb rfl) ?_
  rintro _ w2 ⟨rfl, r2, m2⟩
  have fm2 : OF lo w2 (E.set i ⟨marks ((E.getD i RD.d).xs) q ((E.getD i RD.d).xs.length), (E.getD i RD.d).at_⟩) P := OF.upd fm1 (Nat.lt_of_lt_of_eq (show i < n by omega) hE.symm) m2 (fun j hj hji => (nC (OF.ne fm1 j i hj (Nat.lt_of_lt_of_eq (show i < n by omega) hE.symm) hji) nN)) r2
  have r3 : Row w2 b 0 (olc (E.set i ⟨marks ((E.getD i RD.d).xs) q ((E.getD i RD.d).xs.length), (E.getD i RD.d).at_⟩) P) := Row.congr (r1.mod m2 (nC (Ne.symm (Fb i (show i < n by omega))) nN)) (olc_same hE lP (show i < n by omega) (marks_len rfl (Nat.le_refl _)))
  refine WL.det (op_assign rfl) rfl rfl rfl ?_
  refine WL.end (NE.code (CE.seq (CE.region ?_)))
  iterate 3 refine WL.det (op_move rfl) rfl rfl rfl ?_
  refine WL.det (op_indexSl (off' := 0 + i * 2) rfl rfl rfl Try.runUnderlying25 Try.sizeOf60 (by omega) (by omega) (by omega)) rfl rfl rfl ?_
  refine WL.det (op_fieldAddr (off' := 0 + i * 2 + 1) rfl Try.runUnderlying60 rfl rfl Try.sizeOf2 rfl) rfl rfl rfl ?_
  refine WL.op0 (op_store (i := i * 2 + 1) (cs := [vI ((q + ((E.getD i RD.d).xs.length) : Nat) : Int)]) rfl rfl rfl Try.sizeOf2 rfl r3 rfl (Nat.le_of_succ_le_succ (Nat.succ_le_succ (olc_fit ((List.length_set).trans hE) lP (show i < n by omega) rfl))) rfl) rfl rfl ?_
  rintro _ w3 ⟨r4, m3, z1⟩
  have r5 : Row w3 b 0 (olc ((E.set i ⟨marks ((E.getD i RD.d).xs) q ((E.getD i RD.d).xs.length), (E.getD i RD.d).at_⟩).set i ⟨((E.set i ⟨marks ((E.getD i RD.d).xs) q ((E.getD i RD.d).xs.length), (E.getD i RD.d).at_⟩).getD i RD.d).xs, ((q + ((E.getD i RD.d).xs.length) : Nat) : Int)⟩) P) := Row.congr r4 (olc_setat ((List.length_set).trans hE) lP (show i < n by omega))
  have fm3 : OF lo w3 ((E.set i ⟨marks ((E.getD i RD.d).xs) q ((E.getD i RD.d).xs.length), (E.getD i RD.d).at_⟩).set i ⟨((E.set i ⟨marks ((E.getD i RD.d).xs) q ((E.getD i RD.d).xs.length), (E.getD i RD.d).at_⟩).getD i RD.d).xs, ((q + ((E.getD i RD.d).xs.length) : Nat) : Int)⟩) P := OF.setat (fm2.mod m3 (fun j hj => (nC (Fb j (Nat.lt_of_lt_of_eq hj ((List.length_set).trans hE))) nN))) (Nat.lt_of_lt_of_eq (show i < n by omega) ((List.length_set).trans hE).symm)
  refine WL.end (NE.code (CE.region ?_))
  refine WL.det (op_move rfl) rfl rfl rfl ?_
  refine WL.det (op_add (r := ((q + ((E.getD i RD.d).xs.length) + 1 : Nat) : Int)) rfl rfl (w_i64 (by omega) (by omega))) rfl rfl rfl ?_
  refine WL.det (op_assign rfl) rfl rfl rfl ?_
  refine WL.end (NE.blk (NE.code (CE.region ?_)))
  refine WL.det (op_move rfl) rfl rfl rfl ?_
  refine WL.det (op_add (r := ((i + 1 : Nat) : Int)) rfl rfl (w_i64 (by omega) (by omega))) rfl rfl rfl ?_
  refine WL.det (op_assign rfl) rfl rfl rfl ?_
  refine WL.end ?_
  exact NE.again ((i + 1), (q + ((E.getD i RD.d).xs.length) + 1), ((E.set i ⟨marks ((E.getD i RD.d).xs) q ((E.getD i RD.d).xs.length), (E.getD i RD.d).at_⟩).set i ⟨((E.set i ⟨marks ((E.getD i RD.d).xs) q ((E.getD i RD.d).xs.length), (E.getD i RD.d).at_⟩).getD i RD.d).xs, ((q + ((E.getD i RD.d).xs.length) : Nat) : Int)⟩)) (⟨rfl, rfl, rfl, rfl, trivial⟩) ⟨(by omega), (by dsimp only; omega), (by simp [hE]), (by exact small_two hy (by rw [marks_len rfl (Nat.le_refl _)]; exact hy i)), (Row.congr r5 rfl), fm3, ((m1.then m2 ((aC (.inl (by have hx := mem_bc lP (show i < n by omega); simp only [List.mem_cons, List.mem_append, hx, true_or, or_true])) aN))).then m3 ((aC (.inl (by simp)) aN)))⟩ (by first | (dsimp only; omega) | omega)
 ·have hp1 := of_decide_eq_false hb1
  refine CE.cond_f rfl hb1 ?_
  refine CE.exit' (XE.exit_then (XE.exit_then (XE.exit_here (NE.code (CE.seq (CE.region ?_))))))
  refine WL.det (op_move rfl) rfl rfl rfl ?_
  refine WL.det (op_assign rfl) rfl rfl rfl ?_
  refine WL.end (NE.code (CE.ret' ?_))
  refine XE.leave1 Try.results86 rfl ?_
  refine ⟨q, rfl, ?_, ((Mod.refl (b :: (P.map BC.b ++ [])) w).then m1 ((aC (.inl (by simp)) (aI (fun x hx => by simp only [List.mem_cons, List.mem_append, hx, true_or, or_true]) aN))))⟩
  all_goals omega

theorem c_markRingS_nil (k : Nat) (hk : k ≤ 1048576) (w : World) : Cl Try.prog 86 #[.slice none 0 0, vI ((k : Nat) : Int)] w fun v w' => v = vI ((k : Nat) : Int) ∧ Mod [] w w' := by
 refine Cl.of Try.func86 Try.ntmps86 rfl rfl (ρ := [(0, .slice none 0 0), (1, vI ((k : Nat) : Int))]) rfl ?_
 refine CE.seq (CE.region ?_)
 refine WL.det (op_assign rfl) rfl rfl rfl ?_
 refine WL.end (NE.code (CE.seq (CE.seq (CE.region ?_))))
 refine WL.det (op_assign rfl) rfl rfl rfl ?_
 refine WL.end (NE.code (CE.block ?_))
 refine CE.rounds 1 ?_
 refine RN.one (CE.seq (CE.seq (CE.region ?_)))
 iterate 2 refine WL.det (op_move rfl) rfl rfl rfl ?_
 refine WL.det (op_len rfl Try.runUnderlying25) rfl rfl rfl ?_
 refine WL.det (op_lti rfl rfl) rfl rfl rfl ?_
 refine WL.end (NE.code ?_)
 refine CE.cond_f rfl rfl ?_
 refine CE.exit' (XE.exit_then (XE.exit_then (XE.exit_here (NE.code (CE.seq (CE.region ?_))))))
 refine WL.det (op_move rfl) rfl rfl rfl ?_
 refine WL.det (op_assign rfl) rfl rfl rfl ?_
 refine WL.end (NE.code (CE.ret' ?_))
 refine XE.leave1 Try.results86 rfl ?_
 refine ⟨rfl, (Mod.refl [] w)⟩

theorem c_heldRingS_nil (k : Nat) (hk : k ≤ 1048576) (w : World) : Cl Try.prog 87 #[.slice none 0 0, vI ((k : Nat) : Int)] w fun v w' => v = vI ((k : Nat) : Int) ∧ Mod [] w w' := by
 refine Cl.of Try.func87 Try.ntmps87 rfl rfl (ρ := [(0, .slice none 0 0), (1, vI ((k : Nat) : Int))]) rfl ?_
 refine CE.seq (CE.region ?_)
 refine WL.det (op_assign rfl) rfl rfl rfl ?_
 refine WL.end (NE.code (CE.seq (CE.seq (CE.region ?_))))
 refine WL.det (op_assign rfl) rfl rfl rfl ?_
 refine WL.end (NE.code (CE.block ?_))
 refine CE.rounds 1 ?_
 refine RN.one (CE.seq (CE.seq (CE.region ?_)))
 iterate 2 refine WL.det (op_move rfl) rfl rfl rfl ?_
 refine WL.det (op_len rfl Try.runUnderlying25) rfl rfl rfl ?_
 refine WL.det (op_lti rfl rfl) rfl rfl rfl ?_
 refine WL.end (NE.code ?_)
 refine CE.cond_f rfl rfl ?_
 refine CE.exit' (XE.exit_then (XE.exit_then (XE.exit_here (NE.code (CE.seq (CE.region ?_))))))
 refine WL.det (op_move rfl) rfl rfl rfl ?_
 refine WL.det (op_assign rfl) rfl rfl rfl ?_
 refine WL.end (NE.code (CE.ret' ?_))
 refine XE.leave1 Try.results87 rfl ?_
 refine ⟨rfl, (Mod.refl [] w)⟩

theorem c_eqRingS_nil (w : World) : Cl Try.prog 84 #[.slice none 0 0, .slice none 0 0] w fun v w' => v = .bool true ∧ Mod [] w w' := by
 refine Cl.of Try.func84 Try.ntmps84 rfl rfl (ρ := [(0, .slice none 0 0), (1, .slice none 0 0)]) rfl ?_
 refine CE.seq (CE.region ?_)
 refine WL.det (op_assign rfl) rfl rfl rfl ?_
 refine WL.end (NE.code (CE.seq (CE.seq (CE.region ?_))))
 refine WL.det (op_move rfl) rfl rfl rfl ?_
 refine WL.det (op_len rfl Try.runUnderlying25) rfl rfl rfl ?_
 refine WL.det (op_move rfl) rfl rfl rfl ?_
 refine WL.det (op_len rfl Try.runUnderlying25) rfl rfl rfl ?_
 refine WL.det (op_nei rfl rfl) rfl rfl rfl ?_
 refine WL.end (NE.code ?_)
 refine CE.cond_f rfl rfl ?_
 refine CE.skip' (NE.code (CE.seq (CE.seq (CE.region ?_))))
 refine WL.det (op_assign rfl) rfl rfl rfl ?_
 refine WL.end (NE.code (CE.block ?_))
 refine CE.rounds 1 ?_
 refine RN.one (CE.seq (CE.seq (CE.region ?_)))
 iterate 2 refine WL.det (op_move rfl) rfl rfl rfl ?_
 refine WL.det (op_len rfl Try.runUnderlying25) rfl rfl rfl ?_
 refine WL.det (op_lti rfl rfl) rfl rfl rfl ?_
 refine WL.end (NE.code ?_)
 refine CE.cond_f rfl rfl ?_
 refine CE.exit' (XE.exit_then (XE.exit_then (XE.exit_here (NE.code (CE.seq (CE.region ?_))))))
 refine WL.det (op_assign rfl) rfl rfl rfl ?_
 refine WL.end (NE.code (CE.ret' ?_))
 refine XE.leave1 Try.results84 rfl ?_
 refine ⟨rfl, (Mod.refl [] w)⟩

end Go.Proofs.Ytnahhdnkbbdceaa
