/- What marking and looking for marks in lists of rings does. -/
import Derived.Test.YtnahhdnkbbdceaaS3
set_option linter.unusedVariables false
set_option linter.unusedSimpArgs false
set_option maxRecDepth 100000
set_option maxHeartbeats 8000000
namespace Go.Proofs.Ytnahhdnkbbdceaa

/-- the mark behind the first `i` rings -/
def sumK (D : List RD) (k : Nat) : Nat → Nat
  | 0 => k
  | i + 1 => sumK D k i + (D.getD i RD.d).xs.length + 1
/-- the first `i` rings marked -/
def markD (D : List RD) (k : Nat) : Nat → List RD
  | 0 => D
  | i + 1 => (markD D k i).set i ⟨marks (D.getD i RD.d).xs (sumK D k i) (D.getD i RD.d).xs.length, ((sumK D k i + (D.getD i RD.d).xs.length : Nat) : Int)⟩
theorem markD_len {D : List RD} {k n : Nat} (hl : D.length = n) : ∀ i, (markD D k i).length = n
  | 0 => hl
  | i + 1 => by rw [markD, List.length_set]; exact markD_len hl i
theorem markD_ge {D : List RD} {k : Nat} : ∀ i j, i ≤ j → (markD D k i).getD j RD.d = D.getD j RD.d
  | 0, j, _ => rfl
  | i + 1, j, h => by
    rw [← markD_ge (D := D) (k := k) i j (by omega), markD]
    simp only [List.getD_eq_getElem?_getD, List.getElem?_set_ne (show i ≠ j by omega)]
theorem markD_lt {D : List RD} {k n : Nat} (hl : D.length = n) : ∀ i j, j < i → i ≤ n → (markD D k i).getD j RD.d = ⟨marks (D.getD j RD.d).xs (sumK D k j) (D.getD j RD.d).xs.length, ((sumK D k j + (D.getD j RD.d).xs.length : Nat) : Int)⟩
  | i + 1, j, h, hi => by
    rw [markD]
    by_cases e : i = j
    · subst e
      have : i < (markD D k i).length := by rw [markD_len hl]; omega
      simp [List.getD_eq_getElem?_getD, this]
    · have := markD_lt (k := k) hl i j (by omega) (by omega)
      rw [← this]
      simp only [List.getD_eq_getElem?_getD, List.getElem?_set_ne e]
theorem mark_step {D : List RD} {k n i q : Nat} (hl : D.length = n) (hi : i < n) (hq : q = sumK D k i) :
    ((markD D k i).set i ⟨marks ((markD D k i).getD i RD.d).xs q ((markD D k i).getD i RD.d).xs.length, ((markD D k i).getD i RD.d).at_⟩).set i ⟨(((markD D k i).set i ⟨marks ((markD D k i).getD i RD.d).xs q ((markD D k i).getD i RD.d).xs.length, ((markD D k i).getD i RD.d).at_⟩).getD i RD.d).xs, ((q + ((markD D k i).getD i RD.d).xs.length : Nat) : Int)⟩ = markD D k (i + 1) := by
  have h : i < (markD D k i).length := by rw [markD_len hl]; exact hi
  have e : ∀ a : RD, ((markD D k i).set i a).getD i RD.d = a := fun a => by simp [List.getD_eq_getElem?_getD, h]
  rw [e, List.set_set, markD, markD_ge i i (Nat.le_refl _), hq]
theorem markD_small {D : List RD} {k m : Nat} (hz : ∀ j, (D.getD j RD.d).xs.length ≤ m) : ∀ i j, ((markD D k i).getD j RD.d).xs.length ≤ m
  | 0, j => hz j
  | i + 1, j => small_set (markD_small hz i) (by rw [marks_len rfl (Nat.le_refl _)]; exact hz i) j
/-- a list of rings that bears its marks -/
def HeldL (E : List RD) (k n : Nat) : Prop := ∀ i, i < n → Held (E.getD i RD.d).xs (sumK E k i) (E.getD i RD.d).xs.length ∧ (E.getD i RD.d).at_ = ((sumK E k i + (E.getD i RD.d).xs.length : Nat) : Int)
theorem sumK_mark {D : List RD} {k k' n : Nat} (hl : D.length = n) : ∀ i, i ≤ n → sumK (markD D k' n) k i = sumK D k i
  | 0, _ => rfl
  | i + 1, h => by
    rw [sumK, sumK, sumK_mark hl i (by omega), markD_lt hl n i (by omega) (Nat.le_refl _)]
    show _ + (marks _ _ _).length + 1 = _
    rw [marks_len rfl (Nat.le_refl _)]
theorem markD_held {D : List RD} {k n : Nat} (hl : D.length = n) : HeldL (markD D k n) k n := fun i hi => by
  rw [sumK_mark hl i (by omega), markD_lt hl n i hi (Nat.le_refl _)]
  have e : (marks (D.getD i RD.d).xs (sumK D k i) (D.getD i RD.d).xs.length).length = (D.getD i RD.d).xs.length := marks_len rfl (Nat.le_refl _)
  show Held (marks _ _ _) _ (marks _ _ _).length ∧ _ = ((_ + (marks _ _ _).length : Nat) : Int)
  rw [e]
  exact ⟨marks_held _ _ _, rfl⟩
theorem sumK_le {D : List RD} {k : Nat} (hz : ∀ j, (D.getD j RD.d).xs.length ≤ 1048576) : ∀ i, sumK D k i ≤ k + 1048577 * i
  | 0 => Nat.le_refl _
  | i + 1 => by have := sumK_le (k := k) hz i; have := hz i; rw [sumK]; omega

theorem c_markRingS_x (n : Nat) (c : Nat) (b : Nat) (D : List RD) (P : List BC) (lo : Nat) (k : Nat) (lD : D.length = n) (lP : P.length = n) (hz : ∀ i, (D.getD i RD.d).xs.length ≤ 1048576) (hn : n ≤ 3) (hk : k ≤ 1048576000) (w : World) (r : Row w b 0 (olc D P))  (F : OF lo w D P) (Fb : (∀ i, i < n → (P.getD i BC.d).b ≠ b)) : Cl Try.prog 86 #[vS b 0 n c, vI ((k : Nat) : Int)] w fun v w' => v = vI (((sumK D k n) : Nat) : Int) ∧ Row w' b 0 (olc (markD D k n) P) ∧ OF lo w' (markD D k n) P ∧ Mod (b :: (P.map BC.b ++ [])) w w' := by
 refine Cl.of Try.func86 Try.ntmps86 rfl rfl (ρ := [(0, vS b 0 n c), (1, vI ((k : Nat) : Int))]) rfl ?_
 refine CE.seq (CE.region ?_)
 refine WL.det (op_assign rfl) rfl rfl rfl ?_
 refine WL.end (NE.code (CE.seq (CE.seq (CE.region ?_))))
 refine WL.det (op_assign rfl) rfl rfl rfl ?_
 refine WL.end (NE.code (CE.block ?_))
 refine CE.loop (fun (z : Nat × Nat) => [(5, vI ((z.1 : Nat) : Int)), (1, vI ((z.2 : Nat) : Int)), (0, vS b 0 n c), (4, vI 0)]) (fun (z : Nat × Nat) => fun W => (z.1 ≤ n) ∧ (z.2 = sumK D k z.1) ∧ (z.2 ≤ k + 1048577 * z.1) ∧ Row W b 0 (olc (markD D k z.1) P) ∧ OF lo W (markD D k z.1) P ∧ Mod (b :: (P.map BC.b ++ [])) w W) (fun (z : Nat × Nat) => n - z.1) (0, k) (⟨rfl, rfl, rfl, rfl, trivial⟩) ⟨(by omega), (by rfl), (by exact Nat.le_add_right _ _), (Row.congr r rfl), F, Mod.refl _ _⟩ ?_
 rintro ⟨i, q⟩ w1 ⟨hi, hq, hqq, r1, fm1, m1⟩
 replace hi : i ≤ n := hi
 replace hq : q = sumK D k i := hq
 replace hqq : q ≤ k + 1048577 * i := hqq
 replace r1 : Row w1 b 0 (olc (markD D k i) P) := r1
 replace fm1 : OF lo w1 (markD D k i) P := fm1
 have hzi := markD_small (k := k) hz i i
 have hml : ((markD D k i).getD i RD.d).xs.length = (D.getD i RD.d).xs.length := by rw [markD_ge i i (Nat.le_refl _)]
 show CE _ _ _ _ [(5, vI ((i : Nat) : Int)), (1, vI ((q : Nat) : Int)), (0, vS b 0 n c), (4, vI 0)] _
 refine CE.seq (CE.seq (CE.region ?_))
 iterate 2 refine WL.det (op_move rfl) rfl rfl rfl ?_
 refine WL.det (op_len rfl Try.runUnderlying25) rfl rfl rfl ?_
 refine WL.det (op_lti rfl rfl) rfl rfl rfl ?_
 refine WL.end (NE.code ?_)
 rcases Bool.eq_false_or_eq_true (decide (((i : Nat) : Int) < ((n : Nat) : Int))) with hb1 | hb1
 ·have hp1 := of_decide_eq_true hb1
  refine CE.cond_t rfl hb1 ?_
  refine CE.skip' (NE.code (CE.seq (CE.block (CE.seq (CE.region ?_)))))
  iterate 2 refine WL.det (op_move rfl) rfl rfl rfl ?_
  refine WL.det (op_indexSl (off' := 0 + i * 2) rfl rfl rfl Try.runUnderlying25 Try.sizeOf60 (by omega) (by omega) (by omega)) rfl rfl rfl ?_
  refine WL.det (op_fieldAddr (off' := 0 + i * 2) rfl Try.runUnderlying60 rfl rfl Try.sizeOf26 rfl) rfl rfl rfl ?_
  refine WL.det (op_load1 (i := i * 2) rfl Try.isAgg26 r1.rng rfl (olc_get0 (markD_len lD _) lP (show i < n by omega))) rfl rfl rfl ?_
  refine WL.det (op_move rfl) rfl rfl rfl ?_
  refine WL.call (oc_call (vs := [vS ((P.getD i BC.d).b) 0 (((markD D k i).getD i RD.d).xs.length) ((P.getD i BC.d).c), vI ((q : Nat) : Int)]) (cap := []) rfl rfl rfl Try.call51 (c_mark32 (((markD D k i).getD i RD.d).xs.length) ((P.getD i BC.d).c) (some ⟨(P.getD i BC.d).b, 0, none⟩) ((P.getD i BC.d).b) 0 (((markD D k i).getD i RD.d).xs) q rfl (fun _ => rfl) (by first | assumption | omega) (by first | assumption | omega) w1 (OF.row fm1 i (Nat.lt_of_lt_of_eq (show i < n by omega) (markD_len lD _).symm)))) rfl rfl (ltb rfl) ?_
  rintro _ w2 ⟨rfl, r2, m2⟩
  have fm2 : OF lo w2 ((markD D k i).set i ⟨marks (((markD D k i).getD i RD.d).xs) q (((markD D k i).getD i RD.d).xs.length), ((markD D k i).getD i RD.d).at_⟩) P := OF.upd fm1 (Nat.lt_of_lt_of_eq (show i < n by omega) (markD_len lD _).symm) m2 (fun j hj hji => (nC (OF.ne fm1 j i hj (Nat.lt_of_lt_of_eq (show i < n by omega) (markD_len lD _).symm) hji) nN)) r2
  have r3 : Row w2 b 0 (olc ((markD D k i).set i ⟨marks (((markD D k i).getD i RD.d).xs) q (((markD D k i).getD i RD.d).xs.length), ((markD D k i).getD i RD.d).at_⟩) P) := Row.congr (r1.mod m2 (nC (Ne.symm (Fb i (show i < n by omega))) nN)) (olc_same (markD_len lD _) lP (show i < n by omega) (marks_len rfl (Nat.le_refl _)))
  refine WL.det (op_assign rfl) rfl rfl rfl ?_
  refine WL.end (NE.code (CE.seq (CE.region ?_)))
  iterate 3 refine WL.det (op_move rfl) rfl rfl rfl ?_
  refine WL.det (op_indexSl (off' := 0 + i * 2) rfl rfl rfl Try.runUnderlying25 Try.sizeOf60 (by omega) (by omega) (by omega)) rfl rfl rfl ?_
  refine WL.det (op_fieldAddr (off' := 0 + i * 2 + 1) rfl Try.runUnderlying60 rfl rfl Try.sizeOf2 rfl) rfl rfl rfl ?_
  refine WL.op0 (op_store (i := i * 2 + 1) (cs := [vI ((q + (((markD D k i).getD i RD.d).xs.length) : Nat) : Int)]) rfl rfl rfl Try.sizeOf2 rfl r3 rfl (Nat.le_of_succ_le_succ (Nat.succ_le_succ (olc_fit ((List.length_set).trans (markD_len lD _)) lP (show i < n by omega) rfl))) rfl) rfl rfl ?_
  rintro _ w3 ⟨r4, m3, z1⟩
  have r5 : Row w3 b 0 (olc (((markD D k i).set i ⟨marks (((markD D k i).getD i RD.d).xs) q (((markD D k i).getD i RD.d).xs.length), ((markD D k i).getD i RD.d).at_⟩).set i ⟨(((markD D k i).set i ⟨marks (((markD D k i).getD i RD.d).xs) q (((markD D k i).getD i RD.d).xs.length), ((markD D k i).getD i RD.d).at_⟩).getD i RD.d).xs, ((q + (((markD D k i).getD i RD.d).xs.length) : Nat) : Int)⟩) P) := Row.congr r4 (olc_setat ((List.length_set).trans (markD_len lD _)) lP (show i < n by omega))
  have fm3 : OF lo w3 (((markD D k i).set i ⟨marks (((markD D k i).getD i RD.d).xs) q (((markD D k i).getD i RD.d).xs.length), ((markD D k i).getD i RD.d).at_⟩).set i ⟨(((markD D k i).set i ⟨marks (((markD D k i).getD i RD.d).xs) q (((markD D k i).getD i RD.d).xs.length), ((markD D k i).getD i RD.d).at_⟩).getD i RD.d).xs, ((q + (((markD D k i).getD i RD.d).xs.length) : Nat) : Int)⟩) P := OF.setat (fm2.mod m3 (fun j hj => (nC (Fb j (Nat.lt_of_lt_of_eq hj ((List.length_set).trans (markD_len lD _)))) nN))) (Nat.lt_of_lt_of_eq (show i < n by omega) ((List.length_set).trans (markD_len lD _)).symm)
  refine WL.end (NE.code (CE.region ?_))
  refine WL.det (op_move rfl) rfl rfl rfl ?_
  refine WL.det (op_add (r := ((q + (((markD D k i).getD i RD.d).xs.length) + 1 : Nat) : Int)) rfl rfl (w_i64 (by omega) (by omega))) rfl rfl rfl ?_
  refine WL.det (op_assign rfl) rfl rfl rfl ?_
  refine WL.end (NE.blk (NE.code (CE.region ?_)))
  refine WL.det (op_move rfl) rfl rfl rfl ?_
  refine WL.det (op_add (r := ((i + 1 : Nat) : Int)) rfl rfl (w_i64 (by omega) (by omega))) rfl rfl rfl ?_
  refine WL.det (op_assign rfl) rfl rfl rfl ?_
  refine WL.end ?_
  exact NE.again ((i + 1), (q + (((markD D k i).getD i RD.d).xs.length) + 1)) (⟨rfl, rfl, rfl, rfl, trivial⟩) ⟨(by omega), (by dsimp only; rw [sumK, ← hml]; omega), (by dsimp only; omega), (Row.congr r5 (by rw [mark_step lD (by omega) hq])), (OF.congr fm3 (mark_step lD (by omega) hq)), ((m1.then m2 ((aC (.inl (by have hx := mem_bc lP (show i < n by omega); simp only [List.mem_cons, List.mem_append, hx, true_or, or_true])) aN))).then m3 ((aC (.inl (by simp)) aN)))⟩ (by first | (dsimp only; omega) | omega)
 ·have hp1 := of_decide_eq_false hb1
  refine CE.cond_f rfl hb1 ?_
  refine CE.exit' (XE.exit_then (XE.exit_then (XE.exit_here (NE.code (CE.seq (CE.region ?_))))))
  refine WL.det (op_move rfl) rfl rfl rfl ?_
  refine WL.det (op_assign rfl) rfl rfl rfl ?_
  refine WL.end (NE.code (CE.ret' ?_))
  have ei : n = i := by omega
  subst ei
  refine XE.leave1 Try.results86 rfl ?_
  refine ⟨?_, r1, fm1, ((Mod.refl (b :: (P.map BC.b ++ [])) w).then m1 ((aC (.inl (by simp)) (aI (fun x hx => by simp only [List.mem_cons, List.mem_append, hx, true_or, or_true]) aN))))⟩
  all_goals first | rfl | (rw [hq])

theorem c_heldRingS_x (n : Nat) (c : Nat) (b : Nat) (D : List RD) (P : List BC) (lo : Nat) (k : Nat) (lD : D.length = n) (lP : P.length = n) (hz : ∀ i, (D.getD i RD.d).xs.length ≤ 1048576) (hn : n ≤ 3) (hk : k ≤ 1048576000) (hh : HeldL D k n) (w : World) (r : Rng w b 0 (olc D P))  (F : OF lo w D P) : Cl Try.prog 87 #[vS b 0 n c, vI ((k : Nat) : Int)] w fun v w' => v = vI (((sumK D k n) : Nat) : Int) ∧ Mod [] w w' := by
 refine Cl.of Try.func87 Try.ntmps87 rfl rfl (ρ := [(0, vS b 0 n c), (1, vI ((k : Nat) : Int))]) rfl ?_
 refine CE.seq (CE.region ?_)
 refine WL.det (op_assign rfl) rfl rfl rfl ?_
 refine WL.end (NE.code (CE.seq (CE.seq (CE.region ?_))))
 refine WL.det (op_assign rfl) rfl rfl rfl ?_
 refine WL.end (NE.code (CE.block ?_))
 refine CE.loop (fun (i : Nat) => [(5, vI ((i : Nat) : Int)), (1, vI (((sumK D k i) : Nat) : Int)), (0, vS b 0 n c), (4, vI 0)]) (fun (i : Nat) => fun W => (i ≤ n) ∧ Mod [] w W) (fun (i : Nat) => n - i) 0 (⟨rfl, rfl, rfl, rfl, trivial⟩) ⟨(by omega), Mod.refl _ _⟩ ?_
 rintro i w1 ⟨hi, m1⟩
 have hzi := hz i
 have hsl := sumK_le (k := k) hz i
 show CE _ _ _ _ [(5, vI ((i : Nat) : Int)), (1, vI (((sumK D k i) : Nat) : Int)), (0, vS b 0 n c), (4, vI 0)] _
 refine CE.seq (CE.seq (CE.region ?_))
 iterate 2 refine WL.det (op_move rfl) rfl rfl rfl ?_
 refine WL.det (op_len rfl Try.runUnderlying25) rfl rfl rfl ?_
 refine WL.det (op_lti rfl rfl) rfl rfl rfl ?_
 refine WL.end (NE.code ?_)
 rcases Bool.eq_false_or_eq_true (decide (((i : Nat) : Int) < ((n : Nat) : Int))) with hb1 | hb1
 ·have hp1 := of_decide_eq_true hb1
  refine CE.cond_t rfl hb1 ?_
  refine CE.skip' (NE.code (CE.seq (CE.block (CE.seq (CE.region ?_)))))
  iterate 2 refine WL.det (op_move rfl) rfl rfl rfl ?_
  refine WL.det (op_indexSl (off' := 0 + i * 2) rfl rfl rfl Try.runUnderlying25 Try.sizeOf60 (by omega) (by omega) (by omega)) rfl rfl rfl ?_
  refine WL.det (op_fieldAddr (off' := 0 + i * 2) rfl Try.runUnderlying60 rfl rfl Try.sizeOf26 rfl) rfl rfl rfl ?_
  refine WL.det (op_load1 (i := i * 2) rfl Try.isAgg26 (r.ext m1) rfl (olc_get0 lD lP (show i < n by omega))) rfl rfl rfl ?_
  refine WL.det (op_move rfl) rfl rfl rfl ?_
  refine WL.call (oc_call (vs := [vS ((P.getD i BC.d).b) 0 ((D.getD i RD.d).xs.length) ((P.getD i BC.d).c), vI (((sumK D k i) : Nat) : Int)]) (cap := []) rfl rfl rfl Try.call52 (c_held32 ((D.getD i RD.d).xs.length) ((P.getD i BC.d).c) (some ⟨(P.getD i BC.d).b, 0, none⟩) ((P.getD i BC.d).b) 0 ((D.getD i RD.d).xs) (sumK D k i) rfl (fun _ => rfl) (by first | assumption | omega) (by first | assumption | omega) (by first | assumption | exact marks_held _ _ _ | exact (hh _ (by omega)).1 | (rw [sumK_marks lZR lZL]; exact marks_held _ _ _)) w1 ((OF.row F i (Nat.lt_of_lt_of_eq (show i < n by omega) lD.symm)).ext m1).rng)) rfl rfl (ltb rfl) ?_
  rintro _ w2 ⟨rfl, m2⟩
  refine WL.det (op_assign rfl) rfl rfl rfl ?_
  refine WL.end (NE.code (CE.seq (CE.seq (CE.region ?_))))
  refine WL.det (op_move rfl) rfl rfl rfl ?_
  refine WL.det (op_lti_f rfl rfl (Int.not_lt.2 (Int.natCast_nonneg _))) rfl rfl rfl ?_
  refine WL.end (NE.code ?_)
  refine CE.cond_f rfl rfl ?_
  refine CE.skip' (NE.code (CE.seq (CE.seq (CE.region ?_))))
  iterate 2 refine WL.det (op_move rfl) rfl rfl rfl ?_
  refine WL.det (op_indexSl (off' := 0 + i * 2) rfl rfl rfl Try.runUnderlying25 Try.sizeOf60 (by omega) (by omega) (by omega)) rfl rfl rfl ?_
  refine WL.det (op_fieldAddr (off' := 0 + i * 2 + 1) rfl Try.runUnderlying60 rfl rfl Try.sizeOf2 rfl) rfl rfl rfl ?_
  refine WL.det (op_load1 (i := i * 2 + 1) rfl Try.isAgg2 ((r.ext m1).ext m2) rfl (olc_get1 lD lP (show i < n by omega))) rfl rfl rfl ?_
  refine WL.det (op_move rfl) rfl rfl rfl ?_
  refine WL.det (op_nei rfl rfl) rfl rfl rfl ?_
  refine WL.end (NE.code ?_)
  refine CE.cond_f rfl (bne_eq_false_iff_eq.2 (hh i (by omega)).2) ?_
  refine CE.skip' (NE.code (CE.region ?_))
  refine WL.det (op_move rfl) rfl rfl rfl ?_
  refine WL.det (op_add (r := (((sumK D k i) + ((D.getD i RD.d).xs.length) + 1 : Nat) : Int)) rfl rfl (w_i64 (by omega) (by omega))) rfl rfl rfl ?_
  refine WL.det (op_assign rfl) rfl rfl rfl ?_
  refine WL.end (NE.blk (NE.code (CE.region ?_)))
  refine WL.det (op_move rfl) rfl rfl rfl ?_
  refine WL.det (op_add (r := ((i + 1 : Nat) : Int)) rfl rfl (w_i64 (by omega) (by omega))) rfl rfl rfl ?_
  refine WL.det (op_assign rfl) rfl rfl rfl ?_
  refine WL.end ?_
  exact NE.again (i + 1) (⟨rfl, rfl, rfl, rfl, trivial⟩) ⟨(by omega), (m1.nt m2)⟩ (by first | (dsimp only; omega) | omega)
 ·have hp1 := of_decide_eq_false hb1
  refine CE.cond_f rfl hb1 ?_
  refine CE.exit' (XE.exit_then (XE.exit_then (XE.exit_here (NE.code (CE.seq (CE.region ?_))))))
  refine WL.det (op_move rfl) rfl rfl rfl ?_
  refine WL.det (op_assign rfl) rfl rfl rfl ?_
  refine WL.end (NE.code (CE.ret' ?_))
  refine XE.leave1 Try.results87 rfl ?_
  refine ⟨?_, ((Mod.refl [] w).nt m1)⟩
  all_goals (have e : i = n := (by omega); subst e; rfl)

end Go.Proofs.Ytnahhdnkbbdceaa
