/- Drawn pipes, played, stepped and compared. -/
import Derived.Test.YtnahhdnkbbdceaaN7
import Derived.Test.YtnahhdnkbbdceaaT3
import Derived.Test.YtnahhdnkbbdceaaN9
set_option linter.unusedVariables false
set_option linter.unusedSimpArgs false
set_option maxRecDepth 100000
set_option maxHeartbeats 8000000
namespace Go.Proofs.Ytnahhdnkbbdceaa

theorem DPz.b1 {nR nS c0 c1 lo re sl k : Nat} {xS : List Nat} {z : PipeSt} (h : DPz nR nS xS c0 c1 lo re sl z k) : z.s1 < wid .f32 := by rw [h.w1, wid32]; omega
/-- the pipe behind `q` steps that are given the samples of a list -/
def zTo (nR nS : Nat) (xS : List Nat) (c0 c1 : Nat) (op : Bool) (lo re sl : Nat) (z : PipeSt) (ss : List Nat) (q : Nat) : PipeSt := pipeAt nR nS xS 1 c0 c1 0 op lo re sl z (fun j => ss.getD j 0) q
/-- what it makes -/
def oTo (nR nS : Nat) (xS : List Nat) (c0 c1 : Nat) (op : Bool) (lo re sl : Nat) (z : PipeSt) (ss : List Nat) (q : Nat) : List Nat := outs (pipeOut nR nS xS 1 c0 c1 0 op lo re sl z (fun j => ss.getD j 0)) q
section
variable {nR nS c0 c1 lo re sl k i : Nat} {xS ss bs xs ys m : List Nat} {x y z z1 z2 : PipeSt} {op : Bool} {a : Nat}
theorem bd_take (h : ∀ j, Bd (ss.getD j 0) 2) (k : Nat) (j : Nat) : Bd ((ss.take k).getD j 0) 2 := by
  by_cases hj : j < k
  · rw [List.getD_eq_getElem?_getD, List.getElem?_take, if_pos hj, ← List.getD_eq_getElem?_getD]; exact h j
  · rw [List.getD_eq_getElem?_getD, List.getElem?_take, if_neg hj]; exact Bd.zero
theorem zTo_dz (e : z1 = zTo nR nS xS c0 c1 op lo re sl z ss i) (d : DPz nR nS xS c0 c1 lo re sl z 25) (hb : ∀ j, Bd (ss.getD j 0) 2) (hi : i ≤ 16) : DPz nR nS xS c0 c1 lo re sl z1 57 := by
  rw [e]; exact (d.at hb (by omega) i (by omega)).mono (by omega)
theorem eqT (h : x = zTo nR nS xS c0 c1 op lo re sl z ss i) (k : y = zTo nR nS xS c0 c1 op lo re sl z ss i) : x = y := h.trans k.symm
theorem take_get {j : Nat} (hj : j < k) : (ss.take k).getD j 0 = ss.getD j 0 := by
  rw [List.getD_eq_getElem?_getD, List.getElem?_take, if_pos hj, ← List.getD_eq_getElem?_getD]
theorem part_get {j : Nat} (hj : j < i) : ((ss.drop k).take i).getD j 0 = ss.getD (k + j) 0 := by
  rw [List.getD_eq_getElem?_getD, List.getElem?_take, if_pos hj, List.getElem?_drop, ← List.getD_eq_getElem?_getD]
theorem zTo_take : zTo nR nS xS c0 c1 op lo re sl z (ss.take k) k = zTo nR nS xS c0 c1 op lo re sl z ss k := at_congr fun j hj => take_get hj
theorem zTo_back (e2 : z2 = zTo nR nS xS c0 c1 op lo re sl z1 ((ss.drop k).take (16 - k)) (16 - k)) (e1 : z1 = zTo nR nS xS c0 c1 op lo re sl z (ss.take k) k) (e3 : y = zTo nR nS xS c0 c1 op lo re sl z ss 16) (hk : k ≤ 16) : z2 = y := by
  rw [zTo_take] at e1
  rw [e2, e3, e1]
  have h1 : zTo nR nS xS c0 c1 op lo re sl (zTo nR nS xS c0 c1 op lo re sl z ss k) ((ss.drop k).take (16 - k)) (16 - k) = pipeAt nR nS xS 1 c0 c1 0 op lo re sl (zTo nR nS xS c0 c1 op lo re sl z ss k) (fun j => ss.getD (k + j) 0) (16 - k) := at_congr fun j hj => part_get hj
  rw [h1]
  have h2 := at_more (n := nR) (m := nS) (xS := xS) (c0 := c0) (c1 := c1) (op := op) (lo := lo) (re := re) (sl := sl) (z := z) (f := fun j => ss.getD j 0) (g := fun j => ss.getD (k + j) 0) (p := k) (fun j => rfl) (16 - k)
  rw [show k + (16 - k) = 16 by omega] at h2
  exact h2
theorem outs_add {f : Nat → Nat} : ∀ {p q : Nat}, outs f (p + q) = outs f p ++ outs (fun j => f (p + j)) q := by
  intro p q
  unfold outs
  rw [List.range_add, List.map_append, List.map_map]; rfl
theorem outs_eq {f g : Nat → Nat} {q : Nat} (h : ∀ j, j < q → f j = g j) : outs f q = outs g q := List.map_congr_left fun j hj => h j (List.mem_range.1 hj)
theorem cn_parts {b : List Nat} (h1 : Cn xs (oTo nR nS xS c0 c1 op lo re sl z (ss.take k) k)) (h2 : Cn b (oTo nR nS xS c0 c1 op lo re sl z1 ((ss.drop k).take (16 - k)) (16 - k))) (e1 : z1 = zTo nR nS xS c0 c1 op lo re sl z (ss.take k) k) (hm : Cn m (oTo nR nS xS c0 c1 op lo re sl z ss 16)) (hk : k ≤ 16) : Cn (xs ++ b) m := by
  refine Cn.trans (ys := oTo nR nS xS c0 c1 op lo re sl z ss 16) ?_ hm.symm
  have e : oTo nR nS xS c0 c1 op lo re sl z ss 16 = oTo nR nS xS c0 c1 op lo re sl z (ss.take k) k ++ oTo nR nS xS c0 c1 op lo re sl z1 ((ss.drop k).take (16 - k)) (16 - k) := by
    have a1 : oTo nR nS xS c0 c1 op lo re sl z ss 16 = oTo nR nS xS c0 c1 op lo re sl z ss (k + (16 - k)) := by rw [show k + (16 - k) = 16 by omega]
    rw [a1]
    unfold oTo
    rw [outs_add]
    congr 1
    · exact outs_eq fun j hj => (out_congr (f := fun j => ss.getD j 0) (g := fun j => (ss.take k).getD j 0) (fun i hi => take_get (by omega))).symm
    · refine outs_eq fun j hj => ?_
      rw [zTo_take] at e1
      have b1 := out_congr (n := nR) (m := nS) (xS := xS) (c0 := c0) (c1 := c1) (op := op) (lo := lo) (re := re) (sl := sl) (z := z1) (q := j) (f := fun j => ss.getD (k + j) 0) (g := fun j => ((ss.drop k).take (16 - k)).getD j 0) (fun i hi => part_get (by omega))
      rw [b1, e1]
      exact (out_more (f := fun j => ss.getD j 0) (g := fun j => ss.getD (k + j) 0) (p := k) (fun j => rfl) j).symm
  rw [e]
  unfold Cn at *
  rw [List.map_append, List.map_append, h1, h2]
theorem over_get16 (hi : 16 ≤ i) {j : Nat} (hj : j < 16) : (over (fun j => ss.getD j 0) (List.replicate 16 0) i).getD j 0 = ss.getD j 0 := over_lt (by omega)
theorem zTo_over (h : z1 = zTo nR nS xS c0 c1 op lo re sl z (over (fun j => ss.getD j 0) (List.replicate 16 0) i) 16) (k : y = zTo nR nS xS c0 c1 op lo re sl z ss 16) (hi : 16 ≤ i) : z1 = y := by
  rw [h, k]; exact at_congr fun j hj => over_get16 hi hj
theorem cn_over (h : Cn xs (oTo nR nS xS c0 c1 op lo re sl z (over (fun j => ss.getD j 0) (List.replicate 16 0) i) 16)) (hm : Cn m (oTo nR nS xS c0 c1 op lo re sl z ss 16)) (hi : 16 ≤ i) : Cn xs m := by
  refine h.trans (Cn.trans ?_ hm.symm)
  unfold oTo
  rw [outs_eq fun j hj => out_congr (f := fun j => ss.getD j 0) (g := fun j => (over (fun j => ss.getD j 0) (List.replicate 16 0) i).getD j 0) (fun i hi' => over_get16 hi (by omega))]
  exact Cn.refl _
end

theorem c_ValidZ (nR : Nat) (nS : Nat) (xS : List Nat) (kc0 : Nat) (kc1 : Nat) (op : Bool) (lo : Nat) (re : Nat) (sl : Nat) (z : PipeSt) (cR : Nat) (bR : Nat) (PR : List BC) (loR : Nat) (cL : Nat) (bL : Nat) (PL : List BC) (loL : Nat) (cS : Nat) (bS : Nat) (hdz : DPz nR nS xS kc0 kc1 lo re sl z 57) (lDR : z.R.length = nR) (lDL : z.L.length = nR) (lPR : PR.length = nR) (lPL : PL.length = nR) (lnS : xS.length = nS) (w : World) (rR : Rng w bR 0 (olc z.R PR)) (rL : Rng w bL 0 (olc z.L PL)) (rS : Rng w bS 0 (fl xS))  (FR : OF loR w z.R PR) (FL : OF loL w z.L PL) : Cl Try.prog 44 #[.agg #[vS bR 0 nR cR, vS bL 0 nR cL, vS bS 0 nS cS, vI 1, vF kc0, vF kc1, vF 0, vF (z.s0), vF (z.s1), .bool op, vF lo, vF re, vF sl]] w fun v w' => v = .bool true ∧ Mod [] w w' := by
  have q1 := hdz.n1
  have q2 := hdz.n3
  have q3 := hdz.sn
  have w1 : z.s1 < wid .f32 := by rw [hdz.w1, wid32]; omega
  refine (c_ValidPipeS nR z.R nR z.L nS xS cR bR PR loR cL bL PL loL cS bS 1 kc0 kc1 0 z.s0 z.s1 op lo re sl lDR lDL lnS hdz.small.1 hdz.small.2 lPR lPL (by omega) (by omega) (by omega) (by omega) w rR rL rS FR FL).mono ?_
  rintro v w' ⟨hv, md⟩
  rw [hdz.valid (by omega)] at hv
  exact ⟨hv, md⟩

theorem c_l04OkZ (nR : Nat) (nS : Nat) (xS : List Nat) (kc0 : Nat) (kc1 : Nat) (op : Bool) (lo : Nat) (re : Nat) (sl : Nat) (z : PipeSt) (cR : Nat) (bR : Nat) (PR : List BC) (loR : Nat) (cL : Nat) (bL : Nat) (PL : List BC) (loL : Nat) (cS : Nat) (bS : Nat) (p : Nat) (hdz : DPz nR nS xS kc0 kc1 lo re sl z 57) (lDR : z.R.length = nR) (lDL : z.L.length = nR) (lPR : PR.length = nR) (lPL : PL.length = nR) (lnS : xS.length = nS) (w : World) (q : Rng w p 0 [vS bR 0 nR cR, vS bL 0 nR cL, vS bS 0 nS cS, vI 1, vF kc0, vF kc1, vF 0, vF (z.s0), vF (z.s1), .bool op, vF lo, vF re, vF sl]) (rR : Rng w bR 0 (olc z.R PR)) (rL : Rng w bL 0 (olc z.L PL)) (rS : Rng w bS 0 (fl xS))  (FR : OF loR w z.R PR) (FL : OF loL w z.L PL) : Cl Try.prog 57 #[vP p 0] w fun v w' => v = .bool true ∧ Mod [] w w' := by
  have q1 := hdz.n1
  have q2 := hdz.n3
  have q3 := hdz.sn
  have w1 : z.s1 < wid .f32 := by rw [hdz.w1, wid32]; omega
  refine (c_l04OkS nR z.R nR z.L nS xS cR bR PR loR cL bL PL loL cS bS 1 kc0 kc1 0 z.s0 z.s1 op lo re sl p lDR lDL lnS hdz.small.1 hdz.small.2 lPR lPL (by omega) (by omega) (by omega) (by omega) w q rR rL rS FR FL).mono ?_
  rintro v w' ⟨hv, md⟩
  rw [hdz.valid (by omega)] at hv
  exact ⟨hv, md⟩

theorem c_sameRingsX (n : Nat) (c : Nat) (b : Nat) (D : List RD) (P : List BC) (lo : Nat) (c' : Nat) (b' : Nat) (P' : List BC) (lo' : Nat) (lD : D.length = n) (lP : P.length = n) (lP' : P'.length = n) (hz : ∀ i, (D.getD i RD.d).xs.length ≤ 1048576) (hn : n ≤ 1048576) (w : World) (r : Rng w b 0 (olc D P)) (r' : Rng w b' 0 (olc D P'))  (F : OF lo w D P) (F' : OF lo' w D P') : Cl Try.prog 141 #[vS b 0 n c, vS b' 0 n c'] w fun v w' => v = .bool true ∧ Mod [] w w' := by
 refine Cl.of Try.func141 Try.ntmps141 rfl rfl (ρ := [(0, vS b 0 n c), (1, vS b' 0 n c')]) rfl ?_
 refine CE.seq (CE.region ?_)
 refine WD (op_assign rfl) rfl ?_
 refine WL.end (NE.code (CE.seq (CE.seq (CE.region ?_))))
 refine WD (op_move rfl) rfl ?_
 refine WD (op_len rfl Try.runUnderlying25) rfl ?_
 refine WD (op_move rfl) rfl ?_
 refine WD (op_len rfl Try.runUnderlying25) rfl ?_
 refine WD (op_nei_f rfl rfl rfl) rfl ?_
 refine WL.end (NE.code ?_)
 refine CE.cond_f rfl rfl ?_
 refine CE.skip' (NE.code (CE.seq (CE.seq (CE.region ?_))))
 refine WD (op_assign rfl) rfl ?_
 refine WL.end (NE.code (CE.block ?_))
 refine CE.loop (fun (i : Nat) => [(5, vI ((i : Nat) : Int)), (0, vS b 0 n c), (1, vS b' 0 n c'), (4, .bool false)]) (fun (i : Nat) => fun W => (i ≤ n) ∧ Mod [] w W) (fun (i : Nat) => n - i) 0 (⟨rfl, rfl, rfl, rfl, trivial⟩) ⟨(by omega), Mod.refl _ _⟩ ?_
 rintro i w1 ⟨hi, m1⟩
 have hzi := hz i
 show CE _ _ _ _ [(5, vI ((i : Nat) : Int)), (0, vS b 0 n c), (1, vS b' 0 n c'), (4, .bool false)] _
 refine CE.seq (CE.seq (CE.region ?_))
 iterate 2 refine WD (op_move rfl) rfl ?_
 refine WD (op_len rfl Try.runUnderlying25) rfl ?_
 refine WD (op_lti rfl rfl) rfl ?_
 refine WL.end (NE.code ?_)
 rcases Bool.eq_false_or_eq_true (decide (((i : Nat) : Int) < ((n : Nat) : Int))) with hb1 | hb1
 ·have hp1 := of_decide_eq_true hb1
  refine CE.cond_t rfl hb1 ?_
  refine CE.skip' (NE.code (CE.seq (CE.block (CE.seq ?_))))
  refine CE.draw (fun _ => none) [0, 1, 2, 3, 4, 5, 6, 7, 8, 9, 10, 11, 12, 13, 14, 15, 16, 17, 18, 19, 20, 21] [22, 23, 24] [] (by kernel_rfl) (by kernel_rfl) ?_
  have md1 : Mod [] w1 w1.drew := (Mod.refl _ _).drew
  generalize w1.drew = w2 at md1 ⊢
  refine DD 0 rfl (by kernel_rfl) rfl (fun wD mD => op_move rfl) ?_
  refine DD 1 rfl (by kernel_rfl) rfl (fun wD mD => op_move rfl) ?_
  refine DD 2 rfl (by kernel_rfl) rfl (fun wD mD => op_indexSl (off' := 0 + i * 2) rfl rfl rfl Try.runUnderlying25 Try.sizeOf60 (by omega) (by omega) (by omega)) ?_
  refine DD 3 rfl (by kernel_rfl) rfl (fun wD mD => op_fieldAddr (off' := 0 + i * 2 + 1) rfl Try.runUnderlying60 rfl rfl Try.sizeOf2 rfl) ?_
  refine DD 4 rfl (by kernel_rfl) rfl (fun wD mD => op_load1 (i := i * 2 + 1) rfl Try.isAgg2 (((r.ext m1).ext md1).ext mD) rfl (olc_get1 lD lP (show i < n by omega))) ?_
  refine DD 5 rfl (by kernel_rfl) rfl (fun wD mD => op_move rfl) ?_
  refine DD 6 rfl (by kernel_rfl) rfl (fun wD mD => op_move rfl) ?_
  refine DD 7 rfl (by kernel_rfl) rfl (fun wD mD => op_indexSl (off' := 0 + i * 2) rfl rfl rfl Try.runUnderlying25 Try.sizeOf60 (by omega) (by omega) (by omega)) ?_
  refine DD 8 rfl (by kernel_rfl) rfl (fun wD mD => op_fieldAddr (off' := 0 + i * 2 + 1) rfl Try.runUnderlying60 rfl rfl Try.sizeOf2 rfl) ?_
  refine DD 9 rfl (by kernel_rfl) rfl (fun wD mD => op_load1 (i := i * 2 + 1) rfl Try.isAgg2 (((r'.ext m1).ext md1).ext mD) rfl (olc_get1 lD lP' (show i < n by omega))) ?_
  refine DD 10 rfl (by kernel_rfl) rfl (fun wD mD => op_nei_f rfl rfl rfl) ?_
  refine DD 11 rfl (by kernel_rfl) rfl (fun wD mD => op_move rfl) ?_
  refine DR.det (i := 12) rfl rfl (by kernel_rfl) (.yes rfl rfl rfl (ltb rfl) rfl rfl) rfl rfl (fun wD mD => op_move rfl) ?_
  refine DR.det (i := 13) rfl rfl (by kernel_rfl) (.yes rfl rfl rfl (ltb rfl) rfl rfl) rfl rfl (fun wD mD => op_move rfl) ?_
  refine DR.det (i := 14) rfl rfl (by kernel_rfl) (.yes rfl rfl rfl (ltb rfl) rfl rfl) rfl rfl (fun wD mD => op_indexSl (off' := 0 + i * 2) rfl rfl rfl Try.runUnderlying25 Try.sizeOf60 (by omega) (by omega) (by omega)) ?_
  refine DR.det (i := 15) rfl rfl (by kernel_rfl) (.yes rfl rfl rfl (ltb rfl) rfl rfl) rfl rfl (fun wD mD => op_fieldAddr (off' := 0 + i * 2) rfl Try.runUnderlying60 rfl rfl Try.sizeOf26 rfl) ?_
  refine DR.det (i := 16) rfl rfl (by kernel_rfl) (.yes rfl rfl rfl (ltb rfl) rfl rfl) rfl rfl (fun wD mD => op_load1 (i := i * 2) rfl Try.isAgg26 (((r.ext m1).ext md1).ext mD) rfl (olc_get0 lD lP (show i < n by omega))) ?_
  refine DR.det (i := 17) rfl rfl (by kernel_rfl) (.yes rfl rfl rfl (ltb rfl) rfl rfl) rfl rfl (fun wD mD => op_move rfl) ?_
  refine DR.det (i := 18) rfl rfl (by kernel_rfl) (.yes rfl rfl rfl (ltb rfl) rfl rfl) rfl rfl (fun wD mD => op_move rfl) ?_
  refine DR.det (i := 19) rfl rfl (by kernel_rfl) (.yes rfl rfl rfl (ltb rfl) rfl rfl) rfl rfl (fun wD mD => op_indexSl (off' := 0 + i * 2) rfl rfl rfl Try.runUnderlying25 Try.sizeOf60 (by omega) (by omega) (by omega)) ?_
  refine DR.det (i := 20) rfl rfl (by kernel_rfl) (.yes rfl rfl rfl (ltb rfl) rfl rfl) rfl rfl (fun wD mD => op_fieldAddr (off' := 0 + i * 2) rfl Try.runUnderlying60 rfl rfl Try.sizeOf26 rfl) ?_
  refine DR.det (i := 21) rfl rfl (by kernel_rfl) (.yes rfl rfl rfl (ltb rfl) rfl rfl) rfl rfl (fun wD mD => op_load1 (i := i * 2) rfl Try.isAgg26 (((r'.ext m1).ext md1).ext mD) rfl (olc_get0 lD lP' (show i < n by omega))) ?_
  refine DR.done rfl ?_
  intro w3 m2
  refine WO.call rfl (.yes rfl rfl rfl (ltb rfl) rfl rfl) rfl (ltb rfl) (oc_call (vs := [vS ((P.getD i BC.d).b) 0 ((D.getD i RD.d).xs.length) ((P.getD i BC.d).c), vS ((P'.getD i BC.d).b) 0 ((D.getD i RD.d).xs.length) ((P'.getD i BC.d).c)]) (cap := []) rfl rfl rfl Try.call78 (c_sameListX ((D.getD i RD.d).xs.length) ((P.getD i BC.d).c) (some ⟨(P.getD i BC.d).b, 0, none⟩) ((P.getD i BC.d).b) ((D.getD i RD.d).xs) ((P'.getD i BC.d).c) (some ⟨(P'.getD i BC.d).b, 0, none⟩) ((P'.getD i BC.d).b) ((D.getD i RD.d).xs) (fun _ => rfl) (fun _ => rfl) rfl rfl (by first | with_reducible exact Cn.refl _ | with_reducible assumption | exact Cn.eq2 (by with_reducible assumption) (by with_reducible assumption) | exact cn_parts (by with_reducible assumption) (by with_reducible assumption) (by with_reducible assumption) (by with_reducible assumption) (by omega) | exact cn_over (by with_reducible assumption) (by with_reducible assumption) (by omega) | exact cn_two (by assumption) (by assumption) (by assumption) (by assumption) (by assumption) (by assumption) (by assumption) (by omega) (by omega)) (by omega) w3 ((((OF.row F i (lQ (show i < n by omega) lD.symm)).ext m1).ext md1).ext m2).rng ((((OF.row F' i (lQ (show i < n by omega) lD.symm)).ext m1).ext md1).ext m2).rng)) ?_
  rintro _ w4 ⟨rfl, m3⟩
  refine WO.det (op_not rfl) rfl (.yes rfl rfl rfl (ltb rfl) rfl rfl) rfl rfl ?_
  refine WO.det (op_pick_f rfl rfl rfl) rfl (.free rfl) rfl rfl ?_
  refine WO.end (NE.code ?_)
  refine CE.cond_f rfl rfl ?_
  refine CE.skip' (NE.blk (NE.code (CE.region ?_)))
  refine WD (op_move rfl) rfl ?_
  refine WD (op_add (r := ((i + 1 : Nat) : Int)) rfl rfl (w_i64 (by omega) (by omega))) rfl ?_
  refine WD (op_assign rfl) rfl ?_
  refine WL.end ?_
  exact NE.again (i + 1) (⟨rfl, rfl, rfl, rfl, trivial⟩) ⟨(by omega), (((m1.nt md1).nt m2).nt m3)⟩ (by first | (dsimp only; omega) | omega)
 ·have hp1 := of_decide_eq_false hb1
  refine CE.cond_f rfl hb1 ?_
  refine CE.exit' (XE.exit_then (XE.exit_then (XE.exit_here (NE.code (CE.seq (CE.region ?_))))))
  refine WD (op_assign rfl) rfl ?_
  refine WL.end (NE.code (CE.ret' ?_))
  refine XE.leave1 Try.results141 rfl ?_
  refine ⟨rfl, ((Mod.refl [] w).nt m1)⟩

theorem c_l02Same (kd : Int) (c0 : Nat) (c1 : Nat) (c2 : Nat) (s0 : Nat) (s1 : Nat) (p : Nat) (k : Nat) (vs : List Value) (p2 : Nat) (k2 : Nat) (us : List Value) (hk : k + 6 ≤ vs.length) (hk2 : k2 + 6 ≤ us.length) (w : World) (r : Rng w p 0 (splice vs k [vI kd, vF c0, vF c1, vF c2, vF s0, vF s1])) (r2 : Rng w p2 0 (splice us k2 [vI kd, vF c0, vF c1, vF c2, vF s0, vF s1])) : Cl Try.prog 142 #[vP p k, vP p2 k2] w fun v w' => v = .bool true ∧ Mod [] w w' := by
 refine Cl.of Try.func142 Try.ntmps142 rfl rfl (ρ := [(0, vP p k), (1, vP p2 k2)]) rfl ?_
 refine CE.seq (CE.region ?_)
 refine WD (op_assign rfl) rfl ?_
 refine WL.end (NE.code (CE.seq (CE.seq ?_)))
 refine CE.draw (fun _ => none) [0, 1, 2, 3, 4, 5, 6, 7] [8] [] (by kernel_rfl) (by kernel_rfl) ?_
 have md1 : Mod [] w w.drew := (Mod.refl _ _).drew
 generalize w.drew = w1 at md1 ⊢
 refine DD 0 rfl (by kernel_rfl) rfl (fun wD mD => op_move rfl) ?_
 refine DD 1 rfl (by kernel_rfl) rfl (fun wD mD => op_nilCheck rfl) ?_
 refine DD 2 rfl (by kernel_rfl) rfl (fun wD mD => op_fieldAddr (off' := k) rfl Try.runUnderlying31 rfl rfl Try.sizeOf2 rfl) ?_
 refine DD 3 rfl (by kernel_rfl) rfl (fun wD mD => op_load1 (i := k) rfl Try.isAgg2 ((r.ext md1).ext mD) (Nat.zero_add _) (sub_get (i := 0) hk rfl)) ?_
 refine DD 4 rfl (by kernel_rfl) rfl (fun wD mD => op_move rfl) ?_
 refine DD 5 rfl (by kernel_rfl) rfl (fun wD mD => op_nilCheck rfl) ?_
 refine DD 6 rfl (by kernel_rfl) rfl (fun wD mD => op_fieldAddr (off' := k2) rfl Try.runUnderlying31 rfl rfl Try.sizeOf2 rfl) ?_
 refine DD 7 rfl (by kernel_rfl) rfl (fun wD mD => op_load1 (i := k2) rfl Try.isAgg2 ((r2.ext md1).ext mD) (Nat.zero_add _) (sub_get (i := 0) hk2 rfl)) ?_
 refine DR.done rfl ?_
 intro w2 m1
 refine WO.det (op_nei_f rfl rfl rfl) rfl (.free rfl) rfl rfl ?_
 refine WO.end (NE.code ?_)
 refine CE.cond_f rfl rfl ?_
 refine CE.skip' (NE.code (CE.seq (CE.seq (CE.region ?_))))
 refine WD (op_assign rfl) rfl ?_
 refine WL.end (NE.code (CE.block ?_))
 refine CE.rounds 4 ?_
 refine RN.one (CE.seq (CE.seq (CE.region ?_)))
 refine WD (op_move rfl) rfl ?_
 refine WD (op_lti rfl rfl) rfl ?_
 refine WL.end (NE.code ?_)
 refine CE.cond_t rfl rfl ?_
 refine CE.skip' (NE.code (CE.seq (CE.block (CE.seq ?_))))
 refine CE.draw (fun _ => none) [0, 1, 2, 3, 4, 5, 6, 7, 8, 9, 10, 11] [12, 13] [] (by kernel_rfl) (by kernel_rfl) ?_
 have md2 : Mod [] w2 w2.drew := (Mod.refl _ _).drew
 generalize w2.drew = w3 at md2 ⊢
 refine DD 0 rfl (by kernel_rfl) rfl (fun wD mD => op_move rfl) ?_
 refine DD 1 rfl (by kernel_rfl) rfl (fun wD mD => op_move rfl) ?_
 refine DD 2 rfl (by kernel_rfl) rfl (fun wD mD => op_nilCheck rfl) ?_
 refine DD 3 rfl (by kernel_rfl) rfl (fun wD mD => op_fieldAddr (off' := k + 1) rfl Try.runUnderlying31 rfl rfl Try.sizeOf28 rfl) ?_
 refine DD 4 rfl (by kernel_rfl) rfl (fun wD mD => op_indexArr (off' := k + 1) rfl rfl Try.runUnderlying28 Try.sizeOf27 (by decide) (by decide) rfl) ?_
 refine DD 5 rfl (by kernel_rfl) rfl (fun wD mD => op_load1 (i := k + 1) rfl Try.isAgg27 ((((r.ext md1).ext m1).ext md2).ext mD) (Nat.zero_add _) (sub_get (i := 1) hk rfl)) ?_
 refine DD 6 rfl (by kernel_rfl) rfl (fun wD mD => op_move rfl) ?_
 refine DD 7 rfl (by kernel_rfl) rfl (fun wD mD => op_move rfl) ?_
 refine DD 8 rfl (by kernel_rfl) rfl (fun wD mD => op_nilCheck rfl) ?_
 refine DD 9 rfl (by kernel_rfl) rfl (fun wD mD => op_fieldAddr (off' := k2 + 1) rfl Try.runUnderlying31 rfl rfl Try.sizeOf28 rfl) ?_
 refine DD 10 rfl (by kernel_rfl) rfl (fun wD mD => op_indexArr (off' := k2 + 1) rfl rfl Try.runUnderlying28 Try.sizeOf27 (by decide) (by decide) rfl) ?_
 refine DD 11 rfl (by kernel_rfl) rfl (fun wD mD => op_load1 (i := k2 + 1) rfl Try.isAgg27 ((((r2.ext md1).ext m1).ext md2).ext mD) (Nat.zero_add _) (sub_get (i := 1) hk2 rfl)) ?_
 refine DR.done rfl ?_
 intro w4 m2
 refine WO.call rfl (.free rfl) rfl (ltb rfl) (oc_call (vs := [vF c0, vF c0]) (cap := []) rfl rfl rfl Try.call128 (c_l01Same c0 c0 c0 c0 rfl rfl w4)) ?_
 rintro _ _ ⟨rfl, rfl⟩
 refine WO.det (op_not rfl) rfl (.free rfl) rfl rfl ?_
 refine WO.end (NE.code ?_)
 refine CE.cond_f rfl (bnot_t (beq_self_eq_true _)) ?_
 refine CE.skip' (NE.blk (NE.code (CE.region ?_)))
 refine WD (op_move rfl) rfl ?_
 refine WD (op_add (r := 1) rfl rfl (by decide)) rfl ?_
 refine WD (op_assign rfl) rfl ?_
 refine WL.end (NE.round (RN.one (CE.seq (CE.seq (CE.region ?_)))))
 refine WD (op_move rfl) rfl ?_
 refine WD (op_lti rfl rfl) rfl ?_
 refine WL.end (NE.code ?_)
 refine CE.cond_t rfl rfl ?_
 refine CE.skip' (NE.code (CE.seq (CE.block (CE.seq ?_))))
 refine CE.draw (fun _ => none) [0, 1, 2, 3, 4, 5, 6, 7, 8, 9, 10, 11] [12, 13] [] (by kernel_rfl) (by kernel_rfl) ?_
 have md3 : Mod [] w4 w4.drew := (Mod.refl _ _).drew
 generalize w4.drew = w5 at md3 ⊢
 refine DD 0 rfl (by kernel_rfl) rfl (fun wD mD => op_move rfl) ?_
 refine DD 1 rfl (by kernel_rfl) rfl (fun wD mD => op_move rfl) ?_
 refine DD 2 rfl (by kernel_rfl) rfl (fun wD mD => op_nilCheck rfl) ?_
 refine DD 3 rfl (by kernel_rfl) rfl (fun wD mD => op_fieldAddr (off' := k + 1) rfl Try.runUnderlying31 rfl rfl Try.sizeOf28 rfl) ?_
 refine DD 4 rfl (by kernel_rfl) rfl (fun wD mD => op_indexArr (off' := k + 2) rfl rfl Try.runUnderlying28 Try.sizeOf27 (by decide) (by decide) rfl) ?_
 refine DD 5 rfl (by kernel_rfl) rfl (fun wD mD => op_load1 (i := k + 2) rfl Try.isAgg27 ((((((r.ext md1).ext m1).ext md2).ext m2).ext md3).ext mD) (Nat.zero_add _) (sub_get (i := 2) hk rfl)) ?_
 refine DD 6 rfl (by kernel_rfl) rfl (fun wD mD => op_move rfl) ?_
 refine DD 7 rfl (by kernel_rfl) rfl (fun wD mD => op_move rfl) ?_
 refine DD 8 rfl (by kernel_rfl) rfl (fun wD mD => op_nilCheck rfl) ?_
 refine DD 9 rfl (by kernel_rfl) rfl (fun wD mD => op_fieldAddr (off' := k2 + 1) rfl Try.runUnderlying31 rfl rfl Try.sizeOf28 rfl) ?_
 refine DD 10 rfl (by kernel_rfl) rfl (fun wD mD => op_indexArr (off' := k2 + 2) rfl rfl Try.runUnderlying28 Try.sizeOf27 (by decide) (by decide) rfl) ?_
 refine DD 11 rfl (by kernel_rfl) rfl (fun wD mD => op_load1 (i := k2 + 2) rfl Try.isAgg27 ((((((r2.ext md1).ext m1).ext md2).ext m2).ext md3).ext mD) (Nat.zero_add _) (sub_get (i := 2) hk2 rfl)) ?_
 refine DR.done rfl ?_
 intro w6 m3
 refine WO.call rfl (.free rfl) rfl (ltb rfl) (oc_call (vs := [vF c1, vF c1]) (cap := []) rfl rfl rfl Try.call128 (c_l01Same c1 c1 c1 c1 rfl rfl w6)) ?_
 rintro _ _ ⟨rfl, rfl⟩
 refine WO.det (op_not rfl) rfl (.free rfl) rfl rfl ?_
 refine WO.end (NE.code ?_)
 refine CE.cond_f rfl (bnot_t (beq_self_eq_true _)) ?_
 refine CE.skip' (NE.blk (NE.code (CE.region ?_)))
 refine WD (op_move rfl) rfl ?_
 refine WD (op_add (r := 2) rfl rfl (by decide)) rfl ?_
 refine WD (op_assign rfl) rfl ?_
 refine WL.end (NE.round (RN.one (CE.seq (CE.seq (CE.region ?_)))))
 refine WD (op_move rfl) rfl ?_
 refine WD (op_lti rfl rfl) rfl ?_
 refine WL.end (NE.code ?_)
 refine CE.cond_t rfl rfl ?_
 refine CE.skip' (NE.code (CE.seq (CE.block (CE.seq ?_))))
 refine CE.draw (fun _ => none) [0, 1, 2, 3, 4, 5, 6, 7, 8, 9, 10, 11] [12, 13] [] (by kernel_rfl) (by kernel_rfl) ?_
 have md4 : Mod [] w6 w6.drew := (Mod.refl _ _).drew
 generalize w6.drew = w7 at md4 ⊢
 refine DD 0 rfl (by kernel_rfl) rfl (fun wD mD => op_move rfl) ?_
 refine DD 1 rfl (by kernel_rfl) rfl (fun wD mD => op_move rfl) ?_
 refine DD 2 rfl (by kernel_rfl) rfl (fun wD mD => op_nilCheck rfl) ?_
 refine DD 3 rfl (by kernel_rfl) rfl (fun wD mD => op_fieldAddr (off' := k + 1) rfl Try.runUnderlying31 rfl rfl Try.sizeOf28 rfl) ?_
 refine DD 4 rfl (by kernel_rfl) rfl (fun wD mD => op_indexArr (off' := k + 3) rfl rfl Try.runUnderlying28 Try.sizeOf27 (by decide) (by decide) rfl) ?_
 refine DD 5 rfl (by kernel_rfl) rfl (fun wD mD => op_load1 (i := k + 3) rfl Try.isAgg27 ((((((((r.ext md1).ext m1).ext md2).ext m2).ext md3).ext m3).ext md4).ext mD) (Nat.zero_add _) (sub_get (i := 3) hk rfl)) ?_
 refine DD 6 rfl (by kernel_rfl) rfl (fun wD mD => op_move rfl) ?_
 refine DD 7 rfl (by kernel_rfl) rfl (fun wD mD => op_move rfl) ?_
 refine DD 8 rfl (by kernel_rfl) rfl (fun wD mD => op_nilCheck rfl) ?_
 refine DD 9 rfl (by kernel_rfl) rfl (fun wD mD => op_fieldAddr (off' := k2 + 1) rfl Try.runUnderlying31 rfl rfl Try.sizeOf28 rfl) ?_
 refine DD 10 rfl (by kernel_rfl) rfl (fun wD mD => op_indexArr (off' := k2 + 3) rfl rfl Try.runUnderlying28 Try.sizeOf27 (by decide) (by decide) rfl) ?_
 refine DD 11 rfl (by kernel_rfl) rfl (fun wD mD => op_load1 (i := k2 + 3) rfl Try.isAgg27 ((((((((r2.ext md1).ext m1).ext md2).ext m2).ext md3).ext m3).ext md4).ext mD) (Nat.zero_add _) (sub_get (i := 3) hk2 rfl)) ?_
 refine DR.done rfl ?_
 intro w8 m4
 refine WO.call rfl (.free rfl) rfl (ltb rfl) (oc_call (vs := [vF c2, vF c2]) (cap := []) rfl rfl rfl Try.call128 (c_l01Same c2 c2 c2 c2 rfl rfl w8)) ?_
 rintro _ _ ⟨rfl, rfl⟩
 refine WO.det (op_not rfl) rfl (.free rfl) rfl rfl ?_
 refine WO.end (NE.code ?_)
 refine CE.cond_f rfl (bnot_t (beq_self_eq_true _)) ?_
 refine CE.skip' (NE.blk (NE.code (CE.region ?_)))
 refine WD (op_move rfl) rfl ?_
 refine WD (op_add (r := 3) rfl rfl (by decide)) rfl ?_
 refine WD (op_assign rfl) rfl ?_
 refine WL.end (NE.round (RN.one (CE.seq (CE.seq (CE.region ?_)))))
 refine WD (op_move rfl) rfl ?_
 refine WD (op_lti rfl rfl) rfl ?_
 refine WL.end (NE.code ?_)
 refine CE.cond_f rfl rfl ?_
 refine CE.exit' (XE.exit_then (XE.exit_then (XE.exit_here (NE.code (CE.seq ?_)))))
 refine CE.draw (fun | 10 => some (fun _ wA uA wB => uA = .bool (cn .f32 s0 == cn .f32 s0) ∧ wA = wB) | _ => none) [0, 1, 2, 3, 4, 5, 6, 7, 8, 9, 10, 11, 12, 13, 14, 15, 16, 17, 18, 19, 20, 21] [22, 23, 24] [] (by kernel_rfl) (by kernel_rfl) ?_
 have md5 : Mod [] w8 w8.drew := (Mod.refl _ _).drew
 generalize w8.drew = w9 at md5 ⊢
 refine DD 0 rfl (by kernel_rfl) rfl (fun wD mD => op_move rfl) ?_
 refine DD 1 rfl (by kernel_rfl) rfl (fun wD mD => op_nilCheck rfl) ?_
 refine DD 2 rfl (by kernel_rfl) rfl (fun wD mD => op_fieldAddr (off' := k + 4) rfl Try.runUnderlying31 rfl rfl Try.sizeOf29 rfl) ?_
 refine DD 3 rfl (by kernel_rfl) rfl (fun wD mD => op_indexArr (off' := k + 4) rfl rfl Try.runUnderlying29 Try.sizeOf27 (by decide) (by decide) rfl) ?_
 refine DD 4 rfl (by kernel_rfl) rfl (fun wD mD => op_load1 (i := k + 4) rfl Try.isAgg27 ((((((((((r.ext md1).ext m1).ext md2).ext m2).ext md3).ext m3).ext md4).ext m4).ext md5).ext mD) (Nat.zero_add _) (sub_get (i := 4) hk rfl)) ?_
 refine DD 5 rfl (by kernel_rfl) rfl (fun wD mD => op_move rfl) ?_
 refine DD 6 rfl (by kernel_rfl) rfl (fun wD mD => op_nilCheck rfl) ?_
 refine DD 7 rfl (by kernel_rfl) rfl (fun wD mD => op_fieldAddr (off' := k2 + 4) rfl Try.runUnderlying31 rfl rfl Try.sizeOf29 rfl) ?_
 refine DD 8 rfl (by kernel_rfl) rfl (fun wD mD => op_indexArr (off' := k2 + 4) rfl rfl Try.runUnderlying29 Try.sizeOf27 (by decide) (by decide) rfl) ?_
 refine DD 9 rfl (by kernel_rfl) rfl (fun wD mD => op_load1 (i := k2 + 4) rfl Try.isAgg27 ((((((((((r2.ext md1).ext m1).ext md2).ext m2).ext md3).ext m3).ext md4).ext m4).ext md5).ext mD) (Nat.zero_add _) (sub_get (i := 4) hk2 rfl)) ?_
 refine DR.call (i := 10) (fun uA => uA = .bool (cn .f32 s0 == cn .f32 s0)) rfl rfl (by kernel_rfl) (.free rfl) rfl (ltb rfl) ⟨_, rfl⟩ (vs := [.func (.func 128) #[] #[], vF s0, vF s0]) rfl (fun wD mD => oc_call (vs := [vF s0, vF s0]) (cap := []) rfl rfl rfl Try.call128 (c_l01Same s0 s0 s0 s0 rfl rfl wD)) ?_ ?_
 ·rintro w1 _ _ m1 ⟨rfl, rfl⟩; exact ⟨rfl, Mod.refl _ _⟩
 rintro _ rfl
 refine DD 11 rfl (by kernel_rfl) rfl (fun wD mD => op_move rfl) ?_
 refine DR.det (i := 12) rfl rfl (by kernel_rfl) (.yes rfl rfl rfl (ltb rfl) rfl (beq_self_eq_true _)) rfl rfl (fun wD mD => op_move rfl) ?_
 refine DR.det (i := 13) rfl rfl (by kernel_rfl) (.yes rfl rfl rfl (ltb rfl) rfl (beq_self_eq_true _)) rfl rfl (fun wD mD => op_nilCheck rfl) ?_
 refine DR.det (i := 14) rfl rfl (by kernel_rfl) (.yes rfl rfl rfl (ltb rfl) rfl (beq_self_eq_true _)) rfl rfl (fun wD mD => op_fieldAddr (off' := k + 4) rfl Try.runUnderlying31 rfl rfl Try.sizeOf29 rfl) ?_
 refine DR.det (i := 15) rfl rfl (by kernel_rfl) (.yes rfl rfl rfl (ltb rfl) rfl (beq_self_eq_true _)) rfl rfl (fun wD mD => op_indexArr (off' := k + 5) rfl rfl Try.runUnderlying29 Try.sizeOf27 (by decide) (by decide) rfl) ?_
 refine DR.det (i := 16) rfl rfl (by kernel_rfl) (.yes rfl rfl rfl (ltb rfl) rfl (beq_self_eq_true _)) rfl rfl (fun wD mD => op_load1 (i := k + 5) rfl Try.isAgg27 ((((((((((r.ext md1).ext m1).ext md2).ext m2).ext md3).ext m3).ext md4).ext m4).ext md5).ext mD) (Nat.zero_add _) (sub_get (i := 5) hk rfl)) ?_
 refine DR.det (i := 17) rfl rfl (by kernel_rfl) (.yes rfl rfl rfl (ltb rfl) rfl (beq_self_eq_true _)) rfl rfl (fun wD mD => op_move rfl) ?_
 refine DR.det (i := 18) rfl rfl (by kernel_rfl) (.yes rfl rfl rfl (ltb rfl) rfl (beq_self_eq_true _)) rfl rfl (fun wD mD => op_nilCheck rfl) ?_
 refine DR.det (i := 19) rfl rfl (by kernel_rfl) (.yes rfl rfl rfl (ltb rfl) rfl (beq_self_eq_true _)) rfl rfl (fun wD mD => op_fieldAddr (off' := k2 + 4) rfl Try.runUnderlying31 rfl rfl Try.sizeOf29 rfl) ?_
 refine DR.det (i := 20) rfl rfl (by kernel_rfl) (.yes rfl rfl rfl (ltb rfl) rfl (beq_self_eq_true _)) rfl rfl (fun wD mD => op_indexArr (off' := k2 + 5) rfl rfl Try.runUnderlying29 Try.sizeOf27 (by decide) (by decide) rfl) ?_
 refine DR.det (i := 21) rfl rfl (by kernel_rfl) (.yes rfl rfl rfl (ltb rfl) rfl (beq_self_eq_true _)) rfl rfl (fun wD mD => op_load1 (i := k2 + 5) rfl Try.isAgg27 ((((((((((r2.ext md1).ext m1).ext md2).ext m2).ext md3).ext m3).ext md4).ext m4).ext md5).ext mD) (Nat.zero_add _) (sub_get (i := 5) hk2 rfl)) ?_
 refine DR.done rfl ?_
 intro w10 m5
 refine WO.call rfl (.yes rfl rfl rfl (ltb rfl) rfl (beq_self_eq_true _)) rfl (ltb rfl) (oc_call (vs := [vF s1, vF s1]) (cap := []) rfl rfl rfl Try.call128 (c_l01Same s1 s1 s1 s1 rfl rfl w10)) ?_
 rintro _ _ ⟨rfl, rfl⟩
 refine WO.det (op_pick_t rfl (beq_self_eq_true _) rfl) rfl (.free rfl) rfl rfl ?_
 refine WO.det (op_assign rfl) rfl (.free rfl) rfl rfl ?_
 refine WO.end (NE.code (CE.ret' ?_))
 refine XE.leave1 Try.results142 rfl ?_
 refine ⟨?_, (((((((((((Mod.refl [] w).nt md1).nt m1).nt md2).nt m2).nt md3).nt m3).nt md4).nt m4).nt md5).nt m5)⟩
 all_goals simp_all

theorem c_l04SameX (nR : Nat) (nS : Nat) (xS : List Nat) (kc0 : Nat) (kc1 : Nat) (op : Bool) (lo : Nat) (re : Nat) (sl : Nat) (z : PipeSt) (cR : Nat) (bR : Nat) (PR : List BC) (loR : Nat) (cL : Nat) (bL : Nat) (PL : List BC) (loL : Nat) (cS : Nat) (bS : Nat) (cR' : Nat) (bR' : Nat) (PR' : List BC) (loR' : Nat) (cL' : Nat) (bL' : Nat) (PL' : List BC) (loL' : Nat) (cS' : Nat) (bS' : Nat) (p : Nat) (p2 : Nat) (hdz : DPz nR nS xS kc0 kc1 lo re sl z 57) (lDR : z.R.length = nR) (lDL : z.L.length = nR) (lPR : PR.length = nR) (lPL : PL.length = nR) (lnS : xS.length = nS) (lPR' : PR'.length = nR) (lPL' : PL'.length = nR) (w : World) (q : Rng w p 0 [vS bR 0 nR cR, vS bL 0 nR cL, vS bS 0 nS cS, vI 1, vF kc0, vF kc1, vF 0, vF (z.s0), vF (z.s1), .bool op, vF lo, vF re, vF sl]) (q2 : Rng w p2 0 [vS bR' 0 nR cR', vS bL' 0 nR cL', vS bS' 0 nS cS', vI 1, vF kc0, vF kc1, vF 0, vF (z.s0), vF (z.s1), .bool op, vF lo, vF re, vF sl]) (rR : Rng w bR 0 (olc z.R PR)) (rL : Rng w bL 0 (olc z.L PL)) (rS : Rng w bS 0 (fl xS)) (rR' : Rng w bR' 0 (olc z.R PR')) (rL' : Rng w bL' 0 (olc z.L PL')) (rS' : Rng w bS' 0 (fl xS))  (FR : OF loR w z.R PR) (FL : OF loL w z.L PL) (FR' : OF loR' w z.R PR') (FL' : OF loL' w z.L PL') : Cl Try.prog 97 #[vP p 0, vP p2 0] w fun v w' => v = .bool true ∧ Mod [] w w' := by
 have hnA := hdz.n1
 have hnB := hdz.n3
 have hnC := hdz.sn
 have hzR := hdz.small.1
 have hzL := hdz.small.2
 refine Cl.of Try.func97 Try.ntmps97 rfl rfl (ρ := [(0, vP p 0), (1, vP p2 0)]) rfl ?_
 refine CE.seq (CE.region ?_)
 refine WD (op_assign rfl) rfl ?_
 refine WL.end (NE.code (CE.seq ?_))
 refine CE.draw (fun | 8 => some (fun _ wA uA wB => uA = .bool true ∧ Mod [] wA wB) | 18 => some (fun _ wA uA wB => uA = .bool true ∧ Mod [] wA wB) | 29 => some (fun _ wA uA wB => uA = .bool true ∧ Mod [] wA wB) | 38 => some (fun _ wA uA wB => uA = .bool true ∧ Mod [] wA wB) | 60 => some (fun _ wA uA wB => uA = .bool (cn .f32 lo == cn .f32 lo) ∧ wA = wB) | 71 => some (fun _ wA uA wB => uA = .bool (cn .f32 re == cn .f32 re) ∧ wA = wB) | _ => none) [0, 1, 2, 3, 4, 5, 6, 7, 8, 9, 10, 11, 12, 13, 14, 15, 16, 17, 18, 19, 20, 21, 22, 23, 24, 25, 26, 27, 28, 29, 30, 31, 32, 33, 34, 35, 36, 37, 38, 39, 40, 41, 42, 43, 44, 45, 46, 47, 48, 49, 50, 51, 52, 53, 54, 55, 56, 57, 58, 59, 60, 61, 62, 63, 64, 65, 66, 67, 68, 69, 70, 71, 72, 73, 74, 75, 76, 77, 78, 79, 80, 81] [82, 83, 84] [] (by kernel_rfl) (by kernel_rfl) ?_
 have md1 : Mod [] w w.drew := (Mod.refl _ _).drew
 generalize w.drew = w1 at md1 ⊢
 refine DD 0 rfl (by kernel_rfl) rfl (fun wD mD => op_move rfl) ?_
 refine DD 1 rfl (by kernel_rfl) rfl (fun wD mD => op_nilCheck rfl) ?_
 refine DD 2 rfl (by kernel_rfl) rfl (fun wD mD => op_fieldAddr (off' := 0) rfl Try.runUnderlying33 rfl rfl Try.sizeOf25 rfl) ?_
 refine DD 3 rfl (by kernel_rfl) rfl (fun wD mD => op_load1 (i := 0) rfl Try.isAgg25 ((q.ext md1).ext mD) rfl rfl) ?_
 refine DD 4 rfl (by kernel_rfl) rfl (fun wD mD => op_move rfl) ?_
 refine DD 5 rfl (by kernel_rfl) rfl (fun wD mD => op_nilCheck rfl) ?_
 refine DD 6 rfl (by kernel_rfl) rfl (fun wD mD => op_fieldAddr (off' := 0) rfl Try.runUnderlying33 rfl rfl Try.sizeOf25 rfl) ?_
 refine DD 7 rfl (by kernel_rfl) rfl (fun wD mD => op_load1 (i := 0) rfl Try.isAgg25 ((q2.ext md1).ext mD) rfl rfl) ?_
 refine DR.call (i := 8) (fun uA => uA = .bool true) rfl rfl (by kernel_rfl) (.free rfl) rfl (ltb rfl) ⟨_, rfl⟩ (vs := [.func (.func 141) #[] #[], vS bR 0 nR cR, vS bR' 0 nR cR']) rfl (fun wD mD => oc_call (vs := [vS bR 0 nR cR, vS bR' 0 nR cR']) (cap := []) rfl rfl rfl Try.call141 (c_sameRingsX nR cR bR z.R PR loR cR' bR' PR' loR' lDR lPR lPR' (by first | assumption | exact rd_small (by assumption) (by assumption) | exact markD_small (by first | assumption | exact rd_small (by assumption) (by assumption)) _) (by omega) wD ((rR.ext md1).ext mD) ((rR'.ext md1).ext mD) ((FR.ext md1).ext mD) ((FR'.ext md1).ext mD))) ?_ ?_
 ·rintro w1 _ w2 m1 ⟨rfl, m2⟩; exact ⟨rfl, m2⟩
 rintro _ rfl
 refine DD 9 rfl (by kernel_rfl) rfl (fun wD mD => op_move rfl) ?_
 refine DR.det (i := 10) rfl rfl (by kernel_rfl) (.yes rfl rfl rfl (ltb rfl) rfl rfl) rfl rfl (fun wD mD => op_move rfl) ?_
 refine DR.det (i := 11) rfl rfl (by kernel_rfl) (.yes rfl rfl rfl (ltb rfl) rfl rfl) rfl rfl (fun wD mD => op_nilCheck rfl) ?_
 refine DR.det (i := 12) rfl rfl (by kernel_rfl) (.yes rfl rfl rfl (ltb rfl) rfl rfl) rfl rfl (fun wD mD => op_fieldAddr (off' := 1) rfl Try.runUnderlying33 rfl rfl Try.sizeOf25 rfl) ?_
 refine DR.det (i := 13) rfl rfl (by kernel_rfl) (.yes rfl rfl rfl (ltb rfl) rfl rfl) rfl rfl (fun wD mD => op_load1 (i := 1) rfl Try.isAgg25 ((q.ext md1).ext mD) rfl rfl) ?_
 refine DR.det (i := 14) rfl rfl (by kernel_rfl) (.yes rfl rfl rfl (ltb rfl) rfl rfl) rfl rfl (fun wD mD => op_move rfl) ?_
 refine DR.det (i := 15) rfl rfl (by kernel_rfl) (.yes rfl rfl rfl (ltb rfl) rfl rfl) rfl rfl (fun wD mD => op_nilCheck rfl) ?_
 refine DR.det (i := 16) rfl rfl (by kernel_rfl) (.yes rfl rfl rfl (ltb rfl) rfl rfl) rfl rfl (fun wD mD => op_fieldAddr (off' := 1) rfl Try.runUnderlying33 rfl rfl Try.sizeOf25 rfl) ?_
 refine DR.det (i := 17) rfl rfl (by kernel_rfl) (.yes rfl rfl rfl (ltb rfl) rfl rfl) rfl rfl (fun wD mD => op_load1 (i := 1) rfl Try.isAgg25 ((q2.ext md1).ext mD) rfl rfl) ?_
 refine DR.call (i := 18) (fun uA => uA = .bool true) rfl rfl (by kernel_rfl) (.yes rfl rfl rfl (ltb rfl) rfl rfl) rfl (ltb rfl) ⟨_, rfl⟩ (vs := [.func (.func 141) #[] #[], vS bL 0 nR cL, vS bL' 0 nR cL']) rfl (fun wD mD => oc_call (vs := [vS bL 0 nR cL, vS bL' 0 nR cL']) (cap := []) rfl rfl rfl Try.call141 (c_sameRingsX nR cL bL z.L PL loL cL' bL' PL' loL' lDL lPL lPL' (by first | assumption | exact rd_small (by assumption) (by assumption) | exact markD_small (by first | assumption | exact rd_small (by assumption) (by assumption)) _) (by omega) wD ((rL.ext md1).ext mD) ((rL'.ext md1).ext mD) ((FL.ext md1).ext mD) ((FL'.ext md1).ext mD))) ?_ ?_
 ·rintro w1 _ w2 m1 ⟨rfl, m2⟩; exact ⟨rfl, m2⟩
 rintro _ rfl
 refine DD 19 rfl (by kernel_rfl) rfl (fun wD mD => op_pick_t rfl rfl rfl) ?_
 refine DD 20 rfl (by kernel_rfl) rfl (fun wD mD => op_move rfl) ?_
 refine DR.det (i := 21) rfl rfl (by kernel_rfl) (.yes rfl rfl rfl (ltb rfl) rfl rfl) rfl rfl (fun wD mD => op_move rfl) ?_
 refine DR.det (i := 22) rfl rfl (by kernel_rfl) (.yes rfl rfl rfl (ltb rfl) rfl rfl) rfl rfl (fun wD mD => op_nilCheck rfl) ?_
 refine DR.det (i := 23) rfl rfl (by kernel_rfl) (.yes rfl rfl rfl (ltb rfl) rfl rfl) rfl rfl (fun wD mD => op_fieldAddr (off' := 2) rfl Try.runUnderlying33 rfl rfl Try.sizeOf26 rfl) ?_
 refine DR.det (i := 24) rfl rfl (by kernel_rfl) (.yes rfl rfl rfl (ltb rfl) rfl rfl) rfl rfl (fun wD mD => op_load1 (i := 2) rfl Try.isAgg26 ((q.ext md1).ext mD) rfl rfl) ?_
 refine DR.det (i := 25) rfl rfl (by kernel_rfl) (.yes rfl rfl rfl (ltb rfl) rfl rfl) rfl rfl (fun wD mD => op_move rfl) ?_
 refine DR.det (i := 26) rfl rfl (by kernel_rfl) (.yes rfl rfl rfl (ltb rfl) rfl rfl) rfl rfl (fun wD mD => op_nilCheck rfl) ?_
 refine DR.det (i := 27) rfl rfl (by kernel_rfl) (.yes rfl rfl rfl (ltb rfl) rfl rfl) rfl rfl (fun wD mD => op_fieldAddr (off' := 2) rfl Try.runUnderlying33 rfl rfl Try.sizeOf26 rfl) ?_
 refine DR.det (i := 28) rfl rfl (by kernel_rfl) (.yes rfl rfl rfl (ltb rfl) rfl rfl) rfl rfl (fun wD mD => op_load1 (i := 2) rfl Try.isAgg26 ((q2.ext md1).ext mD) rfl rfl) ?_
 refine DR.call (i := 29) (fun uA => uA = .bool true) rfl rfl (by kernel_rfl) (.yes rfl rfl rfl (ltb rfl) rfl rfl) rfl (ltb rfl) ⟨_, rfl⟩ (vs := [.func (.func 78) #[] #[], vS bS 0 nS cS, vS bS' 0 nS cS']) rfl (fun wD mD => oc_call (vs := [vS bS 0 nS cS, vS bS' 0 nS cS']) (cap := []) rfl rfl rfl Try.call78 (c_sameListX nS cS (some ⟨bS, 0, none⟩) bS xS cS' (some ⟨bS', 0, none⟩) bS' xS (fun _ => rfl) (fun _ => rfl) lnS lnS (by first | with_reducible exact Cn.refl _ | with_reducible assumption | exact Cn.eq2 (by with_reducible assumption) (by with_reducible assumption) | exact cn_parts (by with_reducible assumption) (by with_reducible assumption) (by with_reducible assumption) (by with_reducible assumption) (by omega) | exact cn_over (by with_reducible assumption) (by with_reducible assumption) (by omega) | exact cn_two (by assumption) (by assumption) (by assumption) (by assumption) (by assumption) (by assumption) (by assumption) (by omega) (by omega)) (by omega) wD ((rS.ext md1).ext mD) ((rS'.ext md1).ext mD))) ?_ ?_
 ·rintro w1 _ w2 m1 ⟨rfl, m2⟩; exact ⟨rfl, m2⟩
 rintro _ rfl
 refine DD 30 rfl (by kernel_rfl) rfl (fun wD mD => op_pick_t rfl rfl rfl) ?_
 refine DD 31 rfl (by kernel_rfl) rfl (fun wD mD => op_move rfl) ?_
 refine DR.det (i := 32) rfl rfl (by kernel_rfl) (.yes rfl rfl rfl (ltb rfl) rfl rfl) rfl rfl (fun wD mD => op_move rfl) ?_
 refine DR.det (i := 33) rfl rfl (by kernel_rfl) (.yes rfl rfl rfl (ltb rfl) rfl rfl) rfl rfl (fun wD mD => op_nilCheck rfl) ?_
 refine DR.det (i := 34) rfl rfl (by kernel_rfl) (.yes rfl rfl rfl (ltb rfl) rfl rfl) rfl rfl (fun wD mD => op_fieldAddr (off' := 3) rfl Try.runUnderlying33 rfl rfl Try.sizeOf31 rfl) ?_
 refine DR.det (i := 35) rfl rfl (by kernel_rfl) (.yes rfl rfl rfl (ltb rfl) rfl rfl) rfl rfl (fun wD mD => op_move rfl) ?_
 refine DR.det (i := 36) rfl rfl (by kernel_rfl) (.yes rfl rfl rfl (ltb rfl) rfl rfl) rfl rfl (fun wD mD => op_nilCheck rfl) ?_
 refine DR.det (i := 37) rfl rfl (by kernel_rfl) (.yes rfl rfl rfl (ltb rfl) rfl rfl) rfl rfl (fun wD mD => op_fieldAddr (off' := 3) rfl Try.runUnderlying33 rfl rfl Try.sizeOf31 rfl) ?_
 refine DR.call (i := 38) (fun uA => uA = .bool true) rfl rfl (by kernel_rfl) (.yes rfl rfl rfl (ltb rfl) rfl rfl) rfl (ltb rfl) ⟨_, rfl⟩ (vs := [.func (.func 142) #[] #[], vP p 3, vP p2 3]) rfl (fun wD mD => oc_call (vs := [vP p 3, vP p2 3]) (cap := []) rfl rfl rfl Try.call142 (c_l02Same (1 : Int) kc0 kc1 0 (z.s0) (z.s1) p 3 [vS bR 0 nR cR, vS bL 0 nR cL, vS bS 0 nS cS, vI 1, vF kc0, vF kc1, vF 0, vF (z.s0), vF (z.s1), .bool op, vF lo, vF re, vF sl] p2 3 [vS bR' 0 nR cR', vS bL' 0 nR cL', vS bS' 0 nS cS', vI 1, vF kc0, vF kc1, vF 0, vF (z.s0), vF (z.s1), .bool op, vF lo, vF re, vF sl] (lB rfl) (lB rfl) wD (Rng.congr ((q.ext md1).ext mD) rfl) (Rng.congr ((q2.ext md1).ext mD) rfl))) ?_ ?_
 ·rintro w1 _ w2 m1 ⟨rfl, m2⟩; exact ⟨rfl, m2⟩
 rintro _ rfl
 refine DD 39 rfl (by kernel_rfl) rfl (fun wD mD => op_pick_t rfl rfl rfl) ?_
 refine DD 40 rfl (by kernel_rfl) rfl (fun wD mD => op_move rfl) ?_
 refine DR.det (i := 41) rfl rfl (by kernel_rfl) (.yes rfl rfl rfl (ltb rfl) rfl rfl) rfl rfl (fun wD mD => op_move rfl) ?_
 refine DR.det (i := 42) rfl rfl (by kernel_rfl) (.yes rfl rfl rfl (ltb rfl) rfl rfl) rfl rfl (fun wD mD => op_nilCheck rfl) ?_
 refine DR.det (i := 43) rfl rfl (by kernel_rfl) (.yes rfl rfl rfl (ltb rfl) rfl rfl) rfl rfl (fun wD mD => op_fieldAddr (off' := 9) rfl Try.runUnderlying33 rfl rfl Try.sizeOf4 rfl) ?_
 refine DR.det (i := 44) rfl rfl (by kernel_rfl) (.yes rfl rfl rfl (ltb rfl) rfl rfl) rfl rfl (fun wD mD => op_load1 (i := 9) rfl Try.isAgg4 ((q.ext md1).ext mD) rfl rfl) ?_
 refine DR.det (i := 45) rfl rfl (by kernel_rfl) (.yes rfl rfl rfl (ltb rfl) rfl rfl) rfl rfl (fun wD mD => op_move rfl) ?_
 refine DR.det (i := 46) rfl rfl (by kernel_rfl) (.yes rfl rfl rfl (ltb rfl) rfl rfl) rfl rfl (fun wD mD => op_nilCheck rfl) ?_
 refine DR.det (i := 47) rfl rfl (by kernel_rfl) (.yes rfl rfl rfl (ltb rfl) rfl rfl) rfl rfl (fun wD mD => op_fieldAddr (off' := 9) rfl Try.runUnderlying33 rfl rfl Try.sizeOf4 rfl) ?_
 refine DR.det (i := 48) rfl rfl (by kernel_rfl) (.yes rfl rfl rfl (ltb rfl) rfl rfl) rfl rfl (fun wD mD => op_load1 (i := 9) rfl Try.isAgg4 ((q2.ext md1).ext mD) rfl rfl) ?_
 refine DR.det (i := 49) rfl rfl (by kernel_rfl) (.yes rfl rfl rfl (ltb rfl) rfl rfl) rfl rfl (fun wD mD => op_eqb_same rfl rfl Try.underlying4) ?_
 refine DD 50 rfl (by kernel_rfl) rfl (fun wD mD => op_pick_t rfl rfl rfl) ?_
 refine DD 51 rfl (by kernel_rfl) rfl (fun wD mD => op_move rfl) ?_
 refine DR.det (i := 52) rfl rfl (by kernel_rfl) (.yes rfl rfl rfl (ltb rfl) rfl rfl) rfl rfl (fun wD mD => op_move rfl) ?_
 refine DR.det (i := 53) rfl rfl (by kernel_rfl) (.yes rfl rfl rfl (ltb rfl) rfl rfl) rfl rfl (fun wD mD => op_nilCheck rfl) ?_
 refine DR.det (i := 54) rfl rfl (by kernel_rfl) (.yes rfl rfl rfl (ltb rfl) rfl rfl) rfl rfl (fun wD mD => op_fieldAddr (off' := 10) rfl Try.runUnderlying33 rfl rfl Try.sizeOf27 rfl) ?_
 refine DR.det (i := 55) rfl rfl (by kernel_rfl) (.yes rfl rfl rfl (ltb rfl) rfl rfl) rfl rfl (fun wD mD => op_load1 (i := 10) rfl Try.isAgg27 ((q.ext md1).ext mD) rfl rfl) ?_
 refine DR.det (i := 56) rfl rfl (by kernel_rfl) (.yes rfl rfl rfl (ltb rfl) rfl rfl) rfl rfl (fun wD mD => op_move rfl) ?_
 refine DR.det (i := 57) rfl rfl (by kernel_rfl) (.yes rfl rfl rfl (ltb rfl) rfl rfl) rfl rfl (fun wD mD => op_nilCheck rfl) ?_
 refine DR.det (i := 58) rfl rfl (by kernel_rfl) (.yes rfl rfl rfl (ltb rfl) rfl rfl) rfl rfl (fun wD mD => op_fieldAddr (off' := 10) rfl Try.runUnderlying33 rfl rfl Try.sizeOf27 rfl) ?_
 refine DR.det (i := 59) rfl rfl (by kernel_rfl) (.yes rfl rfl rfl (ltb rfl) rfl rfl) rfl rfl (fun wD mD => op_load1 (i := 10) rfl Try.isAgg27 ((q2.ext md1).ext mD) rfl rfl) ?_
 refine DR.call (i := 60) (fun uA => uA = .bool (cn .f32 lo == cn .f32 lo)) rfl rfl (by kernel_rfl) (.yes rfl rfl rfl (ltb rfl) rfl rfl) rfl (ltb rfl) ⟨_, rfl⟩ (vs := [.func (.func 128) #[] #[], vF lo, vF lo]) rfl (fun wD mD => oc_call (vs := [vF lo, vF lo]) (cap := []) rfl rfl rfl Try.call128 (c_l01Same lo lo lo lo rfl rfl wD)) ?_ ?_
 ·rintro w1 _ _ m1 ⟨rfl, rfl⟩; exact ⟨rfl, Mod.refl _ _⟩
 rintro _ rfl
 refine DD 61 rfl (by kernel_rfl) rfl (fun wD mD => op_pick_t rfl rfl rfl) ?_
 refine DD 62 rfl (by kernel_rfl) rfl (fun wD mD => op_move rfl) ?_
 refine DR.det (i := 63) rfl rfl (by kernel_rfl) (.yes rfl rfl rfl (ltb rfl) rfl (beq_self_eq_true _)) rfl rfl (fun wD mD => op_move rfl) ?_
 refine DR.det (i := 64) rfl rfl (by kernel_rfl) (.yes rfl rfl rfl (ltb rfl) rfl (beq_self_eq_true _)) rfl rfl (fun wD mD => op_nilCheck rfl) ?_
 refine DR.det (i := 65) rfl rfl (by kernel_rfl) (.yes rfl rfl rfl (ltb rfl) rfl (beq_self_eq_true _)) rfl rfl (fun wD mD => op_fieldAddr (off' := 11) rfl Try.runUnderlying33 rfl rfl Try.sizeOf27 rfl) ?_
 refine DR.det (i := 66) rfl rfl (by kernel_rfl) (.yes rfl rfl rfl (ltb rfl) rfl (beq_self_eq_true _)) rfl rfl (fun wD mD => op_load1 (i := 11) rfl Try.isAgg27 ((q.ext md1).ext mD) rfl rfl) ?_
 refine DR.det (i := 67) rfl rfl (by kernel_rfl) (.yes rfl rfl rfl (ltb rfl) rfl (beq_self_eq_true _)) rfl rfl (fun wD mD => op_move rfl) ?_
 refine DR.det (i := 68) rfl rfl (by kernel_rfl) (.yes rfl rfl rfl (ltb rfl) rfl (beq_self_eq_true _)) rfl rfl (fun wD mD => op_nilCheck rfl) ?_
 refine DR.det (i := 69) rfl rfl (by kernel_rfl) (.yes rfl rfl rfl (ltb rfl) rfl (beq_self_eq_true _)) rfl rfl (fun wD mD => op_fieldAddr (off' := 11) rfl Try.runUnderlying33 rfl rfl Try.sizeOf27 rfl) ?_
 refine DR.det (i := 70) rfl rfl (by kernel_rfl) (.yes rfl rfl rfl (ltb rfl) rfl (beq_self_eq_true _)) rfl rfl (fun wD mD => op_load1 (i := 11) rfl Try.isAgg27 ((q2.ext md1).ext mD) rfl rfl) ?_
 refine DR.call (i := 71) (fun uA => uA = .bool (cn .f32 re == cn .f32 re)) rfl rfl (by kernel_rfl) (.yes rfl rfl rfl (ltb rfl) rfl (beq_self_eq_true _)) rfl (ltb rfl) ⟨_, rfl⟩ (vs := [.func (.func 128) #[] #[], vF re, vF re]) rfl (fun wD mD => oc_call (vs := [vF re, vF re]) (cap := []) rfl rfl rfl Try.call128 (c_l01Same re re re re rfl rfl wD)) ?_ ?_
 ·rintro w1 _ _ m1 ⟨rfl, rfl⟩; exact ⟨rfl, Mod.refl _ _⟩
 rintro _ rfl
 refine DD 72 rfl (by kernel_rfl) rfl (fun wD mD => op_pick_t rfl (beq_self_eq_true _) rfl) ?_
 refine DD 73 rfl (by kernel_rfl) rfl (fun wD mD => op_move rfl) ?_
 refine DR.det (i := 74) rfl rfl (by kernel_rfl) (.yes rfl rfl rfl (ltb rfl) rfl (beq_self_eq_true _)) rfl rfl (fun wD mD => op_move rfl) ?_
 refine DR.det (i := 75) rfl rfl (by kernel_rfl) (.yes rfl rfl rfl (ltb rfl) rfl (beq_self_eq_true _)) rfl rfl (fun wD mD => op_nilCheck rfl) ?_
 refine DR.det (i := 76) rfl rfl (by kernel_rfl) (.yes rfl rfl rfl (ltb rfl) rfl (beq_self_eq_true _)) rfl rfl (fun wD mD => op_fieldAddr (off' := 12) rfl Try.runUnderlying33 rfl rfl Try.sizeOf27 rfl) ?_
 refine DR.det (i := 77) rfl rfl (by kernel_rfl) (.yes rfl rfl rfl (ltb rfl) rfl (beq_self_eq_true _)) rfl rfl (fun wD mD => op_load1 (i := 12) rfl Try.isAgg27 ((q.ext md1).ext mD) rfl rfl) ?_
 refine DR.det (i := 78) rfl rfl (by kernel_rfl) (.yes rfl rfl rfl (ltb rfl) rfl (beq_self_eq_true _)) rfl rfl (fun wD mD => op_move rfl) ?_
 refine DR.det (i := 79) rfl rfl (by kernel_rfl) (.yes rfl rfl rfl (ltb rfl) rfl (beq_self_eq_true _)) rfl rfl (fun wD mD => op_nilCheck rfl) ?_
 refine DR.det (i := 80) rfl rfl (by kernel_rfl) (.yes rfl rfl rfl (ltb rfl) rfl (beq_self_eq_true _)) rfl rfl (fun wD mD => op_fieldAddr (off' := 12) rfl Try.runUnderlying33 rfl rfl Try.sizeOf27 rfl) ?_
 refine DR.det (i := 81) rfl rfl (by kernel_rfl) (.yes rfl rfl rfl (ltb rfl) rfl (beq_self_eq_true _)) rfl rfl (fun wD mD => op_load1 (i := 12) rfl Try.isAgg27 ((q2.ext md1).ext mD) rfl rfl) ?_
 refine DR.done rfl ?_
 intro w2 m1
 refine WO.call rfl (.yes rfl rfl rfl (ltb rfl) rfl (beq_self_eq_true _)) rfl (ltb rfl) (oc_call (vs := [vF sl, vF sl]) (cap := []) rfl rfl rfl Try.call128 (c_l01Same sl sl sl sl rfl rfl w2)) ?_
 rintro _ _ ⟨rfl, rfl⟩
 refine WO.det (op_pick_t rfl (beq_self_eq_true _) rfl) rfl (.free rfl) rfl rfl ?_
 refine WO.det (op_assign rfl) rfl (.free rfl) rfl rfl ?_
 refine WO.end (NE.code (CE.ret' ?_))
 refine XE.leave1 Try.results97 rfl ?_
 refine ⟨?_, (((Mod.refl [] w).nt md1).nt m1)⟩
 all_goals simp_all

theorem c_SamePipeZ (nR : Nat) (nS : Nat) (xS : List Nat) (kc0 : Nat) (kc1 : Nat) (op : Bool) (lo : Nat) (re : Nat) (sl : Nat) (z : PipeSt) (cR : Nat) (bR : Nat) (PR : List BC) (loR : Nat) (cL : Nat) (bL : Nat) (PL : List BC) (loL : Nat) (cS : Nat) (bS : Nat) (cR' : Nat) (bR' : Nat) (PR' : List BC) (loR' : Nat) (cL' : Nat) (bL' : Nat) (PL' : List BC) (loL' : Nat) (cS' : Nat) (bS' : Nat) (hdz : DPz nR nS xS kc0 kc1 lo re sl z 57) (lDR : z.R.length = nR) (lDL : z.L.length = nR) (lPR : PR.length = nR) (lPL : PL.length = nR) (lnS : xS.length = nS) (lPR' : PR'.length = nR) (lPL' : PL'.length = nR) (w : World) (rR : Rng w bR 0 (olc z.R PR)) (rL : Rng w bL 0 (olc z.L PL)) (rS : Rng w bS 0 (fl xS)) (rR' : Rng w bR' 0 (olc z.R PR')) (rL' : Rng w bL' 0 (olc z.L PL')) (rS' : Rng w bS' 0 (fl xS))  (FR : OF loR w z.R PR) (FL : OF loL w z.L PL) (FR' : OF loR' w z.R PR') (FL' : OF loL' w z.L PL') : Cl Try.prog 37 #[.agg #[vS bR 0 nR cR, vS bL 0 nR cL, vS bS 0 nS cS, vI 1, vF kc0, vF kc1, vF 0, vF (z.s0), vF (z.s1), .bool op, vF lo, vF re, vF sl], .agg #[vS bR' 0 nR cR', vS bL' 0 nR cL', vS bS' 0 nS cS', vI 1, vF kc0, vF kc1, vF 0, vF (z.s0), vF (z.s1), .bool op, vF lo, vF re, vF sl]] w fun v w' => v = .bool true ∧ Mod [] w w' := by
 refine Cl.of Try.func37 Try.ntmps37 rfl rfl (ρ := [(0, .agg #[vS bR 0 nR cR, vS bL 0 nR cL, vS bS 0 nS cS, vI 1, vF kc0, vF kc1, vF 0, vF (z.s0), vF (z.s1), .bool op, vF lo, vF re, vF sl]), (1, .agg #[vS bR' 0 nR cR', vS bL' 0 nR cL', vS bS' 0 nS cS', vI 1, vF kc0, vF kc1, vF 0, vF (z.s0), vF (z.s1), .bool op, vF lo, vF re, vF sl])]) rfl ?_
 refine CE.seq (CE.region ?_)
 refine WL.op (op_box (cs := [vS bR 0 nR cR, vS bL 0 nR cL, vS bS 0 nS cS, vI 1, vF kc0, vF kc1, vF 0, vF (z.s0), vF (z.s1), .bool op, vF lo, vF re, vF sl]) rfl rfl) rfl rfl (ltb rfl) ?_
 rintro _ w1 ⟨rfl, r1, m1, z1⟩
 refine WL.op (op_box (cs := [vS bR' 0 nR cR', vS bL' 0 nR cL', vS bS' 0 nS cS', vI 1, vF kc0, vF kc1, vF 0, vF (z.s0), vF (z.s1), .bool op, vF lo, vF re, vF sl]) rfl rfl) rfl rfl (ltb rfl) ?_
 rintro _ w2 ⟨rfl, r2, m2, z2⟩
 refine WD (op_assign rfl) rfl ?_
 refine WL.end (NE.code (CE.seq (CE.region ?_)))
 refine WL.call (oc_call (vs := [vP w.heap.size 0, vP w1.heap.size 0]) (cap := []) rfl rfl rfl Try.call97 (c_l04SameX nR nS xS kc0 kc1 op lo re sl z cR bR PR loR cL bL PL loL cS bS cR' bR' PR' loR' cL' bL' PL' loL' cS' bS' w.heap.size w1.heap.size (by first | with_reducible assumption | exact DPz.mono (by with_reducible assumption) (by omega) | exact zTo_dz (by with_reducible assumption) (by with_reducible assumption) (by with_reducible first | assumption | exact bd_take (by assumption) _) (by omega)) lDR lDL lPR lPL lnS lPR' lPL' w2 (r1.ext m2).rng r2.rng ((rR.ext m1).ext m2) ((rL.ext m1).ext m2) ((rS.ext m1).ext m2) ((rR'.ext m1).ext m2) ((rL'.ext m1).ext m2) ((rS'.ext m1).ext m2) ((FR.ext m1).ext m2) ((FL.ext m1).ext m2) ((FR'.ext m1).ext m2) ((FL'.ext m1).ext m2))) rfl rfl (ltb rfl) ?_
 rintro _ w3 ⟨rfl, m3⟩
 refine WD (op_assign rfl) rfl ?_
 refine WL.end (NE.code (CE.ret' ?_))
 refine XE.leave1 Try.results37 rfl ?_
 refine ⟨rfl, ((((Mod.refl [] w).nt m1).nt m2).nt m3)⟩

theorem c_SamePipeX (nR : Nat) (nS : Nat) (xS : List Nat) (kc0 : Nat) (kc1 : Nat) (op : Bool) (lo : Nat) (re : Nat) (sl : Nat) (z : PipeSt) (cR : Nat) (bR : Nat) (PR : List BC) (loR : Nat) (cL : Nat) (bL : Nat) (PL : List BC) (loL : Nat) (cS : Nat) (bS : Nat) (y : PipeSt) (cR' : Nat) (bR' : Nat) (PR' : List BC) (loR' : Nat) (cL' : Nat) (bL' : Nat) (PL' : List BC) (loL' : Nat) (cS' : Nat) (bS' : Nat) (hdz : DPz nR nS xS kc0 kc1 lo re sl y 57) (lDR : z.R.length = nR) (lDL : z.L.length = nR) (lPR : PR.length = nR) (lPL : PL.length = nR) (lnS : xS.length = nS) (lPR' : PR'.length = nR) (lPL' : PL'.length = nR) (he : z = y) (lYR : y.R.length = nR) (lYL : y.L.length = nR) (w : World) (rR : Rng w bR 0 (olc z.R PR)) (rL : Rng w bL 0 (olc z.L PL)) (rS : Rng w bS 0 (fl xS)) (rR' : Rng w bR' 0 (olc y.R PR')) (rL' : Rng w bL' 0 (olc y.L PL')) (rS' : Rng w bS' 0 (fl xS))  (FR : OF loR w z.R PR) (FL : OF loL w z.L PL) (FR' : OF loR' w y.R PR') (FL' : OF loL' w y.L PL') : Cl Try.prog 37 #[.agg #[vS bR 0 nR cR, vS bL 0 nR cL, vS bS 0 nS cS, vI 1, vF kc0, vF kc1, vF 0, vF (z.s0), vF (z.s1), .bool op, vF lo, vF re, vF sl], .agg #[vS bR' 0 nR cR', vS bL' 0 nR cL', vS bS' 0 nS cS', vI 1, vF kc0, vF kc1, vF 0, vF (y.s0), vF (y.s1), .bool op, vF lo, vF re, vF sl]] w fun v w' => v = .bool true ∧ Mod [] w w' := by
  subst he
  exact c_SamePipeZ nR nS xS kc0 kc1 op lo re sl z cR bR PR loR cL bL PL loL cS bS cR' bR' PR' loR' cL' bL' PL' loL' cS' bS' hdz lDR lDL lPR lPL lnS lPR' lPL' w rR rL rS rR' rL' rS' FR FL FR' FL'

end Go.Proofs.Ytnahhdnkbbdceaa
