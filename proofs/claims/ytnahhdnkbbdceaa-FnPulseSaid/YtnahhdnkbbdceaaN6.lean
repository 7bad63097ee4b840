/- The pipes of the law on sections between which nothing is scattered. -/
import Derived.Test.YtnahhdnkbbdceaaN4
import Derived.Test.YtnahhdnkbbdceaaN5
set_option linter.unusedVariables false
set_option linter.unusedSimpArgs false
set_option maxRecDepth 100000
set_option maxHeartbeats 8000000
namespace Go.Proofs.Ytnahhdnkbbdceaa

def sixtW (u : Nat) : Nat := fop .quo .f32 (FloatKind.f32.nearest ((u : Nat) : Int)) 1098907648
theorem sixt_ok : ∀ u, u < 17 → (decide (sixtW u ≤ 1065353216) && (fGe .f32 (sixtW u) 0 && fLe .f32 (sixtW u) 1065353216)) = true := by decide +kernel
theorem eight8_ok : ∀ d, d < 8 → eighthB d = true := by decide +kernel
theorem eight8_all {d : Nat} (h : d < 8) : fop .quo .f32 (FloatKind.f32.nearest ((d : Nat) : Int)) 1090519040 = keepD (8 * d) ∧ lossD (8 * d) ≤ 1065353216 ∧ keepD (8 * d) ≤ 1065353216 ∧ (fGe .f32 (keepD (8 * d)) 0 && fLt .f32 (keepD (8 * d)) 1065353216) = true := by
  have := eight8_ok d h
  simp only [eighthB, Bool.and_eq_true, beq_iff_eq, decide_eq_true_eq] at this
  exact ⟨this.1.1.1, this.1.1.2, this.1.2, by rw [Bool.and_eq_true]; exact this.2⟩
/-- the numbers of the law's pipes -/
structure NX (c0 c1 lo : Nat) : Prop where
  e : c0 = fop .sub .f32 1065353216 c1
  b : CBd 1061158912 3200253952 lo c0 c1 [0]
  k : (fGe .f32 c1 0 && fLt .f32 c1 1065353216) = true
  l : (fGe .f32 lo 0 && fLe .f32 lo 1065353216) = true
theorem bd0 {x : Nat} (h : x ≤ 1065353216) : Bd x 0 := by unfold Bd; rw [Nat.mod_eq_of_lt (by omega)]; omega
theorem sc0_bd (i : Nat) : Bd (([0] : List Nat).getD i 0) 0 := by
  cases i with
  | zero => exact Bd.zero
  | succ i => exact Bd.zero
theorem NX.of {d u c0 c1 lo : Nat} (hd : d < 8) (h1 : cn .f32 c1 = cn .f32 (fop .quo .f32 (FloatKind.f32.nearest ((d : Nat) : Int)) 1090519040)) (h0 : cn .f32 c0 = cn .f32 (fop .sub .f32 1065353216 c1)) (hu : u < 17) (hl : cn .f32 lo = cn .f32 (fop .quo .f32 (FloatKind.f32.nearest ((u : Nat) : Int)) 1098907648)) : NX c0 c1 lo := by
  have ok := OkD.of (d := 8 * d) (by omega)
  have al := eight8_all hd
  have su := sixt_ok u hu
  simp only [Bool.and_eq_true, decide_eq_true_eq] at su
  have e1 : c1 = keepD (8 * d) := by rw [al.1] at h1; exact eq_of_cn h1 (not_nan9 ok.k)
  have e2 : lo = sixtW u := eq_of_cn hl (not_nan9 (show sixtW u < 2139095040 by have := su.1; omega))
  have e0 : c0 = lossD (8 * d) := by rw [e1] at h0; exact eq_of_cn h0 (not_nan9 ok.l)
  refine ⟨by rw [e0, e1]; rfl, ⟨by unfold Bd; omega, by unfold Bd; omega, by rw [e2]; exact bd0 su.1, by rw [e0]; exact bd0 al.2.1, by rw [e1]; exact bd0 al.2.2.1, sc0_bd⟩, by rw [e1]; exact al.2.2.2, by rw [e2, Bool.and_eq_true]; exact su.2⟩
theorem keep8_of {d c1 : Nat} (hd : d < 8) (h1 : cn .f32 c1 = cn .f32 (fop .quo .f32 (FloatKind.f32.nearest ((d : Nat) : Int)) 1090519040)) : (fGe .f32 c1 0 && fLt .f32 c1 1065353216) = true := by
  have ok := OkD.of (d := 8 * d) (by omega)
  have e1 : c1 = keepD (8 * d) := by rw [(eight8_all hd).1] at h1; exact eq_of_cn h1 (not_nan9 ok.k)
  rw [e1]; exact (eight8_all hd).2.2.2
theorem loss_of {u lo : Nat} (hu : u < 17) (hl : cn .f32 lo = cn .f32 (fop .quo .f32 (FloatKind.f32.nearest ((u : Nat) : Int)) 1098907648)) : (fGe .f32 lo 0 && fLe .f32 lo 1065353216) = true := by
  have su := sixt_ok u hu
  simp only [Bool.and_eq_true, decide_eq_true_eq] at su
  have e2 : lo = sixtW u := eq_of_cn hl (not_nan9 (show sixtW u < 2139095040 by have := su.1; omega))
  rw [e2, Bool.and_eq_true]; exact su.2
def TwoZ (z : PipeSt) : Prop := ∃ m n, 1 ≤ m ∧ m ≤ 12 ∧ 1 ≤ n ∧ n ≤ 12 ∧ z = zNewL [m, n]
def OneZ (z : PipeSt) : Prop := ∃ m, 1 ≤ m ∧ m ≤ 12 ∧ z = zNewL [m]
section
variable {m n c0 c1 lo : Nat}
theorem ringN_len : (ringN n).xs.length = n := List.length_replicate
theorem ringN_w : W32 (ringN n).xs := W32.zeros _
theorem ringN_v (h1 : 1 ≤ n) (h2 : n ≤ 12) : vRingF (ringN n).xs.length (ringN n).at_ (ringN n).xs = true := by
  rw [vRingF, Bool.and_eq_true, ringN_len]
  refine ⟨?_, List.all_eq_true.2 fun j _ => ?_⟩
  · unfold vRing
    rw [Bool.and_eq_true, vIn_t, vIn_t]
    refine ⟨⟨by omega, by omega⟩, Int.le_refl _, ?_⟩
    show (0 : Int) ≤ _
    omega
  · show finF ((List.replicate n 0).getD j 0) = true
    have : (List.replicate n 0).getD j 0 = 0 := by
      simp [List.getD_eq_getElem?_getD, List.getElem?_replicate]
      split <;> rfl
    rw [this]; exact fz0
theorem NX.fil (h : NX c0 c1 lo) : vFil 1 c0 c1 0 0 0 = true := by
  have f0 : finF c0 = true := fin_of (h.b.c0.fin (by omega))
  have f1 : finF c1 = true := fin_of (h.b.c1.fin (by omega))
  simp [vFil, usedF, usesC, usesS, List.range_succ, okF, f0, f1, fz0, cn_zero]
theorem NX.rest (h : NX c0 c1 lo) : allF [lo, 1061158912, 3200253952] 3 = true := by
  have f0 : finF lo = true := fin_of (h.b.lo.fin (by omega))
  have f9 : finF 1061158912 = true := by decide +kernel
  have f8 : finF 3200253952 = true := by decide +kernel
  simp [allF, List.range_succ, f0, f9, f8]
theorem NX.v1 (h : NX c0 c1 lo) (h1 : 1 ≤ m) (h2 : m ≤ 12) : vPipe 1 1 0 (zNewL [m]).R (zNewL [m]).L [] 1 c0 c1 0 0 0 lo 1061158912 3200253952 = true := by
  have a : vRings (zNewL [m]).R 1 = true := by
    show (true && vRingF (ringN m).xs.length (ringN m).at_ (ringN m).xs) = true
    rw [ringN_v h1 h2]; rfl
  have b : vLens (zNewL [m]).R (zNewL [m]).L 1 = true := by
    show (true && _) = true
    rw [Bool.true_and]; exact beq_self_eq_true _
  have a' : vRings (zNewL [m]).L 1 = true := a
  rw [vPipe_eq (by omega) (by omega) rfl rfl, a, a', b, h.fil, h.rest]; rfl
theorem NX.v2 (h : NX c0 c1 lo) (h1 : 1 ≤ m) (h2 : m ≤ 12) (g1 : 1 ≤ n) (g2 : n ≤ 12) : vPipe 2 2 1 (zNewL [m, n]).R (zNewL [m, n]).L [0] 1 c0 c1 0 0 0 lo 1061158912 3200253952 = true := by
  have a : vRings (zNewL [m, n]).R 2 = true := by
    show ((true && vRingF (ringN m).xs.length (ringN m).at_ (ringN m).xs) && vRingF (ringN n).xs.length (ringN n).at_ (ringN n).xs) = true
    rw [ringN_v h1 h2, ringN_v g1 g2]; rfl
  have b : vLens (zNewL [m, n]).R (zNewL [m, n]).L 2 = true := by
    show ((true && _) && _) = true
    rw [Bool.true_and, Bool.and_eq_true]; exact ⟨beq_self_eq_true _, beq_self_eq_true _⟩
  have s : vSc [0] 1 = true := by decide +kernel
  have a' : vRings (zNewL [m, n]).L 2 = true := a
  rw [vPipe_eq (by omega) (by omega) rfl rfl, a, a', b, s, h.fil, h.rest]; rfl
end
/-- what two pipes make is the same -/
theorem cn_two {xs ys ss : List Nat} {x y : PipeSt} {m n c0 c0' c1 lo : Nat} {op : Bool} (h1 : Cn xs (outs (pipeOut 2 1 [0] 1 c0 c1 0 op lo 1061158912 3200253952 x (fun j => ss.getD j 0)) 40)) (h2 : Cn ys (outs (pipeOut 1 0 [] 1 c0' c1 0 op lo 1061158912 3200253952 y (fun j => ss.getD j 0)) 40))
    (e1 : x = zNewL [m, n]) (e2 : y = zNewL [m + n]) (a : NX c0 c1 lo) (b : NX c0' c1 lo) (hf : ∀ j, Bd (ss.getD j 0) 2) (hm : 0 < m) (hn : 0 < n) : Cn xs ys := by
  have e : c0' = c0 := b.e.trans a.e.symm
  rw [e, e2] at h2
  rw [e1] at h1
  have k : outs (pipeOut 2 1 [0] 1 c0 c1 0 op lo 1061158912 3200253952 (zNewL [m, n]) (fun j => ss.getD j 0)) 40 = outs (pipeOut 1 0 [] 1 c0 c1 0 op lo 1061158912 3200253952 (zNewL [m + n]) (fun j => ss.getD j 0)) 40 :=
    outs_congr fun q hq => two_out (x := zNewL [m, n]) (y := zNewL [m + n]) a.b (two_new hm hn) (newK _) (newB _ _) (f := fun j => ss.getD j 0) hf (by omega)
  rw [k] at h1
  exact h1.trans h2.symm
theorem cn_beq6 {xs ys : List Nat} (h : Cn xs ys) (i : Nat) : (cn .f32 (xs.getD i 0) == cn .f32 (ys.getD i 0)) = true := by rw [h.get i]; exact beq_self_eq_true _

theorem c_sameListX (n : Nat) (c : Nat) (A : Option Addr) (b : Nat) (xs : List Nat) (c' : Nat) (A' : Option Addr) (d' : Nat) (ys : List Nat) (hA : 0 < n → A = some ⟨b, 0, none⟩) (hA' : 0 < n → A' = some ⟨d', 0, none⟩) (ln : xs.length = n) (lm : ys.length = n) (he : Cn xs ys) (hn : n ≤ 1048576) (w : World) (r : Rng w b 0 (fl xs)) (rr : Rng w d' 0 (fl ys)) : Cl Try.prog 78 #[.slice A n c, .slice A' n c'] w fun v w' => v = .bool true ∧ Mod [] w w' := by
 refine Cl.of Try.func78 Try.ntmps78 rfl rfl (ρ := [(0, .slice A n c), (1, .slice A' n c')]) rfl ?_
 refine CE.seq (CE.region ?_)
 refine WD (op_assign rfl) rfl ?_
 refine WL.end (NE.code (CE.seq (CE.seq (CE.region ?_))))
 refine WD (op_move rfl) rfl ?_
 refine WD (op_len rfl Try.runUnderlying26) rfl ?_
 refine WD (op_move rfl) rfl ?_
 refine WD (op_len rfl Try.runUnderlying26) rfl ?_
 refine WD (op_nei_f rfl rfl rfl) rfl ?_
 refine WL.end (NE.code ?_)
 refine CE.cond_f rfl rfl ?_
 refine CE.skip' (NE.code (CE.seq (CE.seq (CE.region ?_))))
 refine WD (op_assign rfl) rfl ?_
 refine WL.end (NE.code (CE.block ?_))
 refine CE.loop (fun (i : Nat) => [(5, vI ((i : Nat) : Int)), (0, .slice A n c), (1, .slice A' n c'), (4, .bool false)]) (fun (i : Nat) => fun W => (i ≤ n) ∧ Mod [] w W) (fun (i : Nat) => n - i) 0 (⟨rfl, rfl, rfl, rfl, trivial⟩) ⟨(by omega), Mod.refl _ _⟩ ?_
 rintro i w1 ⟨hi, m1⟩
 show CE _ _ _ _ [(5, vI ((i : Nat) : Int)), (0, .slice A n c), (1, .slice A' n c'), (4, .bool false)] _
 refine CE.seq (CE.seq (CE.region ?_))
 iterate 2 refine WD (op_move rfl) rfl ?_
 refine WD (op_len rfl Try.runUnderlying26) rfl ?_
 refine WD (op_lti rfl rfl) rfl ?_
 refine WL.end (NE.code ?_)
 rcases Bool.eq_false_or_eq_true (decide (((i : Nat) : Int) < ((n : Nat) : Int))) with hb1 | hb1
 ·have hp1 := of_decide_eq_true hb1
  refine CE.cond_t rfl hb1 ?_
  refine CE.skip' (NE.code (CE.seq (CE.block (CE.seq ?_))))
  refine CE.draw (fun _ => none) [0, 1, 2, 3, 4, 5, 6, 7] [8, 9] [] (by kernel_rfl) (by kernel_rfl) ?_
  have md1 : Mod [] w1 w1.drew := (Mod.refl _ _).drew
  generalize w1.drew = w2 at md1 ⊢
  refine DD 0 rfl (by kernel_rfl) rfl (fun wD mD => op_move rfl) ?_
  refine DD 1 rfl (by kernel_rfl) rfl (fun wD mD => op_move rfl) ?_
  refine DD 2 rfl (by kernel_rfl) rfl (fun wD mD => op_indexSl (off' := 0 + i) rfl (hA (by omega)) rfl Try.runUnderlying26 Try.sizeOf27 (by omega) (by omega) (by omega)) ?_
  refine DD 3 rfl (by kernel_rfl) rfl (fun wD mD => op_load1 (i := i) rfl Try.isAgg27 (((r.ext m1).ext md1).ext mD) rfl (fl_get (by have eL : List.length xs = n := ln; omega))) ?_
  refine DD 4 rfl (by kernel_rfl) rfl (fun wD mD => op_move rfl) ?_
  refine DD 5 rfl (by kernel_rfl) rfl (fun wD mD => op_move rfl) ?_
  refine DD 6 rfl (by kernel_rfl) rfl (fun wD mD => op_indexSl (off' := 0 + i) rfl (hA' (by omega)) rfl Try.runUnderlying26 Try.sizeOf27 (by omega) (by omega) (by omega)) ?_
  refine DD 7 rfl (by kernel_rfl) rfl (fun wD mD => op_load1 (i := i) rfl Try.isAgg27 (((rr.ext m1).ext md1).ext mD) rfl (fl_get (by have eL : List.length ys = n := lm; omega))) ?_
  refine DR.done rfl ?_
  intro w3 m2
  refine WO.call rfl (.free rfl) rfl (ltb rfl) (oc_call (vs := [vF (xs.getD i 0), vF (ys.getD i 0)]) (cap := []) rfl rfl rfl Try.call128 (c_l01Same (xs.getD i 0) (xs.getD i 0) (ys.getD i 0) (ys.getD i 0) rfl rfl w3)) ?_
  rintro _ _ ⟨rfl, rfl⟩
  refine WO.det (op_not rfl) rfl (.free rfl) rfl rfl ?_
  refine WO.end (NE.code ?_)
  refine CE.cond_f rfl (bnot_t (cn_beq6 he i)) ?_
  refine CE.skip' (NE.blk (NE.code (CE.region ?_)))
  refine WD (op_move rfl) rfl ?_
  refine WD (op_add (r := ((i + 1 : Nat) : Int)) rfl rfl (w_i64 (by omega) (by omega))) rfl ?_
  refine WD (op_assign rfl) rfl ?_
  refine WL.end ?_
  exact NE.again (i + 1) (⟨rfl, rfl, rfl, rfl, trivial⟩) ⟨(by omega), ((m1.nt md1).nt m2)⟩ (by first | (dsimp only; omega) | omega)
 ·have hp1 := of_decide_eq_false hb1
  refine CE.cond_f rfl hb1 ?_
  refine CE.exit' (XE.exit_then (XE.exit_then (XE.exit_here (NE.code (CE.seq (CE.region ?_))))))
  refine WD (op_assign rfl) rfl ?_
  refine WL.end (NE.code (CE.ret' ?_))
  refine XE.leave1 Try.results78 rfl ?_
  refine ⟨rfl, ((Mod.refl [] w).nt m1)⟩

end Go.Proofs.Ytnahhdnkbbdceaa
