/- The pipes of the law on sections between which nothing is scattered. -/
import Derived.Test.YtnahhdnkbbdceaaN4
import Derived.Test.YtnahhdnkbbdceaaN5
set_option linter.unusedVariables false
set_option linter.unusedSimpArgs false
set_option maxRecDepth 100000
set_option maxHeartbeats 8000000
namespace Go.Proofs.Ytnahhdnkbbdceaa

def sixtW (u : Nat) : Nat := fop .quo .f32 (FloatKind.f32.nearest ((u : Nat) : Int)) 1098907648
theorem sixt_ok : ∀ u, u < 17 → (decide (sixtW u ≤ 1065353216) && (fGe .f32 (sixtW u) 0 && fLe .f32 (sixtW u) 1065353216)) = true := by decide +kernel
theorem eight8_ok : ∀ d, d < 8 → eighthB d = true := by decide +kernel
theorem eight8_all {d : Nat} (h : d < 8) : fop .quo .f32 (FloatKind.f32.nearest ((d : Nat) : Int)) 1090519040 = keepD (8 * d) ∧ lossD (8 * d) ≤ 1065353216 ∧ keepD (8 * d) ≤ 1065353216 ∧ (fGe .f32 (keepD (8 * d)) 0 && fLt .f32 (keepD (8 * d)) 1065353216) = true := by
  have := eight8_ok d h
  simp only [eighthB, Bool.and_eq_true, beq_iff_eq, decide_eq_true_eq] at this
  exact ⟨this.1.1.1, this.1.1.2, this.1.2, by rw [Bool.and_eq_true]; exact this.2⟩
/-- the numbers of the law's pipes -/
structure NX (c0 c1 lo : Nat) : Prop where
  e : c0 = fop .sub .f32 1065353216 c1
  b : CBd 1061158912 3200253952 lo c0 c1 [0]
  k : (fGe .f32 c1 0 && fLt .f32 c1 1065353216) = true
  l : (fGe .f32 lo 0 && fLe .f32 lo 1065353216) = true
theorem bd0 {x : Nat} (h : x ≤ 1065353216) : Bd x 0 := by unfold Bd; rw [Nat.mod_eq_of_lt (by omega)]; omega
theorem sc0_bd (i : Nat) : Bd (([0] : List Nat).getD i 0) 0 := by
  cases i with
  | zero => exact Bd.zero
  | succ i => exact Bd.zero
theorem NX.of {d u c0 c1 lo : Nat} (hd : d < 8) (h1 : cn .f32 c1 = cn .f32 (fop .quo .f32 (FloatKind.f32.nearest ((d : Nat) : Int)) 1090519040)) (h0 : cn .f32 c0 = cn .f32 (fop .sub .f32 1065353216 c1)) (hu : u < 17) (hl : cn .f32 lo = cn .f32 (fop .quo .f32 (FloatKind.f32.nearest ((u : Nat) : Int)) 1098907648)) : NX c0 c1 lo := by
  have ok := OkD.of (d := 8 * d) (by omega)
  have al := eight8_all hd
  have su := sixt_ok u hu
  simp only [Bool.and_eq_true, decide_eq_true_eq] at su
  have e1 : c1 = keepD (8 * d) := by rw [al.1] at h1; exact eq_of_cn h1 (not_nan9 ok.k)
  have e2 : lo = sixtW u := eq_of_cn hl (not_nan9 (show sixtW u < 2139095040 by have := su.1; omega))
  have e0 : c0 = lossD (8 * d) := by rw [e1] at h0; exact eq_of_cn h0 (not_nan9 ok.l)
  refine ⟨by rw [e0, e1]; rfl, ⟨by unfold Bd; omega, by unfold Bd; omega, by rw [e2]; exact bd0 su.1, by rw [e0]; exact bd0 al.2.1, by rw [e1]; exact bd0 al.2.2.1, sc0_bd⟩, by rw [e1]; exact al.2.2.2, by rw [e2, Bool.and_eq_true]; exact su.2⟩
theorem keep8_of {d c1 : Nat} (hd : d < 8) (h1 : cn .f32 c1 = cn .f32 (fop .quo .f32 (FloatKind.f32.nearest ((d : Nat) : Int)) 1090519040)) : (fGe .f32 c1 0 && fLt .f32 c1 1065353216) = true := by
  have ok := OkD.of (d := 8 * d) (by omega)
  have e1 : c1 = keepD (8 * d) := by rw [(eight8_all hd).1] at h1; exact eq_of_cn h1 (not_nan9 ok.k)
  rw [e1]; exact (eight8_all hd).2.2.2
theorem loss_of {u lo : Nat} (hu : u < 17) (hl : cn .f32 lo = cn .f32 (fop .quo .f32 (FloatKind.f32.nearest ((u : Nat) : Int)) 1098907648)) : (fGe .f32 lo 0 && fLe .f32 lo 1065353216) = true := by
  have su := sixt_ok u hu
  simp only [Bool.and_eq_true, decide_eq_true_eq] at su
  have e2 : lo = sixtW u := eq_of_cn hl (not_nan9 (show sixtW u < 2139095040 by have := su.1; omega))
  rw [e2, Bool.and_eq_true]; exact su.2
def TwoZ (z : PipeSt) : Prop := ∃ m n, 1 ≤ m ∧ m ≤ 12 ∧ 1 ≤ n ∧ n ≤ 12 ∧ z = zNewL [m, n]
def OneZ (z : PipeSt) : Prop := ∃ m, 1 ≤ m ∧ m ≤ 12 ∧ z = zNewL [m]
section
variable {m n c0 c1 lo : Nat}
theorem ringN_len : (ringN n).xs.length = n := List.length_replicate
theorem ringN_v (h1 : 1 ≤ n) (h2 : n ≤ 12) : vRingF (ringN n).xs.length (ringN n).at_ (ringN n).xs = true := by
  rw [vRingF, Bool.and_eq_true, ringN_len]
  refine ⟨?_, List.all_eq_true.2 fun j _ => ?_⟩
  · unfold vRing
    rw [Bool.and_eq_true, vIn_t, vIn_t]
    refine ⟨⟨by omega, by omega⟩, Int.le_refl _, ?_⟩
    show (0 : Int) ≤ _
    omega
  · show finF ((List.replicate n 0).getD j 0) = true
    have : (List.replicate n 0).getD j 0 = 0 := by
      simp [List.getD_eq_getElem?_getD, List.getElem?_replicate]
      split <;> rfl
    rw [this]; exact fz0
theorem rep_len : (List.replicate n 0).length = n := List.length_replicate
/-- rings that are new -/
theorem lens1 {P : Nat → Prop} (h : P m) (h0 : P 0) (i : Nat) : P ((((zNewL [m]).R).getD i RD.d).xs.length) := by
  match i with
  | 0 => show P (List.replicate m 0).length; rw [rep_len]; exact h
  | i + 1 => exact h0
theorem lens2 {P : Nat → Prop} (h : P m) (h' : P n) (h0 : P 0) (i : Nat) : P ((((zNewL [m, n]).R).getD i RD.d).xs.length) := by
  match i with
  | 0 => show P (List.replicate m 0).length; rw [rep_len]; exact h
  | 1 => show P (List.replicate n 0).length; rw [rep_len]; exact h'
  | i + 2 => exact h0
theorem pos1 (h : 1 ≤ m) (i : Nat) (hi : i < 1) : 0 < (((zNewL [m]).R).getD i RD.d).xs.length := by
  obtain rfl : i = 0 := by omega
  show 0 < (List.replicate m 0).length
  rw [rep_len]; omega
theorem pos2 (h : 1 ≤ m) (h' : 1 ≤ n) (i : Nat) (hi : i < 2) : 0 < (((zNewL [m, n]).R).getD i RD.d).xs.length := by
  match i, hi with
  | 0, _ => show 0 < (List.replicate m 0).length; rw [rep_len]; omega
  | 1, _ => show 0 < (List.replicate n 0).length; rw [rep_len]; omega
theorem good1 (h : 1 ≤ m) : GoodD (zNewL [m]).R 1 := ⟨fun i hi => by
    obtain rfl : i = 0 := by omega
    exact Int.le_refl _, fun i hi => by
    have := pos1 h i hi
    obtain rfl : i = 0 := by omega
    exact Int.ofNat_lt.2 this, fun i => by
    match i with
    | 0 => exact W32.zeros _
    | i + 1 => exact W32.nil⟩
theorem good2 (h : 1 ≤ m) (h' : 1 ≤ n) : GoodD (zNewL [m, n]).R 2 := ⟨fun i hi => by
    match i, hi with
    | 0, _ => exact Int.le_refl _
    | 1, _ => exact Int.le_refl _, fun i hi => by
    have := pos2 h h' i hi
    match i, hi with
    | 0, _ => exact Int.ofNat_lt.2 this
    | 1, _ => exact Int.ofNat_lt.2 this, fun i => by
    match i with
    | 0 => exact W32.zeros _
    | 1 => exact W32.zeros _
    | i + 2 => exact W32.nil⟩
theorem NX.fil (h : NX c0 c1 lo) : vFil 1 c0 c1 0 0 0 = true := by
  have f0 : finF c0 = true := fin_of (h.b.c0.fin (by omega))
  have f1 : finF c1 = true := fin_of (h.b.c1.fin (by omega))
  simp [vFil, usedF, usesC, usesS, List.range_succ, okF, f0, f1, fz0, cn_zero]
theorem NX.rest (h : NX c0 c1 lo) : allF [lo, 1061158912, 3200253952] 3 = true := by
  have f0 : finF lo = true := fin_of (h.b.lo.fin (by omega))
  have f9 : finF 1061158912 = true := by decide +kernel
  have f8 : finF 3200253952 = true := by decide +kernel
  simp [allF, List.range_succ, f0, f9, f8]
theorem NX.v1 (h : NX c0 c1 lo) (h1 : 1 ≤ m) (h2 : m ≤ 12) : vPipe 1 1 0 (zNewL [m]).R (zNewL [m]).L [] 1 c0 c1 0 0 0 lo 1061158912 3200253952 = true := by
  have a : vRings (zNewL [m]).R 1 = true := by
    show (true && vRingF (ringN m).xs.length (ringN m).at_ (ringN m).xs) = true
    rw [ringN_v h1 h2]; rfl
  have b : vLens (zNewL [m]).R (zNewL [m]).L 1 = true := by
    show (true && _) = true
    rw [Bool.true_and]; exact beq_self_eq_true _
  have a' : vRings (zNewL [m]).L 1 = true := a
  rw [vPipe_eq (by omega) (by omega) rfl rfl, a, a', b, h.fil, h.rest]; rfl
theorem NX.v2 (h : NX c0 c1 lo) (h1 : 1 ≤ m) (h2 : m ≤ 12) (g1 : 1 ≤ n) (g2 : n ≤ 12) : vPipe 2 2 1 (zNewL [m, n]).R (zNewL [m, n]).L [0] 1 c0 c1 0 0 0 lo 1061158912 3200253952 = true := by
  have a : vRings (zNewL [m, n]).R 2 = true := by
    show ((true && vRingF (ringN m).xs.length (ringN m).at_ (ringN m).xs) && vRingF (ringN n).xs.length (ringN n).at_ (ringN n).xs) = true
    rw [ringN_v h1 h2, ringN_v g1 g2]; rfl
  have b : vLens (zNewL [m, n]).R (zNewL [m, n]).L 2 = true := by
    show ((true && _) && _) = true
    rw [Bool.true_and, Bool.and_eq_true]; exact ⟨beq_self_eq_true _, beq_self_eq_true _⟩
  have s : vSc [0] 1 = true := by decide +kernel
  have a' : vRings (zNewL [m, n]).L 2 = true := a
  rw [vPipe_eq (by omega) (by omega) rfl rfl, a, a', b, s, h.fil, h.rest]; rfl
end
/-- what two pipes make is the same -/
theorem cn_two {xs ys ss : List Nat} {x y : PipeSt} {m n c0 c0' c1 lo : Nat} {op : Bool} (h1 : Cn xs (outs (pipeOut 2 1 [0] 1 c0 c1 0 op lo 1061158912 3200253952 x (fun j => ss.getD j 0)) 40)) (h2 : Cn ys (outs (pipeOut 1 0 [] 1 c0' c1 0 op lo 1061158912 3200253952 y (fun j => ss.getD j 0)) 40))
    (e1 : x = zNewL [m, n]) (e2 : y = zNewL [m + n]) (a : NX c0 c1 lo) (b : NX c0' c1 lo) (hf : ∀ j, Bd (ss.getD j 0) 2) (hm : 0 < m) (hn : 0 < n) : Cn xs ys := by
  have e : c0' = c0 := b.e.trans a.e.symm
  rw [e, e2] at h2
  rw [e1] at h1
  have k : outs (pipeOut 2 1 [0] 1 c0 c1 0 op lo 1061158912 3200253952 (zNewL [m, n]) (fun j => ss.getD j 0)) 40 = outs (pipeOut 1 0 [] 1 c0 c1 0 op lo 1061158912 3200253952 (zNewL [m + n]) (fun j => ss.getD j 0)) 40 :=
    outs_congr fun q hq => two_out (x := zNewL [m, n]) (y := zNewL [m + n]) a.b (two_new hm hn) (newK _) (newB _ _) (f := fun j => ss.getD j 0) hf (by omega)
  rw [k] at h1
  exact h1.trans h2.symm
theorem cn_beq6 {xs ys : List Nat} (h : Cn xs ys) (i : Nat) : (cn .f32 (xs.getD i 0) == cn .f32 (ys.getD i 0)) = true := by rw [h.get i]; exact beq_self_eq_true _

theorem c_P6Plains40 (n : Nat) (c : Nat) (A : Option Addr) (b : Nat) (o : Nat) (xs : List Nat) (ln : xs.length = n) (hA : 0 < n → A = some ⟨b, o, none⟩) (hB : ∀ i, xs.getD i 0 < 256) (hn : n ≤ 4611686018427387904) (w : World) (r : Rng w b o (bys xs)) : Cl Try.prog 18 #[.slice A n c, vI 40] w fun v w' => ∃ (Lq : List Nat) (b' : Nat) (c' : Nat) (A' : Option Addr), v = .slice A' 40 c' ∧ (Lq.length = 40) ∧ (W32 Lq) ∧ (0 < 40 → A' = some ⟨b', 0, none⟩) ∧ (∀ j, Bd (Lq.getD j 0) 2) ∧ Row w' b' 0 (fl Lq) ∧ w.heap.size ≤ b' ∧ Mod [] w w' := by
 refine Cl.of Try.func18 Try.ntmps18 rfl rfl (ρ := [(0, .slice A n c), (1, vI 40)]) rfl ?_
 refine CE.seq (CE.region ?_)
 refine WL.det (op_assign rfl) rfl rfl rfl ?_
 refine WL.end (NE.code (CE.seq (CE.region ?_)))
 refine WL.det (op_move rfl) rfl rfl rfl ?_
 refine WL.call (oc_call (vs := [.slice A n c]) (cap := []) rfl rfl rfl Try.call53 (c_l00From n c A b o hA w)) rfl rfl (ltb rfl) ?_
 rintro _ w1 ⟨p'1, rfl, r1, ge1, m1⟩
 refine WL.det (op_assign rfl) rfl rfl rfl ?_
 refine WL.end (NE.code (CE.seq (CE.region ?_)))
 refine WL.op (op_emptySl rfl Try.runUnderlying26 Try.sizeOf27) rfl rfl (ltb rfl) ?_
 rintro _ w2 ⟨rfl, r2, m2, z1⟩
 refine WL.det (op_assign rfl) rfl rfl rfl ?_
 refine WL.end (NE.code (CE.seq (CE.seq (CE.region ?_))))
 refine WL.det (op_assign rfl) rfl rfl rfl ?_
 refine WL.end (NE.code (CE.block ?_))
 refine CE.loop (fun (z : Nat × Nat × Nat × Option Addr × Nat × List Nat) => [(7, vI ((z.1 : Nat) : Int)), (6, .slice z.2.2.2.1 z.1 z.2.2.2.2.1), (1, vI 40), (4, .slice none 0 0), (5, vP p'1 0)]) (fun (z : Nat × Nat × Nat × Option Addr × Nat × List Nat) => fun W => (z.1 ≤ 40) ∧ (z.2.1 ≤ 8 * z.1) ∧ (z.2.2.1 < 18446744073709551616) ∧ (z.2.2.2.2.2.length = z.1) ∧ (W32 z.2.2.2.2.2) ∧ (∀ j, Bd (z.2.2.2.2.2.getD j 0) 2) ∧ Row W p'1 0 [.slice A n c, vI ((z.2.1 : Nat) : Int), .int .u64 ((z.2.2.1 : Nat) : Int)] ∧ Own 27 1 w2.heap.size W z.2.2.2.1 z.1 z.2.2.2.2.1 (fl z.2.2.2.2.2) ∧ Mod [p'1] w2 W) (fun (z : Nat × Nat × Nat × Option Addr × Nat × List Nat) => 40 - z.1) (0, 0, 0, (some ⟨w1.heap.size, 0, none⟩), 0, []) (⟨rfl, rfl, rfl, rfl, rfl, trivial⟩) ⟨(by omega), (by dsimp only; omega), (by dsimp only; omega), (by rfl), (by exact W32.nil), (by exact bd_nil), (Row.congr (r1.ext m2) rfl), (Own.congr Own.emp (rfl)), Mod.refl _ _⟩ ?_
 rintro ⟨i, at_, s, A2, cc, ys⟩ w3 ⟨hi, ha, hs, hly, hwy, hb9, r3, ow1, m3⟩
 replace hi : i ≤ 40 := hi
 replace ha : at_ ≤ 8 * i := ha
 replace hs : s < 18446744073709551616 := hs
 replace hly : ys.length = i := hly
 replace hwy : W32 ys := hwy
 replace hb9 : ∀ j, Bd (ys.getD j 0) 2 := hb9
 replace r3 : Row w3 p'1 0 [.slice A n c, vI ((at_ : Nat) : Int), .int .u64 ((s : Nat) : Int)] := r3
 replace ow1 : Own 27 1 w2.heap.size w3 A2 i cc (fl ys) := ow1
 show CE _ _ _ _ [(7, vI ((i : Nat) : Int)), (6, .slice A2 i cc), (1, vI 40), (4, .slice none 0 0), (5, vP p'1 0)] _
 refine CE.seq (CE.seq (CE.region ?_))
 iterate 2 refine WL.det (op_move rfl) rfl rfl rfl ?_
 refine WL.det (op_lti rfl rfl) rfl rfl rfl ?_
 refine WL.end (NE.code ?_)
 rcases Bool.eq_false_or_eq_true (decide (((i : Nat) : Int) < (40 : Int))) with hb1 | hb1
 ·have hp1 := of_decide_eq_true hb1
  refine CE.cond_t rfl hb1 ?_
  refine CE.skip' (NE.code (CE.seq (CE.block (CE.region ?_))))
  iterate 2 refine WL.det (op_move rfl) rfl rfl rfl ?_
  refine WL.call (oc_call (vs := [vP p'1 0]) (cap := []) rfl rfl rfl Try.call61 (c_l01PlainN n c A b o xs at_ s p'1 ln hA hB (by omega) (by omega) (by omega) (by first | assumption | (intro h0; have hlt := Rng.lt r (by rw [bys_len, ln]; exact h0); omega)) w3 r3 (Rng.youngS r ((r.ext m1).ext m2) m3 (allge_cons ge1 allge_nil)))) rfl rfl (ltb rfl) ?_
  rintro _ w4 ⟨r_1, a1, s1, rfl, h1, h2, h3, h4, r4, m4⟩
  refine WL.op (op_buildSl (qs := [(0, vF r_1)]) (cells := #[vF r_1]) rfl Try.runUnderlying26 Try.sizeOf27 Try.zeroValue27 (by decide) (by decide) (by kernel_rfl)) rfl rfl (ltb rfl) ?_
  rintro _ w5 ⟨rfl, r5, m5, z2⟩
  refine WL.op (op_app (i := Try.t27) (m := 1) (bt := 4) (news := [vF r_1]) rfl rfl Try.underlying26 rfl rfl rfl rfl rfl (by decide) r5.rng rfl rfl ((ow1.mod m4 (altC (lL r1.lt m2.size) altN)).ext m5) (lT (lT m3.size m4.size) m5.size) (by omega) (by decide)) rfl rfl (ltb rfl) ?_
  rintro _ w6 ⟨A1, c1, b1, rfl, ow2, ge2, m6⟩
  refine WL.det (op_assign rfl) rfl rfl rfl ?_
  refine WL.end (NE.blk (NE.code (CE.region ?_)))
  refine WL.det (op_move rfl) rfl rfl rfl ?_
  refine WL.det (op_add (r := ((i + 1 : Nat) : Int)) rfl rfl (w_i64 (by omega) (by omega))) rfl rfl rfl ?_
  refine WL.det (op_assign rfl) rfl rfl rfl ?_
  refine WL.end ?_
  exact NE.again ((i + 1), a1, s1, A1, c1, (ys ++ [r_1])) (⟨rfl, rfl, rfl, rfl, rfl, trivial⟩) ⟨(by dsimp only; omega), (by dsimp only; omega), (by assumption), (by simp [hly]), (by exact W32.snoc hwy (by assumption)), (by exact bd_snoc hb9 (by assumption)), (Row.congr ((r4.ext m5).mod m6 (nC (lE (lL (lL r1.lt m2.size) ge2)) nN)) rfl), (Own.congr ow2 (fl_snoc _ _)), (((m3.then m4 ((aC (.inl (by simp)) aN))).nt m5).then m6 ((aC (.inr ge2) aN)))⟩ (by first | (dsimp only; omega) | omega)
 ·have hp1 := of_decide_eq_false hb1
  refine CE.cond_f rfl hb1 ?_
  refine CE.exit' (XE.exit_then (XE.exit_then (XE.exit_here (NE.code (CE.seq (CE.region ?_))))))
  refine WL.det (op_move rfl) rfl rfl rfl ?_
  refine WL.det (op_assign rfl) rfl rfl rfl ?_
  refine WL.end (NE.code (CE.ret' ?_))
  have ei : 40 = i := by omega
  subst ei
  obtain ⟨b2, hA1, r6, hq1⟩ := Own.out ow1 r3
  refine XE.leave1 Try.results18 rfl ?_
  refine ⟨ys, b2, cc, A2, rfl, ?_, ?_, hA1, ?_, r6, (own_ge hq1 ge1 (lT m1.size m2.size)), ((((Mod.refl [] w).nt m1).nt m2).then m3 ((aC (.inr ge1) aN)))⟩
  all_goals first | assumption | rfl | omega

theorem c_sameListX (n : Nat) (c : Nat) (A : Option Addr) (b : Nat) (xs : List Nat) (c' : Nat) (A' : Option Addr) (d' : Nat) (ys : List Nat) (hA : 0 < n → A = some ⟨b, 0, none⟩) (hA' : 0 < n → A' = some ⟨d', 0, none⟩) (ln : xs.length = n) (lm : ys.length = n) (he : Cn xs ys) (hn : n ≤ 1048576) (w : World) (r : Rng w b 0 (fl xs)) (rr : Rng w d' 0 (fl ys)) : Cl Try.prog 78 #[.slice A n c, .slice A' n c'] w fun v w' => v = .bool true ∧ Mod [] w w' := by
 refine Cl.of Try.func78 Try.ntmps78 rfl rfl (ρ := [(0, .slice A n c), (1, .slice A' n c')]) rfl ?_
 refine CE.seq (CE.region ?_)
 refine WL.det (op_assign rfl) rfl rfl rfl ?_
 refine WL.end (NE.code (CE.seq (CE.seq (CE.region ?_))))
 refine WL.det (op_move rfl) rfl rfl rfl ?_
 refine WL.det (op_len rfl Try.runUnderlying26) rfl rfl rfl ?_
 refine WL.det (op_move rfl) rfl rfl rfl ?_
 refine WL.det (op_len rfl Try.runUnderlying26) rfl rfl rfl ?_
 refine WL.det (op_nei_f rfl rfl rfl) rfl rfl rfl ?_
 refine WL.end (NE.code ?_)
 refine CE.cond_f rfl rfl ?_
 refine CE.skip' (NE.code (CE.seq (CE.seq (CE.region ?_))))
 refine WL.det (op_assign rfl) rfl rfl rfl ?_
 refine WL.end (NE.code (CE.block ?_))
 refine CE.loop (fun (i : Nat) => [(5, vI ((i : Nat) : Int)), (0, .slice A n c), (1, .slice A' n c'), (4, .bool false)]) (fun (i : Nat) => fun W => (i ≤ n) ∧ Mod [] w W) (fun (i : Nat) => n - i) 0 (⟨rfl, rfl, rfl, rfl, trivial⟩) ⟨(by omega), Mod.refl _ _⟩ ?_
 rintro i w1 ⟨hi, m1⟩
 show CE _ _ _ _ [(5, vI ((i : Nat) : Int)), (0, .slice A n c), (1, .slice A' n c'), (4, .bool false)] _
 refine CE.seq (CE.seq (CE.region ?_))
 iterate 2 refine WL.det (op_move rfl) rfl rfl rfl ?_
 refine WL.det (op_len rfl Try.runUnderlying26) rfl rfl rfl ?_
 refine WL.det (op_lti rfl rfl) rfl rfl rfl ?_
 refine WL.end (NE.code ?_)
 rcases Bool.eq_false_or_eq_true (decide (((i : Nat) : Int) < ((n : Nat) : Int))) with hb1 | hb1
 ·have hp1 := of_decide_eq_true hb1
  refine CE.cond_t rfl hb1 ?_
  refine CE.skip' (NE.code (CE.seq (CE.block (CE.seq ?_))))
  refine CE.draw (fun _ => none) [0, 1, 2, 3, 4, 5, 6, 7] [8, 9] [] (by kernel_rfl) (by kernel_rfl) ?_
  have md1 : Mod [] w1 w1.drew := (Mod.refl _ _).drew
  generalize w1.drew = w2 at md1 ⊢
  refine DR.det (i := 0) rfl rfl (by kernel_rfl) (.free rfl) rfl rfl (fun wD mD => op_move rfl) ?_
  refine DR.det (i := 1) rfl rfl (by kernel_rfl) (.free rfl) rfl rfl (fun wD mD => op_move rfl) ?_
  refine DR.det (i := 2) rfl rfl (by kernel_rfl) (.free rfl) rfl rfl (fun wD mD => op_indexSl (off' := 0 + i) rfl (hA (by omega)) rfl Try.runUnderlying26 Try.sizeOf27 (by omega) (by omega) (by omega)) ?_
  refine DR.det (i := 3) rfl rfl (by kernel_rfl) (.free rfl) rfl rfl (fun wD mD => op_load1 (i := i) rfl Try.isAgg27 (((r.ext m1).ext md1).ext mD) rfl (fl_get (by have eL : List.length xs = n := ln; omega))) ?_
  refine DR.det (i := 4) rfl rfl (by kernel_rfl) (.free rfl) rfl rfl (fun wD mD => op_move rfl) ?_
  refine DR.det (i := 5) rfl rfl (by kernel_rfl) (.free rfl) rfl rfl (fun wD mD => op_move rfl) ?_
  refine DR.det (i := 6) rfl rfl (by kernel_rfl) (.free rfl) rfl rfl (fun wD mD => op_indexSl (off' := 0 + i) rfl (hA' (by omega)) rfl Try.runUnderlying26 Try.sizeOf27 (by omega) (by omega) (by omega)) ?_
  refine DR.det (i := 7) rfl rfl (by kernel_rfl) (.free rfl) rfl rfl (fun wD mD => op_load1 (i := i) rfl Try.isAgg27 (((rr.ext m1).ext md1).ext mD) rfl (fl_get (by have eL : List.length ys = n := lm; omega))) ?_
  refine DR.done rfl ?_
  intro w3 m2
  refine WO.call rfl (.free rfl) rfl (ltb rfl) (oc_call (vs := [vF (xs.getD i 0), vF (ys.getD i 0)]) (cap := []) rfl rfl rfl Try.call128 (c_l01Same (xs.getD i 0) (xs.getD i 0) (ys.getD i 0) (ys.getD i 0) rfl rfl w3)) ?_
  rintro _ _ ⟨rfl, rfl⟩
  refine WO.det (op_not rfl) rfl (.free rfl) rfl rfl ?_
  refine WO.end (NE.code ?_)
  refine CE.cond_f rfl (bnot_t (cn_beq6 he i)) ?_
  refine CE.skip' (NE.blk (NE.code (CE.region ?_)))
  refine WL.det (op_move rfl) rfl rfl rfl ?_
  refine WL.det (op_add (r := ((i + 1 : Nat) : Int)) rfl rfl (w_i64 (by omega) (by omega))) rfl rfl rfl ?_
  refine WL.det (op_assign rfl) rfl rfl rfl ?_
  refine WL.end ?_
  exact NE.again (i + 1) (⟨rfl, rfl, rfl, rfl, trivial⟩) ⟨(by omega), ((m1.nt md1).nt m2)⟩ (by first | (dsimp only; omega) | omega)
 ·have hp1 := of_decide_eq_false hb1
  refine CE.cond_f rfl hb1 ?_
  refine CE.exit' (XE.exit_then (XE.exit_then (XE.exit_here (NE.code (CE.seq (CE.region ?_))))))
  refine WL.det (op_assign rfl) rfl rfl rfl ?_
  refine WL.end (NE.code (CE.ret' ?_))
  refine XE.leave1 Try.results78 rfl ?_
  refine ⟨rfl, ((Mod.refl [] w).nt m1)⟩

theorem c_SameRealsX (n : Nat) (c : Nat) (A : Option Addr) (b : Nat) (xs : List Nat) (c' : Nat) (A' : Option Addr) (d' : Nat) (ys : List Nat) (hA : 0 < n → A = some ⟨b, 0, none⟩) (hA' : 0 < n → A' = some ⟨d', 0, none⟩) (ln : xs.length = n) (lm : ys.length = n) (he : Cn xs ys) (hn : n ≤ 1048576) (w : World) (r : Rng w b 0 (fl xs)) (rr : Rng w d' 0 (fl ys)) : Cl Try.prog 24 #[.slice A n c, .slice A' n c'] w fun v w' => v = .bool true ∧ Mod [] w w' := by
 refine Cl.of Try.func24 Try.ntmps24 rfl rfl (ρ := [(0, .slice A n c), (1, .slice A' n c')]) rfl ?_
 refine CE.seq (CE.region ?_)
 refine WL.det (op_assign rfl) rfl rfl rfl ?_
 refine WL.end (NE.code (CE.seq (CE.region ?_)))
 iterate 2 refine WL.det (op_move rfl) rfl rfl rfl ?_
 refine WL.call (oc_call (vs := [.slice A n c, .slice A' n c']) (cap := []) rfl rfl rfl Try.call78 (c_sameListX n c A b xs c' A' d' ys hA hA' ln lm (by first | with_reducible exact Cn.refl _ | assumption | exact Cn.eq2 (by assumption) (by assumption) | exact cn_two (by assumption) (by assumption) (by assumption) (by assumption) (by assumption) (by assumption) (by assumption) (by omega) (by omega)) (by omega) w r rr)) rfl rfl (ltb rfl) ?_
 rintro _ w1 ⟨rfl, m1⟩
 refine WL.det (op_assign rfl) rfl rfl rfl ?_
 refine WL.end (NE.code (CE.ret' ?_))
 refine XE.leave1 Try.results24 rfl ?_
 refine ⟨rfl, ((Mod.refl [] w).nt m1)⟩

theorem c_iNewX2 (m : Nat) (n : Nat) (cl : Nat) (lb : Nat) (cs : Nat) (sb : Nat) (op : Bool) (kw : Nat) (lw : Nat) (h1m : 1 ≤ m) (h2m : m ≤ 12) (h1n : 1 ≤ n) (h2n : n ≤ 12) (lkw : kw < wid .f32) (llw : lw < wid .f32) (hd : ∃ d, d < 8 ∧ cn .f32 kw = cn .f32 (fop .quo .f32 (FloatKind.f32.nearest ((d : Nat) : Int)) 1090519040)) (hu : ∃ u, u < 17 ∧ cn .f32 lw = cn .f32 (fop .quo .f32 (FloatKind.f32.nearest ((u : Nat) : Int)) 1098907648)) (w : World) (rl : Rng w lb 0 [vI ((m : Nat) : Int), vI ((n : Nat) : Int)]) (rs : Rng w sb 0 [vF 0]) : Cl Try.prog 23 #[vS lb 0 2 cl, vS sb 0 1 cs, .bool op, vF kw, vF lw] w fun v w' => ∃ (bR' : Nat) (cR' : Nat) (PR' : List BC) (bL' : Nat) (cL' : Nat) (PL' : List BC) (bS' : Nat) (cS' : Nat) (r_ : Nat) (zz : PipeSt), v = .tuple #[.agg #[vS bR' 0 2 cR', vS bL' 0 2 cL', vS bS' 0 1 cS', vI 1, vF r_, vF kw, vF 0, vF 0, vF 0, .bool op, vF lw, vF 1061158912, vF 3200253952], vI 0] ∧ (PR'.length = 2) ∧ (PL'.length = 2) ∧ (NX r_ kw lw) ∧ (zz = zNewL [m, n]) ∧ (TwoZ zz) ∧ (zz.R.length = 2) ∧ (zz.L.length = 2) ∧ Row w' bR' 0 (olc zz.R PR') ∧ Row w' bL' 0 (olc zz.L PL') ∧ Row w' bS' 0 (fl [0]) ∧ w.heap.size ≤ bR' ∧ w.heap.size ≤ bL' ∧ w.heap.size ≤ bS' ∧ bR' ≠ bL' ∧ bR' ≠ bS' ∧ bL' ≠ bS' ∧ OF w.heap.size w' zz.R PR' ∧ (∀ i, i < 2 → (PR'.getD i BC.d).b ≠ bR') ∧ (∀ i, i < 2 → (PR'.getD i BC.d).b ≠ bL') ∧ (∀ i, i < 2 → (PR'.getD i BC.d).b ≠ bS') ∧ (∀ i j, i < 2 → j < 2 → (PR'.getD i BC.d).b ≠ (PL'.getD j BC.d).b) ∧ OF w.heap.size w' zz.L PL' ∧ (∀ i, i < 2 → (PL'.getD i BC.d).b ≠ bR') ∧ (∀ i, i < 2 → (PL'.getD i BC.d).b ≠ bL') ∧ (∀ i, i < 2 → (PL'.getD i BC.d).b ≠ bS') ∧ Mod [] w w' := by
  obtain ⟨d, hd, hc⟩ := hd
  obtain ⟨u, hu, hlc⟩ := hu
  refine (c_NewPipe2 m n cl lb cs sb op kw lw h1m (by omega) h1n (by omega) lkw llw (keep8_of hd hc) (loss_of hu hlc) w rl rs).mono ?_
  rintro v w' ⟨bR', cR', bL', cL', bS', cS', r_, d0, d1, e0, e1, hv, p1, p2, rR, rL, rS, rd0, rd1, re0, re1, g1, g2, g3, gd0, gd1, ge0, ge1, n1, n2, n3, nd0R, nd0L, nd0S, nd1R, nd1L, nd1S, ne0R, ne0L, ne0S, ne1R, ne1L, ne1S, nd0e0, nd0e1, nd1e0, nd1e1, ndd, nee, md⟩
  have ol : ∀ b0 b1, olc [ringN m, ringN n] [⟨b0, m⟩, ⟨b1, n⟩] = [vS b0 0 m m, vI 0, vS b1 0 n n, vI 0] := fun b0 b1 => by
    show [vS b0 0 (List.replicate m 0).length m, vI 0, vS b1 0 (List.replicate n 0).length n, vI 0] = _
    rw [List.length_replicate, List.length_replicate]
  rw [← ol d0 d1] at rR
  rw [← ol e0 e1] at rL
  have fR : OF w.heap.size w' (zNewL [m, n]).R [⟨d0, m⟩, ⟨d1, n⟩] := ⟨fun i hi => by
      match i, hi with
      | 0, _ => exact gd0
      | 1, _ => exact gd1, fun i hi => by
      match i, hi with
      | 0, _ => exact rd0
      | 1, _ => exact rd1, fun i j hi hj hij => by
      match i, j, hi, hj, hij with
      | 0, 1, _, _, _ => exact ndd
      | 1, 0, _, _, _ => exact Ne.symm ndd
      | 0, 0, _, _, h => exact absurd rfl h
      | 1, 1, _, _, h => exact absurd rfl h⟩
  have fL : OF w.heap.size w' (zNewL [m, n]).L [⟨e0, m⟩, ⟨e1, n⟩] := ⟨fun i hi => by
      match i, hi with
      | 0, _ => exact ge0
      | 1, _ => exact ge1, fun i hi => by
      match i, hi with
      | 0, _ => exact re0
      | 1, _ => exact re1, fun i j hi hj hij => by
      match i, j, hi, hj, hij with
      | 0, 1, _, _, _ => exact nee
      | 1, 0, _, _, _ => exact Ne.symm nee
      | 0, 0, _, _, h => exact absurd rfl h
      | 1, 1, _, _, h => exact absurd rfl h⟩
  exact ⟨bR', cR', [⟨d0, m⟩, ⟨d1, n⟩], bL', cL', [⟨e0, m⟩, ⟨e1, n⟩], bS', cS', r_, zNewL [m, n], hv, rfl, rfl, NX.of hd hc p1 hu hlc, rfl, ⟨m, n, h1m, h2m, h1n, h2n, rfl⟩, rfl, rfl, rR, rL, rS, g1, g2, g3, n1, n2, n3, fR, fun i hi => by
      match i, hi with
      | 0, _ => exact nd0R
      | 1, _ => exact nd1R, fun i hi => by
      match i, hi with
      | 0, _ => exact nd0L
      | 1, _ => exact nd1L, fun i hi => by
      match i, hi with
      | 0, _ => exact nd0S
      | 1, _ => exact nd1S, fun i j hi hj => by
      match i, j, hi, hj with
      | 0, 0, _, _ => exact nd0e0
      | 0, 1, _, _ => exact nd0e1
      | 1, 0, _, _ => exact nd1e0
      | 1, 1, _, _ => exact nd1e1, fL, fun i hi => by
      match i, hi with
      | 0, _ => exact ne0R
      | 1, _ => exact ne1R, fun i hi => by
      match i, hi with
      | 0, _ => exact ne0L
      | 1, _ => exact ne1L, fun i hi => by
      match i, hi with
      | 0, _ => exact ne0S
      | 1, _ => exact ne1S, md⟩

theorem c_iPlayX2 (z : PipeSt) (c0 : Nat) (c1 : Nat) (op : Bool) (lo : Nat) (cR : Nat) (bR : Nat) (PR : List BC) (loR : Nat) (cL : Nat) (bL : Nat) (PL : List BC) (loL : Nat) (cS : Nat) (bS : Nat) (xS : List Nat) (cl : Nat) (Al : Option Addr) (bl : Nat) (ol : Nat) (ss : List Nat) (hx : NX c0 c1 lo) (hz : TwoZ z) (lDR : z.R.length = 2) (lDL : z.L.length = 2) (lPR : PR.length = 2) (lPL : PL.length = 2) (hxS : xS = [0]) (lnS : xS.length = 1) (ls : ss.length = 40) (hAl : 0 < 40 → Al = some ⟨bl, ol, none⟩) (wl : W32 ss) (w : World) (rR : Rng w bR 0 (olc z.R PR)) (rL : Rng w bL 0 (olc z.L PL)) (rS : Rng w bS 0 (fl xS)) (rl : Rng w bl ol (fl ss))  (FR : OF loR w z.R PR) (FL : OF loL w z.L PL) : Cl Try.prog 21 #[.agg #[vS bR 0 2 cR, vS bL 0 2 cL, vS bS 0 1 cS, vI 1, vF c0, vF c1, vF 0, vF 0, vF 0, .bool op, vF lo, vF 1061158912, vF 3200253952], .slice Al 40 cl] w fun v w' => ∃ (bR' : Nat) (cR' : Nat) (bL' : Nat) (cL' : Nat) (bS' : Nat) (cS' : Nat) (zz : PipeSt) (e' : Nat) (c3' : Nat) (A' : Option Addr) (ys : List Nat), v = .tuple #[.agg #[vS bR' 0 2 cR', vS bL' 0 2 cL', vS bS' 0 1 cS', vI 1, vF c0, vF c1, vF 0, vF zz.s0, vF zz.s1, .bool op, vF lo, vF 1061158912, vF 3200253952], .slice A' 40 c3', vI 0] ∧ (0 < 40 → A' = some ⟨e', 0, none⟩) ∧ (ys.length = 40) ∧ (W32 ys) ∧ (Cn ys (outs (pipeOut 2 1 [0] 1 c0 c1 0 op lo 1061158912 3200253952 z (fun j => ss.getD j 0)) 40)) ∧ Row w' e' 0 (fl ys) ∧ w.heap.size ≤ e' ∧ Mod [] w w' := by
  obtain ⟨m, n, h1m, h2m, h1n, h2n, rfl⟩ := hz
  subst hxS
  refine (c_iPlayP 2 (zNewL [m, n]).R 2 (zNewL [m, n]).L 1 [0] cR bR PR loR cL bL PL loL cS bS 1 c0 c1 0 0 0 op lo 1061158912 3200253952 40 cl Al bl ol ss (pipeAt 2 1 [0] 1 c0 c1 0 op lo 1061158912 3200253952 (zNewL [m, n]) (fun j => ss.getD j 0) 40) (outs (pipeOut 2 1 [0] 1 c0 c1 0 op lo 1061158912 3200253952 (zNewL [m, n]) (fun j => ss.getD j 0)) 40) rfl rfl rfl (lens2 (P := fun l => l ≤ 1048576) (by omega) (by omega) (by omega)) (lens2 (P := fun l => l ≤ 1048576) (by omega) (by omega) (by omega)) lPR lPL (by omega) (by omega) (by omega) (by omega) (by omega) (pos2 h1m h1n) (pos2 h1m h1n) (by omega) (by omega) (good2 h1m h1n) (good2 h1m h1n) (by rw [wid32]; omega) (by rw [wid32]; omega) ls hAl wl (by omega) (hx.v2 h1m h2m h1n h2n) rfl rfl (pipeAt_lenR rfl _) (pipeAt_lenL rfl _) w rR rL rS rl FR FL).mono ?_
  rintro v w' ⟨bR', cR', PR', bL', cL', PL', bS', cS', e', c3', A', ys, hv, p0, p1, p2, p3, p4, p5, rR', rL', rS', re', g1, g2, g3, g4, n1, n2, n3, n4, n5, n6, fR, a1, a2, a3, a4, a5, fL, b1, b2, b3, b4, md⟩
  exact ⟨bR', cR', bL', cL', bS', cS', (pipeAt 2 1 [0] 1 c0 c1 0 op lo 1061158912 3200253952 (zNewL [m, n]) (fun j => ss.getD j 0) 40), e', c3', A', ys, hv, p2, p3, p4, p5, re', g4, md⟩

theorem c_iNewX1 (m : Nat) (cl : Nat) (lb : Nat) (cs : Nat) (sb : Nat) (op : Bool) (kw : Nat) (lw : Nat) (h1m : 1 ≤ m) (h2m : m ≤ 12) (lkw : kw < wid .f32) (llw : lw < wid .f32) (hd : ∃ d, d < 8 ∧ cn .f32 kw = cn .f32 (fop .quo .f32 (FloatKind.f32.nearest ((d : Nat) : Int)) 1090519040)) (hu : ∃ u, u < 17 ∧ cn .f32 lw = cn .f32 (fop .quo .f32 (FloatKind.f32.nearest ((u : Nat) : Int)) 1098907648)) (w : World) (rl : Rng w lb 0 [vI ((m : Nat) : Int)]) (rs : Rng w sb 0 []) : Cl Try.prog 23 #[vS lb 0 1 cl, vS sb 0 0 cs, .bool op, vF kw, vF lw] w fun v w' => ∃ (bR' : Nat) (cR' : Nat) (PR' : List BC) (bL' : Nat) (cL' : Nat) (PL' : List BC) (bS' : Nat) (cS' : Nat) (r_ : Nat) (zz : PipeSt), v = .tuple #[.agg #[vS bR' 0 1 cR', vS bL' 0 1 cL', vS bS' 0 0 cS', vI 1, vF r_, vF kw, vF 0, vF 0, vF 0, .bool op, vF lw, vF 1061158912, vF 3200253952], vI 0] ∧ (PR'.length = 1) ∧ (PL'.length = 1) ∧ (NX r_ kw lw) ∧ (zz = zNewL [m]) ∧ (OneZ zz) ∧ (zz.R.length = 1) ∧ (zz.L.length = 1) ∧ Row w' bR' 0 (olc zz.R PR') ∧ Row w' bL' 0 (olc zz.L PL') ∧ Row w' bS' 0 (fl []) ∧ w.heap.size ≤ bR' ∧ w.heap.size ≤ bL' ∧ w.heap.size ≤ bS' ∧ bR' ≠ bL' ∧ bR' ≠ bS' ∧ bL' ≠ bS' ∧ OF w.heap.size w' zz.R PR' ∧ (∀ i, i < 1 → (PR'.getD i BC.d).b ≠ bR') ∧ (∀ i, i < 1 → (PR'.getD i BC.d).b ≠ bL') ∧ (∀ i, i < 1 → (PR'.getD i BC.d).b ≠ bS') ∧ (∀ i j, i < 1 → j < 1 → (PR'.getD i BC.d).b ≠ (PL'.getD j BC.d).b) ∧ OF w.heap.size w' zz.L PL' ∧ (∀ i, i < 1 → (PL'.getD i BC.d).b ≠ bR') ∧ (∀ i, i < 1 → (PL'.getD i BC.d).b ≠ bL') ∧ (∀ i, i < 1 → (PL'.getD i BC.d).b ≠ bS') ∧ Mod [] w w' := by
  obtain ⟨d, hd, hc⟩ := hd
  obtain ⟨u, hu, hlc⟩ := hu
  refine (c_NewPipe1 m cl lb cs sb op kw lw h1m (by omega) lkw llw (keep8_of hd hc) (loss_of hu hlc) w rl rs).mono ?_
  rintro v w' ⟨bR', cR', bL', cL', bS', cS', r_, d0, e0, hv, p1, p2, rR, rL, rS, rd0, re0, g1, g2, g3, gd0, ge0, n1, n2, n3, nd0R, nd0L, nd0S, ne0R, ne0L, ne0S, nd0e0, md⟩
  have ol : ∀ b0, olc [ringN m] [⟨b0, m⟩] = [vS b0 0 m m, vI 0] := fun b0 => by
    show [vS b0 0 (List.replicate m 0).length m, vI 0] = _
    rw [List.length_replicate]
  rw [← ol d0] at rR
  rw [← ol e0] at rL
  have fR : OF w.heap.size w' (zNewL [m]).R [⟨d0, m⟩] := ⟨fun i hi => by
      obtain rfl : i = 0 := by have hi' : i < 1 := hi; omega
      exact gd0, fun i hi => by
      obtain rfl : i = 0 := by have hi' : i < 1 := hi; omega
      exact rd0, fun i j hi hj hij => by have hi' : i < 1 := hi; have hj' : j < 1 := hj; omega⟩
  have fL : OF w.heap.size w' (zNewL [m]).L [⟨e0, m⟩] := ⟨fun i hi => by
      obtain rfl : i = 0 := by have hi' : i < 1 := hi; omega
      exact ge0, fun i hi => by
      obtain rfl : i = 0 := by have hi' : i < 1 := hi; omega
      exact re0, fun i j hi hj hij => by have hi' : i < 1 := hi; have hj' : j < 1 := hj; omega⟩
  exact ⟨bR', cR', [⟨d0, m⟩], bL', cL', [⟨e0, m⟩], bS', cS', r_, zNewL [m], hv, rfl, rfl, NX.of hd hc p1 hu hlc, rfl, ⟨m, h1m, h2m, rfl⟩, rfl, rfl, rR, rL, rS, g1, g2, g3, n1, n2, n3, fR, fun i hi => by
      obtain rfl : i = 0 := by omega
      exact nd0R, fun i hi => by
      obtain rfl : i = 0 := by omega
      exact nd0L, fun i hi => by
      obtain rfl : i = 0 := by omega
      exact nd0S, fun i j hi hj => by
      obtain rfl : i = 0 := by omega
      obtain rfl : j = 0 := by omega
      exact nd0e0, fL, fun i hi => by
      obtain rfl : i = 0 := by omega
      exact ne0R, fun i hi => by
      obtain rfl : i = 0 := by omega
      exact ne0L, fun i hi => by
      obtain rfl : i = 0 := by omega
      exact ne0S, md⟩

theorem c_iPlayX1 (z : PipeSt) (c0 : Nat) (c1 : Nat) (op : Bool) (lo : Nat) (cR : Nat) (bR : Nat) (PR : List BC) (loR : Nat) (cL : Nat) (bL : Nat) (PL : List BC) (loL : Nat) (cS : Nat) (bS : Nat) (xS : List Nat) (cl : Nat) (Al : Option Addr) (bl : Nat) (ol : Nat) (ss : List Nat) (hx : NX c0 c1 lo) (hz : OneZ z) (lDR : z.R.length = 1) (lDL : z.L.length = 1) (lPR : PR.length = 1) (lPL : PL.length = 1) (hxS : xS = []) (lnS : xS.length = 0) (ls : ss.length = 40) (hAl : 0 < 40 → Al = some ⟨bl, ol, none⟩) (wl : W32 ss) (w : World) (rR : Rng w bR 0 (olc z.R PR)) (rL : Rng w bL 0 (olc z.L PL)) (rS : Rng w bS 0 (fl xS)) (rl : Rng w bl ol (fl ss))  (FR : OF loR w z.R PR) (FL : OF loL w z.L PL) : Cl Try.prog 21 #[.agg #[vS bR 0 1 cR, vS bL 0 1 cL, vS bS 0 0 cS, vI 1, vF c0, vF c1, vF 0, vF 0, vF 0, .bool op, vF lo, vF 1061158912, vF 3200253952], .slice Al 40 cl] w fun v w' => ∃ (bR' : Nat) (cR' : Nat) (bL' : Nat) (cL' : Nat) (bS' : Nat) (cS' : Nat) (zz : PipeSt) (e' : Nat) (c3' : Nat) (A' : Option Addr) (ys : List Nat), v = .tuple #[.agg #[vS bR' 0 1 cR', vS bL' 0 1 cL', vS bS' 0 0 cS', vI 1, vF c0, vF c1, vF 0, vF zz.s0, vF zz.s1, .bool op, vF lo, vF 1061158912, vF 3200253952], .slice A' 40 c3', vI 0] ∧ (0 < 40 → A' = some ⟨e', 0, none⟩) ∧ (ys.length = 40) ∧ (W32 ys) ∧ (Cn ys (outs (pipeOut 1 0 [] 1 c0 c1 0 op lo 1061158912 3200253952 z (fun j => ss.getD j 0)) 40)) ∧ Row w' e' 0 (fl ys) ∧ w.heap.size ≤ e' ∧ Mod [] w w' := by
  obtain ⟨m, h1m, h2m, rfl⟩ := hz
  subst hxS
  refine (c_iPlayP0 1 (zNewL [m]).R 1 (zNewL [m]).L [] cR bR PR loR cL bL PL loL cS bS 1 c0 c1 0 0 0 op lo 1061158912 3200253952 40 cl Al bl ol ss (pipeAt 1 0 [] 1 c0 c1 0 op lo 1061158912 3200253952 (zNewL [m]) (fun j => ss.getD j 0) 40) (outs (pipeOut 1 0 [] 1 c0 c1 0 op lo 1061158912 3200253952 (zNewL [m]) (fun j => ss.getD j 0)) 40) rfl rfl rfl (lens1 (P := fun l => l ≤ 1048576) (by omega) (by omega)) (lens1 (P := fun l => l ≤ 1048576) (by omega) (by omega)) lPR lPL (by omega) (by omega) (by omega) (by omega) (pos1 h1m) (pos1 h1m) (by omega) (good1 h1m) (good1 h1m) (by rw [wid32]; omega) (by rw [wid32]; omega) ls hAl wl (by omega) (hx.v1 h1m h2m) rfl rfl (pipeAt_lenR rfl _) (pipeAt_lenL rfl _) w rR rL rS rl FR FL).mono ?_
  rintro v w' ⟨bR', cR', PR', bL', cL', PL', bS', cS', e', c3', A', ys, hv, p0, p1, p2, p3, p4, p5, rR', rL', rS', re', g1, g2, g3, g4, n1, n2, n3, n4, n5, n6, fR, a1, a2, a3, a4, a5, fL, b1, b2, b3, b4, md⟩
  exact ⟨bR', cR', bL', cL', bS', cS', (pipeAt 1 0 [] 1 c0 c1 0 op lo 1061158912 3200253952 (zNewL [m]) (fun j => ss.getD j 0) 40), e', c3', A', ys, hv, p2, p3, p4, p5, re', g4, md⟩

theorem c_sPlayX1 (z : PipeSt) (c0 : Nat) (c1 : Nat) (op : Bool) (lo : Nat) (cR : Nat) (bR : Nat) (PR : List BC) (loR : Nat) (cL : Nat) (bL : Nat) (PL : List BC) (loL : Nat) (cS : Nat) (bS : Nat) (xS : List Nat) (cl : Nat) (Al : Option Addr) (bl : Nat) (ol : Nat) (ss : List Nat) (hx : NX c0 c1 lo) (hz : OneZ z) (lDR : z.R.length = 1) (lDL : z.L.length = 1) (lPR : PR.length = 1) (lPL : PL.length = 1) (hxS : xS = []) (lnS : xS.length = 0) (ls : ss.length = 40) (hAl : 0 < 40 → Al = some ⟨bl, ol, none⟩) (wl : W32 ss) (w : World) (rR : Rng w bR 0 (olc z.R PR)) (rL : Rng w bL 0 (olc z.L PL)) (rS : Rng w bS 0 (fl xS)) (rl : Rng w bl ol (fl ss))  (FR : OF loR w z.R PR) (FL : OF loL w z.L PL) : Cl Try.prog 17 #[.agg #[vS bR 0 1 cR, vS bL 0 1 cL, vS bS 0 0 cS, vI 1, vF c0, vF c1, vF 0, vF 0, vF 0, .bool op, vF lo, vF 1061158912, vF 3200253952], .slice Al 40 cl] w fun v w' => ∃ (bR' : Nat) (cR' : Nat) (bL' : Nat) (cL' : Nat) (bS' : Nat) (cS' : Nat) (zz : PipeSt) (e' : Nat) (c3' : Nat) (A' : Option Addr) (ys : List Nat), v = .tuple #[.agg #[vS bR' 0 1 cR', vS bL' 0 1 cL', vS bS' 0 0 cS', vI 1, vF c0, vF c1, vF 0, vF zz.s0, vF zz.s1, .bool op, vF lo, vF 1061158912, vF 3200253952], .slice A' 40 c3', vI 0] ∧ (0 < 40 → A' = some ⟨e', 0, none⟩) ∧ (ys.length = 40) ∧ (W32 ys) ∧ (Cn ys (outs (pipeOut 1 0 [] 1 c0 c1 0 op lo 1061158912 3200253952 z (fun j => ss.getD j 0)) 40)) ∧ Row w' e' 0 (fl ys) ∧ w.heap.size ≤ e' ∧ Mod [] w w' := by
  obtain ⟨m, h1m, h2m, rfl⟩ := hz
  subst hxS
  refine (c_sPlayP0 1 (zNewL [m]).R 1 (zNewL [m]).L [] cR bR PR loR cL bL PL loL cS bS 1 c0 c1 0 0 0 op lo 1061158912 3200253952 40 cl Al bl ol ss (pipeAt 1 0 [] 1 c0 c1 0 op lo 1061158912 3200253952 (zNewL [m]) (fun j => ss.getD j 0) 40) (outs (pipeOut 1 0 [] 1 c0 c1 0 op lo 1061158912 3200253952 (zNewL [m]) (fun j => ss.getD j 0)) 40) rfl rfl rfl (lens1 (P := fun l => l ≤ 1048576) (by omega) (by omega)) (lens1 (P := fun l => l ≤ 1048576) (by omega) (by omega)) lPR lPL (by omega) (by omega) (by omega) (by omega) (pos1 h1m) (pos1 h1m) (by omega) (good1 h1m) (good1 h1m) (by rw [wid32]; omega) (by rw [wid32]; omega) ls hAl wl (by omega) (hx.v1 h1m h2m) rfl rfl (pipeAt_lenR rfl _) (pipeAt_lenL rfl _) w rR rL rS rl FR FL).mono ?_
  rintro v w' ⟨bR', cR', PR', bL', cL', PL', bS', cS', e', c3', A', ys, hv, p0, p1, p2, p3, p4, p5, rR', rL', rS', re', g1, g2, g3, g4, n1, n2, n3, n4, n5, n6, fR, a1, a2, a3, a4, a5, fL, b1, b2, b3, b4, md⟩
  exact ⟨bR', cR', bL', cL', bS', cS', (pipeAt 1 0 [] 1 c0 c1 0 op lo 1061158912 3200253952 (zNewL [m]) (fun j => ss.getD j 0) 40), e', c3', A', ys, hv, p2, p3, p4, p5, re', g4, md⟩

end Go.Proofs.Ytnahhdnkbbdceaa
