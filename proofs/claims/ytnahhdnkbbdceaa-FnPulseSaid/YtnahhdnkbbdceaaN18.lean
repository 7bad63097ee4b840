/- What the law on pulses takes besides. -/
import Derived.Test.YtnahhdnkbbdceaaN17
set_option linter.unusedVariables false
set_option linter.unusedSimpArgs false
set_option maxRecDepth 100000
set_option maxHeartbeats 8000000
namespace Go.Proofs.Ytnahhdnkbbdceaa

theorem sc_p {p q : Nat} (hp : p < 40) (hq : q < 40) : (finF (scW (arW p) (arW q)) = true ∧ finF (arW p) = true ∧ finF (arW q) = true ∧ fGt .f32 (arW p) 0 = true ∧ fGt .f32 (arW q) 0 = true) ∧ fEq .f32 (scW (arW p) (arW q)) (Op.negFloat .f32 (scW (arW q) (arW p))) = true ∧ (fGt .f32 (scW (arW p) (arW q)) 0 == fGt .f32 (arW p) (arW q)) = true ∧ fGt .f32 (scW (arW p) (arW q)) 3212836864 = true ∧ fLt .f32 (scW (arW p) (arW q)) 1065353216 = true := by
  have h := sc_ok hp hq
  unfold scOk at h
  simp only [Bool.and_eq_true] at h
  exact ⟨⟨h.1.2.1, h.1.1.2.1.1, h.1.1.2.1.2, h.1.1.2.2.1, h.1.1.2.2.2⟩, h.2.1.1, h.2.1.2, h.2.2.1, h.2.2.2⟩
theorem near_j {nR nS c0 c1 lo re sl m pl a i k : Nat} {xS : List Nat} {z zz : PipeSt} {y1 y2 b c : Nat} (h : DPz nR nS xS c0 c1 lo re sl z 25) (hz : zz = pulZ z m pl a) (hi : ZI z) (ha : PlW a) (hm : m < nR) (hpl : pl < (z.R.getD m RD.d).xs.length) (ei : i = m) (ek : k = pl) (h1 : cn .f32 y1 = cn .f32 (prD z i k)) (h2 : cn .f32 y2 = cn .f32 (prD zz i k)) (hb : cn .f32 b = cn .f32 (fop .add .f32 y1 a)) (hc : cn .f32 c = cn .f32 (fop .mul .f32 981668463 (fop .add .f32 1065353216 (absF y1)))) : fLe .f32 (absF (fop .sub .f32 y2 b)) c = true := by
  subst ei ek
  exact near_k h hz hi ha hm hpl h1 h2 hb hc
theorem pul_eq {z x y : PipeSt} {m pl a : Nat} (h : x = pulZ z m pl a) (k : y = pulZ z m pl a) : x = y := h.trans k.symm
theorem pul_ln {z y : PipeSt} {m pl a i : Nat} (h : y = pulZ z m pl a) : (y.R.getD i RD.d).xs.length = (z.R.getD i RD.d).xs.length := by
  rw [h]; exact (set1_lens (D := z.R)).1
theorem PlW.fin {a : Nat} (h : PlW a) : finF a = true := fin_of (h.bd.fin (by omega))
theorem ring_lo {nR nS c0 c1 lo re sl k i : Nat} {xS : List Nat} {z : PipeSt} (h : DPz nR nS xS c0 c1 lo re sl z k) (hi : i < nR) : 1 ≤ (z.R.getD i RD.d).xs.length := (h.ln i hi).1
theorem ring_hi {nR nS c0 c1 lo re sl k i : Nat} {xS : List Nat} {z : PipeSt} (h : DPz nR nS xS c0 c1 lo re sl z k) (hi : i < nR) : (z.R.getD i RD.d).xs.length ≤ 200 := Nat.le_trans (h.ln i hi).2.1 (by omega)
theorem reed_in {a b d : Nat} (ha : PlW a) (hb : PlW b) (hd : PlW d) : fGe .f32 (reedF a b d) 3212836864 = true ∧ fLe .f32 (reedF a b d) 1065353216 = true := by
  unfold reedF
  have h1 : Bd (fop .mul .f32 b d) 2 := Bd.mul2 (k := 1) (l := 1) hb.bd hd.bd (by omega)
  have h2 : Bd a 2 := Bd.mono (k := 1) (l := 2) ha.bd (by omega)
  have h3 : Bd (fop .add .f32 a (fop .mul .f32 b d)) 3 := Bd.add2 (k := 2) h2 h1 (by omega)
  exact bd0_in (clamp_bd (k := 3) h3 (by omega))

theorem c_pickS (n : Nat) (c : Nat) (A : Option Addr) (b : Nat) (o : Nat) (xs : List Nat) (at_ : Nat) (s : Nat) (p : Nat) (top : Nat) (ln : xs.length = n) (hA : 0 < n → A = some ⟨b, o, none⟩) (hB : ∀ i, xs.getD i 0 < 256) (hn : n ≤ 4611686018427387904) (ha : at_ ≤ 4611686018427387904) (hs : s < 18446744073709551616) (ht : 1 ≤ top) (ht2 : top ≤ 200) (w : World) (q : Row w p 0 [.slice A n c, vI ((at_ : Nat) : Int), .int .u64 ((s : Nat) : Int)]) (r : Rng w b o (bys xs)) : Cl Try.prog 54 #[vP p 0, vI ((top : Nat) : Int)] w fun v w' => ∃ (u : Nat), v = vI ((u : Nat) : Int) ∧ (u < top) ∧ Mod [p] w w' := by
 refine Cl.of Try.func54 Try.ntmps54 rfl rfl (ρ := [(0, vP p 0), (1, vI ((top : Nat) : Int))]) rfl ?_
 refine CE.seq (CE.region ?_)
 refine WD (op_assign rfl) rfl ?_
 refine WL.end (NE.code (CE.seq (CE.seq (CE.region ?_))))
 refine WD (op_move rfl) rfl ?_
 refine WD (op_lei rfl rfl) rfl ?_
 refine WL.end (NE.code ?_)
 rcases Bool.eq_false_or_eq_true (decide (((top : Nat) : Int) ≤ (1 : Int))) with hb1 | hb1
 ·have hp1 := of_decide_eq_true hb1
  refine CE.cond_t rfl hb1 ?_
  refine CE.seq (CE.region ?_)
  refine WD (op_assign rfl) rfl ?_
  refine WL.end (NE.code (CE.ret' (XE.ret_then ?_)))
  refine XE.leave1 Try.results54 rfl ?_
  refine ⟨0, rfl, ?_, (Mod.refl [p] w)⟩
  all_goals first | assumption | omega | rfl
 ·have hp1 := of_decide_eq_false hb1
  refine CE.cond_f rfl hb1 ?_
  refine CE.skip' (NE.code (CE.seq (CE.region ?_)))
  refine WD (op_move rfl) rfl ?_
  refine WL.call (oc_call (vs := [vP p 0]) (cap := []) rfl rfl rfl Try.call107 (c_next n c A b o xs at_ s p ln hA hB (by omega) (by omega) (by omega) w q r)) rfl rfl (ltb rfl) ?_
  rintro _ w1 ⟨vv1, s1, rfl, h1, h2, r1, m1⟩
  refine WD (op_assign rfl) rfl ?_
  refine WL.end (NE.code (CE.seq (CE.seq (CE.region ?_))))
  refine WD (op_move rfl) rfl ?_
  refine WD (op_gti rfl rfl) rfl ?_
  refine WL.end (NE.code ?_)
  refine CE.cond_f rfl (decide_eq_false (by omega)) ?_
  refine CE.skip' (NE.code (CE.seq (CE.region ?_)))
  iterate 2 refine WD (op_move rfl) rfl ?_
  have hm1 : vv1 % top < top := Nat.mod_lt _ (by omega)
  refine WD (op_rem (r := ((vv1 % top : Nat) : Int)) rfl rfl (by omega) rfl) rfl ?_
  refine WD (op_assign rfl) rfl ?_
  refine WL.end (NE.code (CE.ret' ?_))
  refine XE.leave1 Try.results54 rfl ?_
  refine ⟨(vv1 % top), rfl, ?_, ((Mod.refl [p] w).then m1 ((aC (.inl (by simp)) aN)))⟩
  all_goals first | assumption | omega | rfl

theorem c_P6PickS (n : Nat) (c : Nat) (A : Option Addr) (b : Nat) (o : Nat) (xs : List Nat) (top : Nat) (ln : xs.length = n) (hA : 0 < n → A = some ⟨b, o, none⟩) (hB : ∀ i, xs.getD i 0 < 256) (hn : n ≤ 4611686018427387904) (ht : 1 ≤ top) (ht2 : top ≤ 200) (w : World) (r : Rng w b o (bys xs)) : Cl Try.prog 14 #[.slice A n c, vI ((top : Nat) : Int)] w fun v w' => ∃ (u : Nat), v = vI ((u : Nat) : Int) ∧ (u < top) ∧ Mod [] w w' := by
 refine Cl.of Try.func14 Try.ntmps14 rfl rfl (ρ := [(0, .slice A n c), (1, vI ((top : Nat) : Int))]) rfl ?_
 refine CE.seq (CE.region ?_)
 refine WD (op_assign rfl) rfl ?_
 refine WL.end (NE.code (CE.seq (CE.region ?_)))
 refine WD (op_move rfl) rfl ?_
 refine WL.call (oc_call (vs := [.slice A n c]) (cap := []) rfl rfl rfl Try.call53 (c_l00From n c A b o hA w)) rfl rfl (ltb rfl) ?_
 rintro _ w1 ⟨p'1, rfl, r1, ge1, m1⟩
 refine WD (op_move rfl) rfl ?_
 refine WL.call (oc_call (vs := [vP p'1 0, vI ((top : Nat) : Int)]) (cap := []) rfl rfl rfl Try.call54 (c_pickS n c A b o xs 0 0 p'1 top ln hA hB (by omega) (by omega) (by omega) (by omega) (by omega) w1 r1 (r.ext m1))) rfl rfl (ltb rfl) ?_
 rintro _ w2 ⟨u1, rfl, h1, m2⟩
 refine WD (op_assign rfl) rfl ?_
 refine WL.end (NE.code (CE.ret' ?_))
 refine XE.leave1 Try.results14 rfl ?_
 refine ⟨u1, rfl, ?_, (((Mod.refl [] w).nt m1).then m2 ((aC (.inr ge1) aN)))⟩
 all_goals first | assumption | omega

theorem c_P6PipeJ (n : Nat) (c : Nat) (A : Option Addr) (b : Nat) (o : Nat) (xs : List Nat) (ln : xs.length = n) (hA : 0 < n → A = some ⟨b, o, none⟩) (hB : ∀ i, xs.getD i 0 < 256) (hn : n ≤ 4611686018427387904) (w : World) (r : Rng w b o (bys xs)) : Cl Try.prog 33 #[.slice A n c] w fun v w' => ∃ (bR' : Nat) (cR' : Nat) (PR' : List BC) (bL' : Nat) (cL' : Nat) (PL' : List BC) (bS' : Nat) (cS' : Nat) (nR : Nat) (nS : Nat) (xS : List Nat) (kc0 : Nat) (kc1 : Nat) (op : Bool) (lo : Nat) (re : Nat) (sl : Nat) (zz : PipeSt), v = .agg #[vS bR' 0 nR cR', vS bL' 0 nR cL', vS bS' 0 nS cS', vI 1, vF kc0, vF kc1, vF 0, vF (zz.s0), vF (zz.s1), .bool op, vF lo, vF re, vF sl] ∧ (PR'.length = nR) ∧ (PL'.length = nR) ∧ (DPz nR nS xS kc0 kc1 lo re sl zz 25) ∧ (zz.R.length = nR) ∧ (zz.L.length = nR) ∧ (xS.length = nS) ∧ (ZI zz) ∧ (1 ≤ nR) ∧ (nR ≤ 3) ∧ Row w' bR' 0 (olc zz.R PR') ∧ Row w' bL' 0 (olc zz.L PL') ∧ Row w' bS' 0 (fl xS) ∧ w.heap.size ≤ bR' ∧ w.heap.size ≤ bL' ∧ w.heap.size ≤ bS' ∧ bR' ≠ bL' ∧ bR' ≠ bS' ∧ bL' ≠ bS' ∧ OF w.heap.size w' zz.R PR' ∧ (∀ i, i < nR → (PR'.getD i BC.d).b ≠ bR') ∧ (∀ i, i < nR → (PR'.getD i BC.d).b ≠ bL') ∧ (∀ i, i < nR → (PR'.getD i BC.d).b ≠ bS') ∧ (∀ i j, i < nR → j < nR → (PR'.getD i BC.d).b ≠ (PL'.getD j BC.d).b) ∧ OF w.heap.size w' zz.L PL' ∧ (∀ i, i < nR → (PL'.getD i BC.d).b ≠ bR') ∧ (∀ i, i < nR → (PL'.getD i BC.d).b ≠ bL') ∧ (∀ i, i < nR → (PL'.getD i BC.d).b ≠ bS') ∧ Mod [] w w' := by
  refine (c_P6PipeI n c A b o xs ln hA hB hn w r).mono ?_
  rintro v w' ⟨bR', cR', PR', bL', cL', PL', bS', cS', nR, nS, xS, kc0, kc1, op, lo, re, sl, zz, hv, p0, p1, p2, p3, p4, p5, p6, hr⟩
  exact ⟨bR', cR', PR', bL', cL', PL', bS', cS', nR, nS, xS, kc0, kc1, op, lo, re, sl, zz, hv, p0, p1, p2, p3, p4, p5, p6, DPz.n1 p2, DPz.n3 p2, hr⟩

theorem c_l01PlainW (n : Nat) (c : Nat) (A : Option Addr) (b : Nat) (o : Nat) (xs : List Nat) (at_ : Nat) (s : Nat) (p : Nat) (ln : xs.length = n) (hA : 0 < n → A = some ⟨b, o, none⟩) (hB : ∀ i, xs.getD i 0 < 256) (hn : n ≤ 4611686018427387904) (ha : at_ ≤ 4611686018427387000) (hs : s < 18446744073709551616) (nbp : 0 < n → b ≠ p) (w : World) (q : Row w p 0 [.slice A n c, vI ((at_ : Nat) : Int), .int .u64 ((s : Nat) : Int)]) (r : Rng w b o (bys xs)) : Cl Try.prog 61 #[vP p 0] w fun v w' => ∃ (r_ : Nat) (a2 : Nat) (s2 : Nat), v = vF r_ ∧ (r_ < wid .f32) ∧ (a2 ≤ at_ + 8) ∧ (s2 < 18446744073709551616) ∧ (PlW r_) ∧ Row w' p 0 [.slice A n c, vI ((a2 : Nat) : Int), .int .u64 ((s2 : Nat) : Int)] ∧ Mod [p] w w' := by
 refine Cl.of Try.func61 Try.ntmps61 rfl rfl (ρ := [(0, vP p 0)]) rfl ?_
 refine CE.seq (CE.region ?_)
 refine WD (op_assign rfl) rfl ?_
 refine WL.end (NE.code (CE.seq (CE.region ?_)))
 refine WD (op_move rfl) rfl ?_
 refine WL.call (oc_call (vs := [vP p 0, vI 257]) (cap := []) rfl rfl rfl Try.call54 (c_pickB n c A b o xs at_ s p 257 ln hA hB (by omega) (by omega) (by omega) (by omega) (by omega) (by first | assumption | (intro h0; have hlt := Rng.lt r (by rw [bys_len, ln]; exact h0); omega)) w q r)) rfl rfl (ltb rfl) ?_
 rintro _ w1 ⟨u1, s1, rfl, h1, h2, r1, m1⟩
 refine WD (op_sub (r := (((u1 : Nat) : Int) - (128 : Int))) rfl rfl (w_i64 (by omega) (by omega))) rfl ?_
 refine WD (op_cvt_if rfl Try.runUnderlying2 Try.runUnderlying27) rfl ?_
 refine WL.op (op_farith (e := (fop .quo .f32 (FloatKind.f32.nearest (((u1 : Nat) : Int) - (128 : Int))) 1115684864)) (.inr (.inr (.inr rfl))) rfl rfl rfl rfl rfl) rfl rfl (ltb rfl) ?_
 rintro _ w2 ⟨⟨f1, rfl, hf1, lf1⟩, m2⟩
 refine WD (op_assign rfl) rfl ?_
 refine WL.end (NE.code (CE.ret' ?_))
 refine XE.leave1 Try.results61 rfl ?_
 refine ⟨f1, (at_ + 1 + 1), s1, rfl, lf1, ?_, ?_, ?_, (Row.congr (r1.ext m2) ?_), (((Mod.refl [p] w).then m1 ((aC (.inl (by simp)) aN))).nt m2)⟩
 all_goals first | assumption | rfl | omega | exact plw_of (by assumption) (by assumption)

theorem c_P6PlainW (n : Nat) (c : Nat) (A : Option Addr) (b : Nat) (o : Nat) (xs : List Nat) (ln : xs.length = n) (hA : 0 < n → A = some ⟨b, o, none⟩) (hB : ∀ i, xs.getD i 0 < 256) (hn : n ≤ 4611686018427387904) (w : World) (r : Rng w b o (bys xs)) : Cl Try.prog 34 #[.slice A n c] w fun v w' => ∃ (r_ : Nat), v = vF r_ ∧ (r_ < wid .f32) ∧ (PlW r_) ∧ Mod [] w w' := by
 refine Cl.of Try.func34 Try.ntmps34 rfl rfl (ρ := [(0, .slice A n c)]) rfl ?_
 refine CE.seq (CE.region ?_)
 refine WD (op_assign rfl) rfl ?_
 refine WL.end (NE.code (CE.seq (CE.region ?_)))
 refine WD (op_move rfl) rfl ?_
 refine WL.call (oc_call (vs := [.slice A n c]) (cap := []) rfl rfl rfl Try.call53 (c_l00From n c A b o hA w)) rfl rfl (ltb rfl) ?_
 rintro _ w1 ⟨p'1, rfl, r1, ge1, m1⟩
 refine WL.call (oc_call (vs := [vP p'1 0]) (cap := []) rfl rfl rfl Try.call61 (c_l01PlainW n c A b o xs 0 0 p'1 ln hA hB (by omega) (by omega) (by omega) (by first | assumption | (intro h0; have hlt := Rng.lt r (by rw [bys_len, ln]; exact h0); omega)) w1 r1 (r.ext m1))) rfl rfl (ltb rfl) ?_
 rintro _ w2 ⟨r_1, a1, s1, rfl, h1, h2, h3, h4, r2, m2⟩
 refine WD (op_assign rfl) rfl ?_
 refine WL.end (NE.code (CE.ret' ?_))
 refine XE.leave1 Try.results34 rfl ?_
 refine ⟨r_1, rfl, h1, ?_, (((Mod.refl [] w).nt m1).then m2 ((aC (.inr ge1) aN)))⟩
 all_goals first | assumption | rfl | omega

theorem c_isAreaX (a : Nat) (x : Nat) (ha : cn .f32 a = cn .f32 x) (hx : finF x = true) (hg : fGt .f32 x 0 = true) (w : World) : Cl Try.prog 100 #[vF a] w fun v w' => v = .bool true ∧ Mod [] w w' := by
 refine Cl.of Try.func100 Try.ntmps100 rfl rfl (ρ := [(0, vF a)]) rfl ?_
 refine CE.seq (CE.region ?_)
 refine WD (op_assign rfl) rfl ?_
 refine WL.end (NE.code (CE.seq (CE.region ?_)))
 refine WD (op_move rfl) rfl ?_
 refine WL.call (oc_call (vs := [vF a]) (cap := []) rfl rfl rfl Try.call92 (c_isFinite a x ha w)) rfl rfl (ltb rfl) ?_
 rintro _ w1 ⟨rfl, m1⟩
 refine WD (op_move rfl) rfl ?_
 refine WL.yes rfl rfl rfl (ltb rfl) rfl hx ?_
 refine WD (op_move rfl) rfl ?_
 refine WL.yes rfl rfl rfl (ltb rfl) rfl hx ?_
 refine WD (op_fgt (c := fGt .f32 x 0) rfl rfl ha rfl rfl) rfl ?_
 refine WD (op_pick_t rfl hx rfl) rfl ?_
 refine WD (op_assign rfl) rfl ?_
 refine WL.end (NE.code (CE.ret' ?_))
 refine XE.leave1 Try.results100 rfl ?_
 refine ⟨?_, ((Mod.refl [] w).nt m1)⟩
 all_goals first | rfl | exact congrArg Value.bool hg

theorem c_ScatterA (a : Nat) (b : Nat) (p : Nat) (q : Nat) (ha : cn .f32 a = cn .f32 (fop .quo .f32 (FloatKind.f32.nearest ((1 + p : Nat) : Int)) 1090519040)) (hb : cn .f32 b = cn .f32 (fop .quo .f32 (FloatKind.f32.nearest ((1 + q : Nat) : Int)) 1090519040)) (hp : p < 40) (hq : q < 40) (w : World) : Cl Try.prog 43 #[vF a, vF b] w fun v w' => ∃ (r : Nat), v = .tuple #[vF r, vI 0] ∧ (cn .f32 r = cn .f32 (scW (arW p) (arW q))) ∧ (r < wid .f32) ∧ Mod [] w w' := by
 have hsc := sc_p hp hq
 have h1 : finF (fop .quo .f32 (FloatKind.f32.nearest ((1 + p : Nat) : Int)) 1090519040) = true := hsc.1.2.1
 have h2 : finF (fop .quo .f32 (FloatKind.f32.nearest ((1 + q : Nat) : Int)) 1090519040) = true := hsc.1.2.2.1
 have h3 : fGt .f32 (fop .quo .f32 (FloatKind.f32.nearest ((1 + p : Nat) : Int)) 1090519040) 0 = true := hsc.1.2.2.2.1
 have h4 : fGt .f32 (fop .quo .f32 (FloatKind.f32.nearest ((1 + q : Nat) : Int)) 1090519040) 0 = true := hsc.1.2.2.2.2
 have h5 : finF (fop .quo .f32 (fop .sub .f32 (fop .quo .f32 (FloatKind.f32.nearest ((1 + p : Nat) : Int)) 1090519040) (fop .quo .f32 (FloatKind.f32.nearest ((1 + q : Nat) : Int)) 1090519040)) (fop .add .f32 (fop .quo .f32 (FloatKind.f32.nearest ((1 + p : Nat) : Int)) 1090519040) (fop .quo .f32 (FloatKind.f32.nearest ((1 + q : Nat) : Int)) 1090519040))) = true := hsc.1.1
 refine Cl.of Try.func43 Try.ntmps43 rfl rfl (ρ := [(0, vF a), (1, vF b)]) rfl ?_
 refine CE.seq (CE.region ?_)
 iterate 2 refine WD (op_assign rfl) rfl ?_
 refine WL.end (NE.code (CE.seq (CE.region ?_)))
 iterate 2 refine WD (op_move rfl) rfl ?_
 refine WL.op (op_farith (e := (fop .sub .f32 (fop .quo .f32 (FloatKind.f32.nearest ((1 + p : Nat) : Int)) 1090519040) (fop .quo .f32 (FloatKind.f32.nearest ((1 + q : Nat) : Int)) 1090519040))) (.inr (.inl rfl)) rfl rfl ha hb rfl) rfl rfl (ltb rfl) ?_
 rintro _ w1 ⟨⟨f1, rfl, hf1, lf1⟩, m1⟩
 iterate 2 refine WD (op_move rfl) rfl ?_
 refine WL.op (op_farith (e := (fop .add .f32 (fop .quo .f32 (FloatKind.f32.nearest ((1 + p : Nat) : Int)) 1090519040) (fop .quo .f32 (FloatKind.f32.nearest ((1 + q : Nat) : Int)) 1090519040))) (.inl rfl) rfl rfl ha hb rfl) rfl rfl (ltb rfl) ?_
 rintro _ w2 ⟨⟨f2, rfl, hf2, lf2⟩, m2⟩
 refine WL.op (op_farith (e := (fop .quo .f32 (fop .sub .f32 (fop .quo .f32 (FloatKind.f32.nearest ((1 + p : Nat) : Int)) 1090519040) (fop .quo .f32 (FloatKind.f32.nearest ((1 + q : Nat) : Int)) 1090519040)) (fop .add .f32 (fop .quo .f32 (FloatKind.f32.nearest ((1 + p : Nat) : Int)) 1090519040) (fop .quo .f32 (FloatKind.f32.nearest ((1 + q : Nat) : Int)) 1090519040)))) (.inr (.inr (.inr rfl))) rfl rfl hf1 hf2 rfl) rfl rfl (ltb rfl) ?_
 rintro _ w3 ⟨⟨f3, rfl, hf3, lf3⟩, m3⟩
 refine WD (op_assign rfl) rfl ?_
 refine WL.end (NE.code (CE.seq (CE.seq (CE.region ?_))))
 refine WD (op_move rfl) rfl ?_
 refine WL.call (oc_call (vs := [vF a]) (cap := []) rfl rfl rfl Try.call100 (c_isAreaX a (fop .quo .f32 (FloatKind.f32.nearest ((1 + p : Nat) : Int)) 1090519040) ha (by assumption) (by assumption) w3)) rfl rfl (ltb rfl) ?_
 rintro _ w4 ⟨rfl, m4⟩
 refine WD (op_not rfl) rfl ?_
 refine WD (op_move rfl) rfl ?_
 refine WL.yes rfl rfl rfl (ltb rfl) rfl rfl ?_
 refine WD (op_move rfl) rfl ?_
 refine WL.yes rfl rfl rfl (ltb rfl) rfl rfl ?_
 refine WL.call (oc_call (vs := [vF b]) (cap := []) rfl rfl rfl Try.call100 (c_isAreaX b (fop .quo .f32 (FloatKind.f32.nearest ((1 + q : Nat) : Int)) 1090519040) hb (by assumption) (by assumption) w4)) rfl rfl (ltb rfl) ?_
 rintro _ w5 ⟨rfl, m5⟩
 refine WL.yes rfl rfl rfl (ltb rfl) rfl rfl ?_
 refine WD (op_not rfl) rfl ?_
 refine WD (op_pick_f rfl rfl rfl) rfl ?_
 refine WD (op_move rfl) rfl ?_
 refine WL.yes rfl rfl rfl (ltb rfl) rfl rfl ?_
 refine WD (op_move rfl) rfl ?_
 refine WL.yes rfl rfl rfl (ltb rfl) rfl rfl ?_
 refine WL.call (oc_call (vs := [vF f3]) (cap := []) rfl rfl rfl Try.call92 (c_isFinite f3 (fop .quo .f32 (fop .sub .f32 (fop .quo .f32 (FloatKind.f32.nearest ((1 + p : Nat) : Int)) 1090519040) (fop .quo .f32 (FloatKind.f32.nearest ((1 + q : Nat) : Int)) 1090519040)) (fop .add .f32 (fop .quo .f32 (FloatKind.f32.nearest ((1 + p : Nat) : Int)) 1090519040) (fop .quo .f32 (FloatKind.f32.nearest ((1 + q : Nat) : Int)) 1090519040))) hf3 w5)) rfl rfl (ltb rfl) ?_
 rintro _ w6 ⟨rfl, m6⟩
 refine WL.yes rfl rfl rfl (ltb rfl) rfl rfl ?_
 refine WD (op_not rfl) rfl ?_
 refine WD (op_pick_f rfl rfl rfl) rfl ?_
 refine WL.end (NE.code ?_)
 refine CE.cond_f rfl (bnot_t h5) ?_
 refine CE.skip' (NE.code (CE.seq (CE.region ?_)))
 refine WD (op_move rfl) rfl ?_
 iterate 2 refine WD (op_assign rfl) rfl ?_
 refine WL.end (NE.code (CE.ret' ?_))
 refine XE.leaveT Try.results43 (res_tmp rfl (res_tmp rfl res_nil)) ?_
 refine ⟨f3, rfl, ?_, lf3, (((((((Mod.refl [] w).nt m1).nt m2).nt m3).nt m4).nt m5).nt m6)⟩
 all_goals first | assumption | rfl

end Go.Proofs.Ytnahhdnkbbdceaa
