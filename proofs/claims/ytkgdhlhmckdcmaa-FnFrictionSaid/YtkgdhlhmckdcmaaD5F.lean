/- Bows that are drawn: the loop of steps. -/
import Derived.Test.YtkgdhlhmckdcmaaD3F
import Derived.Test.YtkgdhlhmckdcmaaF6
set_option linter.unusedVariables false
set_option linter.unusedSimpArgs false
namespace Go.Proofs.Ytkgdhlhmckdcmaa

theorem rng0S {n b o p : Nat} {xs : List Nat} {w0 w w' : World} {S : List Nat} (ln : xs.length = n) (hne : 0 < n → b ≠ p) (h0 : Rng w0 b o (bys xs)) (h : Rng w b o (bys xs)) (m : Mod (p :: S) w w') (hS : ∀ c, c ∈ S → w0.heap.size ≤ c) : Rng w' b o (bys xs) := by
  intro i v hv
  have hi : i < (bys xs).length := (List.getElem?_eq_some_iff.1 hv).1
  rw [bys_len, ln] at hi
  have hlt := World.block_lt_of_cell? w0 _ (h0 i v hv)
  exact m.cell (h i v hv) fun hc => by
    have h2 : b < w0.heap.size := hlt
    rcases List.mem_cons.1 hc with e | e
    · exact hne (by omega) e
    · have h1 : w0.heap.size ≤ b := hS _ e
      omega
theorem kept_fin {x : Nat} (h : x < wid .f32) : finF (keptF x) = true := by rw [wid32] at h; exact fin_of (GoodS.kept h).1.2.1
theorem fin_set {xs : List Nat} {i x : Nat} (h : ∀ j, finF (xs.getD j 0) = true) (hx : finF x = true) (j : Nat) : finF ((xs.set i x).getD j 0) = true := by
  rw [List.getD_eq_getElem?_getD, List.getElem?_set]
  split
  · split
    · exact hx
    · have := h j
      rw [List.getD_eq_getElem?_getD, List.getElem?_eq_none (by omega)] at this
      exact this
  · rw [← List.getD_eq_getElem?_getD]; exact h j
theorem fin_zero : finF 0 = true := fin_of (by omega)
theorem fin_zeros (n j : Nat) : finF ((List.replicate n 0).getD j 0) = true := by
  have e : (List.replicate n 0).getD j 0 = 0 := by
    simp only [List.getD_eq_getElem?_getD, List.getElem?_replicate]
    split <;> rfl
  rw [e]; exact fin_zero
theorem one_fin {c0 c1 c2 s0 s1 x : Nat} : finF (stepS 1 c0 c1 c2 s0 s1 x) = true := by
  unfold stepS stepY; rw [if_pos rfl, if_pos rfl]; exact kept_fin (fop_lt _ _ _ _)
theorem one_t {c0 c1 c2 s0 s1 x : Nat} : stepT 1 c0 c1 c2 s0 s1 x = s1 := by unfold stepT; rw [if_pos rfl]
def keepT (u : Nat) : Bool := (!isNaN .f32 (w8 u) && (fGe .f32 (w8 u) 0 && fLt .f32 (w8 u) 1065353216)) && (finF (w8 u) && (finF (fop .sub .f32 1065353216 (w8 u)) && !isNaN .f32 (fop .sub .f32 1065353216 (w8 u))))
theorem keepT_ok : ∀ u, u < 8 → keepT u = true := by decide +kernel
structure KeepOk (kp : Nat) : Prop where
  g : (fGe .f32 kp 0 && fLt .f32 kp 1065353216) = true
  f : finF kp = true
  f1 : finF (fop .sub .f32 1065353216 kp) = true
  n : isNaN .f32 (fop .sub .f32 1065353216 kp) = false
theorem keepOk_of {u kp : Nat} (h : cn .f32 kp = cn .f32 (w8 u)) (hu : u < 8) : KeepOk kp := by
  have k := keepT_ok u hu
  simp only [keepT, Bool.and_eq_true, Bool.not_eq_true'] at k
  have e : kp = w8 u := eq_of_cn h k.1.1
  rw [e]; exact ⟨by rw [Bool.and_eq_true]; exact k.1.2, k.2.1, k.2.2.1, k.2.2.2⟩
def lossT (u : Nat) : Bool := !isNaN .f32 (w16 u) && ((fGe .f32 (w16 u) 0 && fLe .f32 (w16 u) 1065353216) && finF (w16 u))
theorem lossT_ok : ∀ u, u < 17 → lossT u = true := by decide +kernel
theorem loss_of {u lo : Nat} (h : cn .f32 lo = cn .f32 (w16 u)) (hu : u < 17) : (fGe .f32 lo 0 && fLe .f32 lo 1065353216) = true ∧ finF lo = true := by
  have k := lossT_ok u hu
  simp only [lossT, Bool.and_eq_true, Bool.not_eq_true'] at k
  have e : lo = w16 u := eq_of_cn h k.1
  rw [e]; exact ⟨by rw [Bool.and_eq_true]; exact k.2.1, k.2.2⟩
def slopeT (u : Nat) : Bool := !isNaN .f32 (w8 u) && finF (w8 u)
theorem slopeT_ok : ∀ u, u < 33 → slopeT u = true := by decide +kernel
theorem slope_of {u sl : Nat} (h : cn .f32 sl = cn .f32 (w8 u)) (hu : u < 33) : finF sl = true := by
  have k := slopeT_ok u hu
  simp only [slopeT, Bool.and_eq_true, Bool.not_eq_true'] at k
  have e : sl = w8 u := eq_of_cn h k.1
  rw [e]; exact k.2
theorem bow_valid {n m i h c0 c1 s0 s1 sl lo : Nat} {xs ys : List Nat} (n1 : n ≤ 1024) (m1 : m ≤ 1024) (hi : i < n) (hh : h < m) (fx : ∀ j, finF (xs.getD j 0) = true) (fy : ∀ j, finF (ys.getD j 0) = true) (f0 : finF c0 = true) (f1 : finF c1 = true) (g0 : finF s0 = true) (g1 : s1 = 0) (hs : finF sl = true) (hl : finF lo = true) : vBow n ((i : Nat) : Int) m ((h : Nat) : Int) xs ys 1 c0 c1 0 s0 s1 sl lo = true := by
  have a1 : vRingF n ((i : Nat) : Int) xs = true := by
    rw [vRingF, vRing_i hi n1, Bool.true_and]; exact List.all_eq_true.2 fun j _ => fx j
  have a2 : vRingF m ((h : Nat) : Int) ys = true := by
    rw [vRingF, vRing_i hh m1, Bool.true_and]; exact List.all_eq_true.2 fun j _ => fy j
  have a3 : vFil 1 c0 c1 0 s0 s1 = true := by
    rw [g1]
    simp [vFil, usedF, usesC, usesS, List.range_succ, okF, f0, f1, g0, fin_zero, cn_zero]
  unfold vBow
  rw [a1, a2, a3]
  simp [allF, List.range_succ, hs, hl]

set_option maxRecDepth 100000 in
set_option maxHeartbeats 2000000 in
theorem c_l05DrawnBow (n : Nat) (c : Nat) (A : Option Addr) (b : Nat) (o : Nat) (xs : List Nat) (p : Nat) (ln : xs.length = n) (hA : 0 < n → A = some ⟨b, o, none⟩) (hB : ∀ i, xs.getD i 0 < 256) (hn : n ≤ 4611686018427387904) (nbp : 0 < n → b ≠ p) (w : World) (q : Row w p 0 [.slice A n c, vI 0, .int .u64 0]) (r : Rng w b o (bys xs)) : Cl Try.prog 76 #[vP p 0] w fun v w' => ∃ (b' : Nat) (d' : Nat) (nn : Nat) (mm : Nat) (ii : Nat) (hh : Nat) (xs8 : List Nat) (ys8 : List Nat) (c0_ : Nat) (c1_ : Nat) (t0_ : Nat) (t1_ : Nat) (sl_ : Nat) (lo_ : Nat), v = .agg #[vS b' 0 nn nn, vI ((ii : Nat) : Int), vS d' 0 mm mm, vI ((hh : Nat) : Int), vI 1, vF c0_, vF c1_, vF 0, vF t0_, vF t1_, vF sl_, vF lo_] ∧ (xs8.length = nn) ∧ (ys8.length = mm) ∧ (nn ≤ 1024) ∧ (mm ≤ 1024) ∧ (ii < nn) ∧ (hh < mm) ∧ (W32 xs8) ∧ (W32 ys8) ∧ (t0_ < wid .f32) ∧ (t1_ < wid .f32) ∧ (vBow nn ((ii : Nat) : Int) mm ((hh : Nat) : Int) xs8 ys8 1 c0_ c1_ 0 t0_ t1_ sl_ lo_ = true) ∧ Row w' b' 0 (fl xs8) ∧ Row w' d' 0 (fl ys8) ∧ w.heap.size ≤ b' ∧ w.heap.size ≤ d' ∧ b' ≠ d' ∧ Mod [p] w w' := by
  refine Cl.of Try.func76 Try.ntmps76 rfl rfl (ρ := [(0, vP p 0)]) rfl ?_
  refine CE.seq ?_
  refine CE.region ?_
  refine WL.op (op_alloc (cs := [.slice none 0 0, vI 0, .slice none 0 0, vI 0, vI 0, vF 0, vF 0, vF 0, vF 0, vF 0, vF 0, vF 0]) Try.zeroValue36 rfl) rfl rfl (ltb rfl) ?_
  rintro _ w1 ⟨rfl, r1, m1, z1⟩
  refine WL.end ?_
  refine NE.code ?_
  refine CE.seq ?_
  refine CE.region ?_
  refine WL.det (op_move rfl) rfl rfl rfl ?_
  refine WL.call (oc_call (vs := [vP p 0, vI 9]) (cap := []) rfl rfl rfl Try.call74 (c_pick n c A b o xs 0 0 p 9 ln hA hB (by omega) (by omega) (by omega) (by omega) (by omega) w1 (q.ext m1) (r.ext m1))) rfl rfl (ltb rfl) ?_
  rintro _ w2 ⟨u1, s1, rfl, h1, h2, r2, m2⟩
  refine WL.det (op_cvt_if rfl Try.runUnderlying2 Try.runUnderlying25) rfl rfl rfl ?_
  refine WL.op (op_farith (e := (fop .quo .f32 (FloatKind.f32.nearest ((u1 : Nat) : Int)) 1090519040)) (.inr (.inr (.inr rfl))) rfl rfl rfl rfl rfl) rfl rfl (ltb rfl) ?_
  rintro _ w3 ⟨⟨f1, rfl, hf1, lf1⟩, m3⟩
  refine WL.det (op_assign rfl) rfl rfl rfl ?_
  refine WL.end ?_
  refine NE.code ?_
  refine CE.seq ?_
  refine CE.region ?_
  refine WL.det (op_move rfl) rfl rfl rfl ?_
  refine WL.call (oc_call (vs := [vP p 0, vI 8]) (cap := []) rfl rfl rfl Try.call74 (c_pick n c A b o xs (0 + 1) s1 p 8 ln hA hB (by omega) (by omega) (by omega) (by omega) (by omega) w3 (r2.ext m3) ((rng0 ln nbp (r.ext m1) m2).ext m3))) rfl rfl (ltb rfl) ?_
  rintro _ w4 ⟨u2, s2, rfl, h3, h4, r3, m4⟩
  refine WL.det (op_cvt_if rfl Try.runUnderlying2 Try.runUnderlying25) rfl rfl rfl ?_
  refine WL.op (op_farith (e := (fop .quo .f32 (FloatKind.f32.nearest ((u2 : Nat) : Int)) 1090519040)) (.inr (.inr (.inr rfl))) rfl rfl rfl rfl rfl) rfl rfl (ltb rfl) ?_
  rintro _ w5 ⟨⟨f2, rfl, hf2, lf2⟩, m5⟩
  refine WL.det (op_assign rfl) rfl rfl rfl ?_
  refine WL.end ?_
  refine NE.code ?_
  refine CE.seq ?_
  refine CE.region ?_
  refine WL.det (op_move rfl) rfl rfl rfl ?_
  refine WL.call (oc_call (vs := [vP p 0, vI 17]) (cap := []) rfl rfl rfl Try.call74 (c_pick n c A b o xs ((0 + 1) + 1) s2 p 17 ln hA hB (by omega) (by omega) (by omega) (by omega) (by omega) w5 (r3.ext m5) ((rng0 ln nbp ((rng0 ln nbp (r.ext m1) m2).ext m3) m4).ext m5))) rfl rfl (ltb rfl) ?_
  rintro _ w6 ⟨u3, s3, rfl, h5, h6, r4, m6⟩
  refine WL.det (op_cvt_if rfl Try.runUnderlying2 Try.runUnderlying25) rfl rfl rfl ?_
  refine WL.op (op_farith (e := (fop .quo .f32 (FloatKind.f32.nearest ((u3 : Nat) : Int)) 1098907648)) (.inr (.inr (.inr rfl))) rfl rfl rfl rfl rfl) rfl rfl (ltb rfl) ?_
  rintro _ w7 ⟨⟨f3, rfl, hf3, lf3⟩, m7⟩
  refine WL.det (op_assign rfl) rfl rfl rfl ?_
  refine WL.end ?_
  refine NE.code ?_
  refine CE.seq ?_
  refine CE.region ?_
  refine WL.det (op_move rfl) rfl rfl rfl ?_
  refine WL.call (oc_call (vs := [vP p 0, vI 8]) (cap := []) rfl rfl rfl Try.call74 (c_pick n c A b o xs (((0 + 1) + 1) + 1) s3 p 8 ln hA hB (by omega) (by omega) (by omega) (by omega) (by omega) w7 (r4.ext m7) ((rng0 ln nbp ((rng0 ln nbp ((rng0 ln nbp (r.ext m1) m2).ext m3) m4).ext m5) m6).ext m7))) rfl rfl (ltb rfl) ?_
  rintro _ w8 ⟨u4, s4, rfl, h7, h8, r5, m8⟩
  refine WL.det (op_add (r := ((2 + u4 : Nat) : Int)) rfl rfl (w_i64 (by omega) (by omega))) rfl rfl rfl ?_
  refine WL.det (op_move rfl) rfl rfl rfl ?_
  refine WL.det (op_move rfl) rfl rfl rfl ?_
  refine WL.det (op_move rfl) rfl rfl rfl ?_
  refine WL.det (op_move rfl) rfl rfl rfl ?_
  refine WL.call (oc_call (vs := [vP p 0, vI 33]) (cap := []) rfl rfl rfl Try.call74 (c_pick n c A b o xs ((((0 + 1) + 1) + 1) + 1) s4 p 33 ln hA hB (by omega) (by omega) (by omega) (by omega) (by omega) w8 r5 (rng0 ln nbp ((rng0 ln nbp ((rng0 ln nbp ((rng0 ln nbp (r.ext m1) m2).ext m3) m4).ext m5) m6).ext m7) m8))) rfl rfl (ltb rfl) ?_
  rintro _ w9 ⟨u5, s5, rfl, h9, h10, r6, m9⟩
  refine WL.det (op_cvt_if rfl Try.runUnderlying2 Try.runUnderlying25) rfl rfl rfl ?_
  refine WL.op (op_farith (e := (fop .quo .f32 (FloatKind.f32.nearest ((u5 : Nat) : Int)) 1090519040)) (.inr (.inr (.inr rfl))) rfl rfl rfl rfl rfl) rfl rfl (ltb rfl) ?_
  rintro _ w10 ⟨⟨f4, rfl, hf4, lf4⟩, m10⟩
  refine WL.call (oc_call (vs := [vI ((2 + u4 : Nat) : Int), vF f1, vF f2, vF f3, vF f4]) (cap := []) rfl rfl rfl Try.call110 (c_NewBowF (2 + u4) f1 f2 f3 f4 (by omega) (by omega) lf2 (by first | assumption | exact (place_of (by assumption) (by assumption) (by assumption)).1) (by first | assumption | exact (keepOk_of (by assumption) (by assumption)).g) (by first | assumption | exact (loss_of (by assumption) (by assumption)).1) (by first | assumption | exact slope_of (by assumption) (by assumption)) (by first | assumption | exact (keepOk_of (by assumption) (by assumption)).n) (by first | assumption | exact (place_of (by assumption) (by assumption) (by assumption)).2) w10)) rfl rfl (ltb rfl) ?_
  rintro _ w11 ⟨b'1, d'1, p1, rfl, h11, h12, r7, r8, ge1, ge2, ne1, m11⟩
  refine WL.det (op_move rfl) rfl rfl rfl ?_
  refine WL.det (op_extract rfl rfl) rfl rfl rfl ?_
  refine WL.det (op_extract rfl rfl) rfl rfl rfl ?_
  refine WL.op (op_alloc (cs := [.slice none 0 0, vI 0, .slice none 0 0, vI 0, vI 0, vF 0, vF 0, vF 0, vF 0, vF 0, vF 0, vF 0]) Try.zeroValue36 rfl) rfl rfl (ltb rfl) ?_
  rintro _ w12 ⟨rfl, r9, m12, z2⟩
  refine WL.op0 (op_store (i := 0) (cs := [vS b'1 0 ((2 + u4) - p1) ((2 + u4) - p1), vI 0, vS d'1 0 p1 p1, vI 0, vI 1, vF (fop .sub .f32 1065353216 f2), vF f2, vF 0, vF 0, vF 0, vF f4, vF f3]) rfl rfl rfl Try.sizeOf36 rfl r9 rfl (lB rfl) rfl) rfl rfl ?_
  rintro _ w13 ⟨r10, m13, z3⟩
  have r11 : Row w13 w11.heap.size 0 [vS b'1 0 ((2 + u4) - p1) ((2 + u4) - p1), vI 0, vS d'1 0 p1 p1, vI 0, vI 1, vF (fop .sub .f32 1065353216 f2), vF f2, vF 0, vF 0, vF 0, vF f4, vF f3] := Row.congr r10 rfl
  refine WL.det (op_assign rfl) rfl rfl rfl ?_
  refine WL.end ?_
  refine NE.code ?_
  refine CE.seq ?_
  refine CE.seq ?_
  refine CE.region ?_
  refine WL.det (op_move rfl) rfl rfl rfl ?_
  refine WL.call (oc_call (vs := [vP p 0, vI 12]) (cap := []) rfl rfl rfl Try.call74 (c_pick n c A b o xs (((((0 + 1) + 1) + 1) + 1) + 1) s5 p 12 ln hA hB (by omega) (by omega) (by omega) (by omega) (by omega) w13 ((((r6.ext m10).ext m11).ext m12).mod m13 (nC (lE (lL (lL q.lt (lT (lT (lT (lT (lT (lT (lT (lT (lT (lT m1.size m2.size) m3.size) m4.size) m5.size) m6.size) m7.size) m8.size) m9.size) m10.size) m11.size)) lR)) nN)) (Rng.youngS r ((((rng0 ln nbp (rng0 ln nbp ((rng0 ln nbp ((rng0 ln nbp ((rng0 ln nbp (r.ext m1) m2).ext m3) m4).ext m5) m6).ext m7) m8) m9).ext m10).ext m11).ext m12) m13 (allge_cons (lT (lT (lT (lT (lT (lT (lT (lT (lT (lT (lT m1.size m2.size) m3.size) m4.size) m5.size) m6.size) m7.size) m8.size) m9.size) m10.size) m11.size) lR) allge_nil)))) rfl rfl (ltb rfl) ?_
  rintro _ w14 ⟨u6, s6, rfl, h13, h14, r12, m14⟩
  refine WL.det (op_assign rfl) rfl rfl rfl ?_
  refine WL.end ?_
  refine NE.code ?_
  refine CE.block ?_
  refine CE.loop (fun (z : Nat × Nat × Nat × Nat × Nat × List Nat × List Nat × Nat × Nat) => [(8, vI ((z.1 : Nat) : Int)), (0, vP p 0), (2, vP w.heap.size 0), (6, vP w11.heap.size 0)]) (fun (z : Nat × Nat × Nat × Nat × Nat × List Nat × List Nat × Nat × Nat) => fun W => (z.2.1 + 8 * z.1 ≤ 200) ∧ (z.2.2.1 < 18446744073709551616) ∧ (z.2.2.2.1 < (2 + u4 - p1)) ∧ (z.2.2.2.2.1 < p1) ∧ (z.2.2.2.2.2.1.length = (2 + u4 - p1)) ∧ (z.2.2.2.2.2.2.1.length = p1) ∧ (W32 z.2.2.2.2.2.1) ∧ (W32 z.2.2.2.2.2.2.1) ∧ (∀ j, finF (z.2.2.2.2.2.1.getD j 0) = true) ∧ (∀ j, finF (z.2.2.2.2.2.2.1.getD j 0) = true) ∧ (z.2.2.2.2.2.2.2.1 < wid .f32) ∧ (z.2.2.2.2.2.2.2.2 < wid .f32) ∧ (finF z.2.2.2.2.2.2.2.1 = true) ∧ (z.2.2.2.2.2.2.2.2 = 0) ∧ Row W p 0 [.slice A n c, vI ((z.2.1 : Nat) : Int), .int .u64 ((z.2.2.1 : Nat) : Int)] ∧ Row W w11.heap.size 0 [vS b'1 0 (2 + u4 - p1) (2 + u4 - p1), vI ((z.2.2.2.1 : Nat) : Int), vS d'1 0 p1 p1, vI ((z.2.2.2.2.1 : Nat) : Int), vI 1, vF (fop .sub .f32 1065353216 f2), vF f2, vF 0, vF z.2.2.2.2.2.2.2.1, vF z.2.2.2.2.2.2.2.2, vF f4, vF f3] ∧ Row W b'1 0 (fl z.2.2.2.2.2.1) ∧ Row W d'1 0 (fl z.2.2.2.2.2.2.1) ∧ Mod [p, w11.heap.size, b'1, d'1] w14 W) (fun (z : Nat × Nat × Nat × Nat × Nat × List Nat × List Nat × Nat × Nat) => z.1) (u6, ((((((0 + 1) + 1) + 1) + 1) + 1) + 1), s6, 0, 0, (List.replicate (2 + u4 - p1) 0), (List.replicate p1 0), 0, 0) (⟨rfl, rfl, rfl, rfl, trivial⟩) ⟨(by dsimp only; omega), (by dsimp only; first | assumption | omega), (by dsimp only; omega), (by dsimp only; omega), (by exact List.length_replicate), (by exact List.length_replicate), (by exact W32.zeros _), (by exact W32.zeros _), (by exact fin_zeros _), (by exact fin_zeros _), (by show (0 : Nat) < wid .f32; decide +kernel), (by show (0 : Nat) < wid .f32; decide +kernel), (by exact fin_zero), (by rfl), (Row.congr r12 rfl), (Row.congr (r11.mod m14 (nC (lG (lL (lL q.lt (lT (lT (lT (lT (lT (lT (lT (lT (lT (lT m1.size m2.size) m3.size) m4.size) m5.size) m6.size) m7.size) m8.size) m9.size) m10.size) m11.size)) lR)) nN)) rfl), (Row.congr (((r7.ext m12).mod m13 (nC (lE (lL r7.lt lR)) nN)).mod m14 (nC (lG (lL (lL q.lt (lT (lT (lT (lT (lT (lT (lT (lT (lT m1.size m2.size) m3.size) m4.size) m5.size) m6.size) m7.size) m8.size) m9.size) m10.size)) ge1)) nN)) rfl), (Row.congr (((r8.ext m12).mod m13 (nC (lE (lL r8.lt lR)) nN)).mod m14 (nC (lG (lL (lL q.lt (lT (lT (lT (lT (lT (lT (lT (lT (lT m1.size m2.size) m3.size) m4.size) m5.size) m6.size) m7.size) m8.size) m9.size) m10.size)) ge2)) nN)) rfl), Mod.refl _ _⟩ ?_
  rintro ⟨k, at_, s, i, h, xs9, ys9, s0, s1⟩ w15 ⟨ha, hs, hi9, hh9, hlx, hly, hwx, hwy, hfx, hfy, hs0, hs1, hf0, h10, r13, r14, r15, r16, m15⟩
  replace ha : at_ + 8 * k ≤ 200 := ha
  replace hs : s < 18446744073709551616 := hs
  replace hi9 : i < (2 + u4 - p1) := hi9
  replace hh9 : h < p1 := hh9
  replace hlx : xs9.length = (2 + u4 - p1) := hlx
  replace hly : ys9.length = p1 := hly
  replace hwx : W32 xs9 := hwx
  replace hwy : W32 ys9 := hwy
  replace hfx : ∀ j, finF (xs9.getD j 0) = true := hfx
  replace hfy : ∀ j, finF (ys9.getD j 0) = true := hfy
  replace hs0 : s0 < wid .f32 := hs0
  replace hs1 : s1 < wid .f32 := hs1
  replace hf0 : finF s0 = true := hf0
  replace h10 : s1 = 0 := h10
  replace r13 : Row w15 p 0 [.slice A n c, vI ((at_ : Nat) : Int), .int .u64 ((s : Nat) : Int)] := r13
  replace r14 : Row w15 w11.heap.size 0 [vS b'1 0 (2 + u4 - p1) (2 + u4 - p1), vI ((i : Nat) : Int), vS d'1 0 p1 p1, vI ((h : Nat) : Int), vI 1, vF (fop .sub .f32 1065353216 f2), vF f2, vF 0, vF s0, vF s1, vF f4, vF f3] := r14
  replace r15 : Row w15 b'1 0 (fl xs9) := r15
  replace r16 : Row w15 d'1 0 (fl ys9) := r16
  show CE _ _ _ _ [(8, vI ((k : Nat) : Int)), (0, vP p 0), (2, vP w.heap.size 0), (6, vP w11.heap.size 0)] _
  refine CE.seq ?_
  refine CE.seq ?_
  refine CE.region ?_
  refine WL.det (op_move rfl) rfl rfl rfl ?_
  refine WL.det (op_gti rfl rfl) rfl rfl rfl ?_
  refine WL.end ?_
  refine NE.code ?_
  rcases Bool.eq_false_or_eq_true (decide ((0 : Int) < ((k : Nat) : Int))) with hb1 | hb1
  · have hp1 := of_decide_eq_true hb1
    refine CE.cond_t rfl hb1 ?_
    refine CE.skip' ?_
    refine NE.code ?_
    refine CE.seq ?_
    refine CE.block ?_
    refine CE.region ?_
    refine WL.det (op_move rfl) rfl rfl rfl ?_
    refine WL.call (oc_call (vs := [vP p 0]) (cap := []) rfl rfl rfl Try.call72 (c_l01PlainN n c A b o xs at_ s p ln hA hB (by omega) (by omega) (by omega) (by first | assumption | (intro h0; have hlt := Rng.lt r (by rw [bys_len, ln]; exact h0); omega)) w15 r13 (rng0S ln nbp r (rng0 ln nbp (Rng.youngS r ((((rng0 ln nbp (rng0 ln nbp ((rng0 ln nbp ((rng0 ln nbp ((rng0 ln nbp (r.ext m1) m2).ext m3) m4).ext m5) m6).ext m7) m8) m9).ext m10).ext m11).ext m12) m13 (allge_cons (lT (lT (lT (lT (lT (lT (lT (lT (lT (lT (lT m1.size m2.size) m3.size) m4.size) m5.size) m6.size) m7.size) m8.size) m9.size) m10.size) m11.size) lR) allge_nil)) m14) m15 (allge_cons (lT (lT (lT (lT (lT (lT (lT (lT (lT (lT (lT m1.size m2.size) m3.size) m4.size) m5.size) m6.size) m7.size) m8.size) m9.size) m10.size) m11.size) lR) (allge_cons (lT (lT (lT (lT (lT (lT (lT (lT (lT (lT m1.size m2.size) m3.size) m4.size) m5.size) m6.size) m7.size) m8.size) m9.size) m10.size) ge1) (allge_cons (lT (lT (lT (lT (lT (lT (lT (lT (lT (lT m1.size m2.size) m3.size) m4.size) m5.size) m6.size) m7.size) m8.size) m9.size) m10.size) ge2) allge_nil)))))) rfl rfl (ltb rfl) ?_
    rintro _ w16 ⟨r_1, a1, s7, rfl, h15, h16, h17, h18, r17, m16⟩
    refine WL.call (oc_call (vs := [vP w11.heap.size 0, vF r_1]) (cap := []) rfl rfl rfl Try.call84 (c_l05Step (2 + u4 - p1) (2 + u4 - p1) b'1 xs9 p1 p1 d'1 ys9 i h (1 : Int) (fop .sub .f32 1065353216 f2) f2 0 s0 s1 f4 f3 w11.heap.size 0 [vS b'1 0 (2 + u4 - p1) (2 + u4 - p1), vI ((i : Nat) : Int), vS d'1 0 p1 p1, vI ((h : Nat) : Int), vI 1, vF (fop .sub .f32 1065353216 f2), vF f2, vF 0, vF s0, vF s1, vF f4, vF f3] r_1 r_1 hlx hly (by omega) (by omega) (by omega) (by omega) hs0 hs1 (lB rfl) hwx hwy rfl h15 w16 (Row.congr (r14.mod m16 (nC (lG (lL (lL q.lt (lT (lT (lT (lT (lT (lT (lT (lT (lT (lT m1.size m2.size) m3.size) m4.size) m5.size) m6.size) m7.size) m8.size) m9.size) m10.size) m11.size)) lR)) nN)) rfl) (r15.mod m16 (nC (lG (lL (lL q.lt (lT (lT (lT (lT (lT (lT (lT (lT (lT m1.size m2.size) m3.size) m4.size) m5.size) m6.size) m7.size) m8.size) m9.size) m10.size)) ge1)) nN)) (r16.mod m16 (nC (lG (lL (lL q.lt (lT (lT (lT (lT (lT (lT (lT (lT (lT m1.size m2.size) m3.size) m4.size) m5.size) m6.size) m7.size) m8.size) m9.size) m10.size)) ge2)) nN)) (lG (lL r7.lt lR)) (lG (lL r8.lt lR)) ne1)) rfl rfl (ltb rfl) ?_
    rintro _ w17 ⟨rfl, h19, h20, h21, h22, r18, r19, r20, m17⟩
    have r21 : Row w17 w11.heap.size 0 [vS b'1 0 (2 + u4 - p1) (2 + u4 - p1), vI (((i + 1) % (2 + u4 - p1) : Nat) : Int), vS d'1 0 p1 p1, vI (((h + 1) % p1 : Nat) : Int), vI 1, vF (fop .sub .f32 1065353216 f2), vF f2, vF 0, vF (stepS (1 : Int) (fop .sub .f32 1065353216 f2) f2 0 s0 s1 (ys9.getD h 0)), vF (stepT (1 : Int) (fop .sub .f32 1065353216 f2) f2 0 s0 s1 (ys9.getD h 0)), vF f4, vF f3] := r18
    refine WL.end ?_
    refine NE.blk ?_
    refine NE.code ?_
    refine CE.region ?_
    refine WL.det (op_move rfl) rfl rfl rfl ?_
    refine WL.det (op_sub (r := ((k - 1 : Nat) : Int)) rfl rfl (w_nsub (l := k) (n := 1) (by omega) (by omega))) rfl rfl rfl ?_
    refine WL.det (op_assign rfl) rfl rfl rfl ?_
    refine WL.end ?_
    exact NE.again ((k - 1), a1, s7, ((i + 1) % (2 + u4 - p1)), ((h + 1) % p1), (xs9.set i (keptF (fop .add .f32 (Op.negFloat .f32 (fop .mul .f32 f3 (stepY (1 : Int) (fop .sub .f32 1065353216 f2) f2 0 s0 s1 (ys9.getD h 0)))) (fop .mul .f32 (fop .sub .f32 r_1 (fop .add .f32 (Op.negFloat .f32 (fop .mul .f32 f3 (stepY (1 : Int) (fop .sub .f32 1065353216 f2) f2 0 s0 s1 (ys9.getD h 0)))) (Op.negFloat .f32 (xs9.getD i 0)))) (fricF f4 (fop .sub .f32 r_1 (fop .add .f32 (Op.negFloat .f32 (fop .mul .f32 f3 (stepY (1 : Int) (fop .sub .f32 1065353216 f2) f2 0 s0 s1 (ys9.getD h 0)))) (Op.negFloat .f32 (xs9.getD i 0))))))))), (ys9.set h (keptF (fop .add .f32 (Op.negFloat .f32 (xs9.getD i 0)) (fop .mul .f32 (fop .sub .f32 r_1 (fop .add .f32 (Op.negFloat .f32 (fop .mul .f32 f3 (stepY (1 : Int) (fop .sub .f32 1065353216 f2) f2 0 s0 s1 (ys9.getD h 0)))) (Op.negFloat .f32 (xs9.getD i 0)))) (fricF f4 (fop .sub .f32 r_1 (fop .add .f32 (Op.negFloat .f32 (fop .mul .f32 f3 (stepY (1 : Int) (fop .sub .f32 1065353216 f2) f2 0 s0 s1 (ys9.getD h 0)))) (Op.negFloat .f32 (xs9.getD i 0))))))))), (stepS (1 : Int) (fop .sub .f32 1065353216 f2) f2 0 s0 s1 (ys9.getD h 0)), (stepT (1 : Int) (fop .sub .f32 1065353216 f2) f2 0 s0 s1 (ys9.getD h 0))) (⟨rfl, rfl, rfl, rfl, trivial⟩) ⟨(by dsimp only; omega), (by assumption), (by exact Nat.mod_lt _ (by omega)), (by exact Nat.mod_lt _ (by omega)), (by exact (List.length_set).trans hlx), (by exact (List.length_set).trans hly), (by exact W32.set hwx (by assumption)), (by exact W32.set hwy (by assumption)), (by exact fin_set hfx (kept_fin (fop_lt _ _ _ _))), (by exact fin_set hfy (kept_fin (fop_lt _ _ _ _))), (by assumption), (by assumption), (by exact one_fin), (by dsimp only; rw [one_t]; exact h10), (Row.congr (r17.mod m17 (nC (lE (lL (lL q.lt (lT (lT (lT (lT (lT (lT (lT (lT (lT (lT m1.size m2.size) m3.size) m4.size) m5.size) m6.size) m7.size) m8.size) m9.size) m10.size) m11.size)) lR)) (nC (lE (lL (lL q.lt (lT (lT (lT (lT (lT (lT (lT (lT (lT m1.size m2.size) m3.size) m4.size) m5.size) m6.size) m7.size) m8.size) m9.size) m10.size)) ge1)) (nC (lE (lL (lL q.lt (lT (lT (lT (lT (lT (lT (lT (lT (lT m1.size m2.size) m3.size) m4.size) m5.size) m6.size) m7.size) m8.size) m9.size) m10.size)) ge2)) nN)))) rfl), (Row.congr r21 rfl), (Row.congr r19 rfl), (Row.congr r20 rfl), ((m15.then m16 ((aC (.inl (by simp)) aN))).then m17 ((aC (.inl (by simp)) (aC (.inl (by simp)) (aC (.inl (by simp)) aN)))))⟩ (by first | (dsimp only; omega) | omega)
  · have hp1 := of_decide_eq_false hb1
    refine CE.cond_f rfl hb1 ?_
    refine CE.exit' ?_
    refine XE.exit_then ?_
    refine XE.exit_then ?_
    refine XE.exit_here ?_
    refine NE.code ?_
    refine CE.seq ?_
    refine CE.region ?_
    refine WL.det (op_loadA (i := 0) (cs := [vS b'1 0 (2 + u4 - p1) (2 + u4 - p1), vI ((i : Nat) : Int), vS d'1 0 p1 p1, vI ((h : Nat) : Int), vI 1, vF (fop .sub .f32 1065353216 f2), vF f2, vF 0, vF s0, vF s1, vF f4, vF f3]) rfl Try.isAgg36 Try.sizeOf36 r14.rng rfl rfl rfl) rfl rfl rfl ?_
    refine WL.op0 (op_store (i := 0) (cs := [vS b'1 0 (2 + u4 - p1) (2 + u4 - p1), vI ((i : Nat) : Int), vS d'1 0 p1 p1, vI ((h : Nat) : Int), vI 1, vF (fop .sub .f32 1065353216 f2), vF f2, vF 0, vF s0, vF s1, vF f4, vF f3]) rfl rfl rfl Try.sizeOf36 rfl ((((((((((((((r1.mod m2 (nC (lG (lL q.lt lR)) nN)).ext m3).mod m4 (nC (lG (lL q.lt lR)) nN)).ext m5).mod m6 (nC (lG (lL q.lt lR)) nN)).ext m7).mod m8 (nC (lG (lL q.lt lR)) nN)).mod m9 (nC (lG (lL q.lt lR)) nN)).ext m10).ext m11).ext m12).mod m13 (nC (lE (lL (lL r1.lt (lT (lT (lT (lT (lT (lT (lT (lT (lT m2.size m3.size) m4.size) m5.size) m6.size) m7.size) m8.size) m9.size) m10.size) m11.size)) lR)) nN)).mod m14 (nC (lG (lL q.lt lR)) nN)).mod m15 (nC (lG (lL q.lt lR)) (nC (lE (lL (lL r1.lt (lT (lT (lT (lT (lT (lT (lT (lT (lT m2.size m3.size) m4.size) m5.size) m6.size) m7.size) m8.size) m9.size) m10.size) m11.size)) lR)) (nC (lE (lL (lL r1.lt (lT (lT (lT (lT (lT (lT (lT (lT m2.size m3.size) m4.size) m5.size) m6.size) m7.size) m8.size) m9.size) m10.size)) ge1)) (nC (lE (lL (lL r1.lt (lT (lT (lT (lT (lT (lT (lT (lT m2.size m3.size) m4.size) m5.size) m6.size) m7.size) m8.size) m9.size) m10.size)) ge2)) nN))))) rfl (lB rfl) rfl) rfl rfl ?_
    rintro _ w18 ⟨r22, m18, z4⟩
    have r23 : Row w18 w.heap.size 0 [vS b'1 0 (2 + u4 - p1) (2 + u4 - p1), vI ((i : Nat) : Int), vS d'1 0 p1 p1, vI ((h : Nat) : Int), vI 1, vF (fop .sub .f32 1065353216 f2), vF f2, vF 0, vF s0, vF s1, vF f4, vF f3] := Row.congr r22 rfl
    refine WL.end ?_
    refine NE.code ?_
    refine CE.ret' ?_
    refine XE.leaveC Try.results76 (res_agg (cs := [vS b'1 0 (2 + u4 - p1) (2 + u4 - p1), vI ((i : Nat) : Int), vS d'1 0 p1 p1, vI ((h : Nat) : Int), vI 1, vF (fop .sub .f32 1065353216 f2), vF f2, vF 0, vF s0, vF s1, vF f4, vF f3]) rfl Try.isAgg36 Try.sizeOf36 r23.rng rfl res_nil) ?_
    refine ⟨b'1, d'1, (2 + u4 - p1), p1, i, h, xs9, ys9, (fop .sub .f32 1065353216 f2), f2, s0, s1, f4, f3, rfl, ?_, ?_, ?_, ?_, ?_, ?_, ?_, ?_, hs0, hs1, ?_, (r15.mod m18 (nC (lG (lL (lL r1.lt (lT (lT (lT (lT (lT (lT (lT (lT m2.size m3.size) m4.size) m5.size) m6.size) m7.size) m8.size) m9.size) m10.size)) ge1)) nN)), (r16.mod m18 (nC (lG (lL (lL r1.lt (lT (lT (lT (lT (lT (lT (lT (lT m2.size m3.size) m4.size) m5.size) m6.size) m7.size) m8.size) m9.size) m10.size)) ge2)) nN)), (lT (lT (lT (lT (lT (lT (lT (lT (lT (lT m1.size m2.size) m3.size) m4.size) m5.size) m6.size) m7.size) m8.size) m9.size) m10.size) ge1), (lT (lT (lT (lT (lT (lT (lT (lT (lT (lT m1.size m2.size) m3.size) m4.size) m5.size) m6.size) m7.size) m8.size) m9.size) m10.size) ge2), ne1, (((((((((((((((((Mod.refl [p] w).nt m1).then m2 ((aC (.inl (by simp)) aN))).nt m3).then m4 ((aC (.inl (by simp)) aN))).nt m5).then m6 ((aC (.inl (by simp)) aN))).nt m7).then m8 ((aC (.inl (by simp)) aN))).then m9 ((aC (.inl (by simp)) aN))).nt m10).nt m11).nt m12).then m13 ((aC (.inr (lT (lT (lT (lT (lT (lT (lT (lT (lT (lT (lT m1.size m2.size) m3.size) m4.size) m5.size) m6.size) m7.size) m8.size) m9.size) m10.size) m11.size) lR)) aN))).then m14 ((aC (.inl (by simp)) aN))).then m15 ((aC (.inl (by simp)) (aC (.inr (lT (lT (lT (lT (lT (lT (lT (lT (lT (lT (lT m1.size m2.size) m3.size) m4.size) m5.size) m6.size) m7.size) m8.size) m9.size) m10.size) m11.size) lR)) (aC (.inr (lT (lT (lT (lT (lT (lT (lT (lT (lT (lT m1.size m2.size) m3.size) m4.size) m5.size) m6.size) m7.size) m8.size) m9.size) m10.size) ge1)) (aC (.inr (lT (lT (lT (lT (lT (lT (lT (lT (lT (lT m1.size m2.size) m3.size) m4.size) m5.size) m6.size) m7.size) m8.size) m9.size) m10.size) ge2)) aN)))))).then m18 ((aC (.inr lR) aN)))⟩
    all_goals first | assumption | omega | exact bow_valid (by omega) (by omega) hi9 hh9 hfx hfy (keepOk_of (by assumption) (by assumption)).f1 (keepOk_of (by assumption) (by assumption)).f hf0 h10 (slope_of (by assumption) (by assumption)) (loss_of (by assumption) (by assumption)).2

set_option maxRecDepth 100000 in
set_option maxHeartbeats 2000000 in
theorem c_P6Bow (n : Nat) (c : Nat) (A : Option Addr) (b : Nat) (o : Nat) (xs : List Nat) (ln : xs.length = n) (hA : 0 < n → A = some ⟨b, o, none⟩) (hB : ∀ i, xs.getD i 0 < 256) (hn : n ≤ 4611686018427387904) (w : World) (r : Rng w b o (bys xs)) : Cl Try.prog 28 #[.slice A n c] w fun v w' => ∃ (b' : Nat) (d' : Nat) (nn : Nat) (mm : Nat) (ii : Nat) (hh : Nat) (xs8 : List Nat) (ys8 : List Nat) (c0_ : Nat) (c1_ : Nat) (t0_ : Nat) (t1_ : Nat) (sl_ : Nat) (lo_ : Nat), v = .agg #[vS b' 0 nn nn, vI ((ii : Nat) : Int), vS d' 0 mm mm, vI ((hh : Nat) : Int), vI 1, vF c0_, vF c1_, vF 0, vF t0_, vF t1_, vF sl_, vF lo_] ∧ (xs8.length = nn) ∧ (ys8.length = mm) ∧ (nn ≤ 1024) ∧ (mm ≤ 1024) ∧ (ii < nn) ∧ (hh < mm) ∧ (W32 xs8) ∧ (W32 ys8) ∧ (t0_ < wid .f32) ∧ (t1_ < wid .f32) ∧ (vBow nn ((ii : Nat) : Int) mm ((hh : Nat) : Int) xs8 ys8 1 c0_ c1_ 0 t0_ t1_ sl_ lo_ = true) ∧ Row w' b' 0 (fl xs8) ∧ Row w' d' 0 (fl ys8) ∧ w.heap.size ≤ b' ∧ w.heap.size ≤ d' ∧ b' ≠ d' ∧ Mod [] w w' := by
  refine Cl.of Try.func28 Try.ntmps28 rfl rfl (ρ := [(0, .slice A n c)]) rfl ?_
  refine CE.seq ?_
  refine CE.region ?_
  refine WL.op (op_alloc (cs := [.slice none 0 0, vI 0, .slice none 0 0, vI 0, vI 0, vF 0, vF 0, vF 0, vF 0, vF 0, vF 0, vF 0]) Try.zeroValue36 rfl) rfl rfl (ltb rfl) ?_
  rintro _ w1 ⟨rfl, r1, m1, z1⟩
  refine WL.end ?_
  refine NE.code ?_
  refine CE.seq ?_
  refine CE.region ?_
  refine WL.det (op_move rfl) rfl rfl rfl ?_
  refine WL.call (oc_call (vs := [.slice A n c]) (cap := []) rfl rfl rfl Try.call73 (c_l00From n c A b o hA w1)) rfl rfl (ltb rfl) ?_
  rintro _ w2 ⟨p'1, rfl, r2, ge1, m2⟩
  refine WL.call (oc_call (vs := [vP p'1 0]) (cap := []) rfl rfl rfl Try.call76 (c_l05DrawnBow n c A b o xs p'1 ln hA hB (by omega) (by first | assumption | (intro h0; have hlt := Rng.lt r (by rw [bys_len, ln]; exact h0); omega)) w2 r2 ((r.ext m1).ext m2))) rfl rfl (ltb rfl) ?_
  rintro _ w3 ⟨b'1, d'1, nn1, mm1, ii1, hh1, xs1, ys1, c0_1, c1_1, t0_1, t1_1, sl_1, lo_1, rfl, h1, h2, h3, h4, h5, h6, h7, h8, h9, h10, h11, r3, r4, ge2, ge3, ne1, m3⟩
  refine WL.op0 (op_store (i := 0) (cs := [vS b'1 0 nn1 nn1, vI ((ii1 : Nat) : Int), vS d'1 0 mm1 mm1, vI ((hh1 : Nat) : Int), vI 1, vF c0_1, vF c1_1, vF 0, vF t0_1, vF t1_1, vF sl_1, vF lo_1]) rfl rfl rfl Try.sizeOf36 rfl ((r1.ext m2).mod m3 (nC (lE (lL r1.lt ge1)) nN)) rfl (lB rfl) rfl) rfl rfl ?_
  rintro _ w4 ⟨r5, m4, z2⟩
  have r6 : Row w4 w.heap.size 0 [vS b'1 0 nn1 nn1, vI ((ii1 : Nat) : Int), vS d'1 0 mm1 mm1, vI ((hh1 : Nat) : Int), vI 1, vF c0_1, vF c1_1, vF 0, vF t0_1, vF t1_1, vF sl_1, vF lo_1] := Row.congr r5 rfl
  refine WL.end ?_
  refine NE.code ?_
  refine CE.ret' ?_
  refine XE.leaveC Try.results28 (res_agg (cs := [vS b'1 0 nn1 nn1, vI ((ii1 : Nat) : Int), vS d'1 0 mm1 mm1, vI ((hh1 : Nat) : Int), vI 1, vF c0_1, vF c1_1, vF 0, vF t0_1, vF t1_1, vF sl_1, vF lo_1]) rfl Try.isAgg36 Try.sizeOf36 r6.rng rfl res_nil) ?_
  refine ⟨b'1, d'1, nn1, mm1, ii1, hh1, xs1, ys1, c0_1, c1_1, t0_1, t1_1, sl_1, lo_1, rfl, ?_, ?_, ?_, ?_, ?_, ?_, ?_, ?_, h9, h10, ?_, (r3.mod m4 (nC (lG (lL (lL r1.lt m2.size) ge2)) nN)), (r4.mod m4 (nC (lG (lL (lL r1.lt m2.size) ge3)) nN)), (lT (lT m1.size m2.size) ge2), (lT (lT m1.size m2.size) ge3), ne1, (((((Mod.refl [] w).nt m1).nt m2).then m3 ((aC (.inr (lT m1.size ge1)) aN))).then m4 ((aC (.inr lR) aN)))⟩
  all_goals first | assumption | omega

end Go.Proofs.Ytkgdhlhmckdcmaa
