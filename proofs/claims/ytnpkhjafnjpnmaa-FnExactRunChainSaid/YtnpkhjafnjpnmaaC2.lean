/- What chains of filters make. -/
import Derived.Test.YtnpkhjafnjpnmaaC1
set_option linter.unusedVariables false
set_option linter.unusedSimpArgs false
set_option maxRecDepth 100000
set_option maxHeartbeats 8000000
namespace Go.Proofs.Ytnpkhjafnjpnmaa

section
variable {es : List FiR} {bs ys zs : List Nat} {i n : Nat}
theorem chF_w (hl : es.length = n) (hi : i ≤ n) (hW : ∀ i, (es.getD i FiR.d).s0 < wid .f32 ∧ (es.getD i FiR.d).s1 < wid .f32) : ((chF es bs i).getD i FiR.d).s0 < wid .f32 ∧ ((chF es bs i).getD i FiR.d).s1 < wid .f32 := by
  rcases Nat.lt_or_ge i n with c | c
  · rw [chF_get hl c]; exact hW i
  · have : (chF es bs i).getD i FiR.d = FiR.d := by simp [List.getD_eq_getElem?_getD, List.getElem?_eq_none (show (chF es bs i).length ≤ i by rw [chF_len hl hi]; omega)]
    rw [this]; exact ⟨by decide +kernel, by decide +kernel⟩
theorem chF_run (hl : es.length = n) (hi : i < n) (h : CnB ys (chB es bs i)) :
    (chF es bs i).set i ⟨((chF es bs i).getD i FiR.d).k, ((chF es bs i).getD i FiR.d).c0, ((chF es bs i).getD i FiR.d).c1, ((chF es bs i).getD i FiR.d).c2, (stAt ((chF es bs i).getD i FiR.d).k ((chF es bs i).getD i FiR.d).c0 ((chF es bs i).getD i FiR.d).c1 ((chF es bs i).getD i FiR.d).c2 ((chF es bs i).getD i FiR.d).s0 ((chF es bs i).getD i FiR.d).s1 ys 16).1, (stAt ((chF es bs i).getD i FiR.d).k ((chF es bs i).getD i FiR.d).c0 ((chF es bs i).getD i FiR.d).c1 ((chF es bs i).getD i FiR.d).c2 ((chF es bs i).getD i FiR.d).s0 ((chF es bs i).getD i FiR.d).s1 ys 16).2⟩ = chF es bs (i + 1) := by
  rw [chF_get hl hi, stAt_cn h (Nat.le_refl _)]
  exact chF_set hl hi
theorem chB_next (hl : es.length = n) (hi : i < n) (h : CnB ys (chB es bs i)) (o : Outs ((chF es bs i).getD i FiR.d).k ((chF es bs i).getD i FiR.d).c0 ((chF es bs i).getD i FiR.d).c1 ((chF es bs i).getD i FiR.d).c2 ((chF es bs i).getD i FiR.d).s0 ((chF es bs i).getD i FiR.d).s1 ys 16 zs) : CnB zs (chB es bs (i + 1)) := by
  rw [chF_get hl hi] at o
  exact Outs.cnb h o
end

theorem c_sChain (n : Nat) (c : Nat) (b : Nat) (es : List FiR) (bs : List Nat) (fs : List FiR) (ob : List Nat) (ln : es.length = n) (hn : n ≤ 1048576) (hW : ∀ i, (es.getD i FiR.d).s0 < wid .f32 ∧ (es.getD i FiR.d).s1 < wid .f32) (lb : bs.length = 16) (wb : W32 bs) (h0 : 0 < n) (h6 : n ≤ 6) (hv : vFils es n = true) (efs : fs = chF es bs n) (eob : ob = chB es bs n) (lfs : fs.length = n) (w : World) (r : Rng w b 0 (cat FiR.cells es)) : Cl Try.prog 39 #[vS b 0 n c, .agg (fl bs).toArray] w fun v w' => ∃ (b' : Nat) (c' : Nat) (ys : List Nat), v = .tuple #[vS b' 0 n c', .agg (fl ys).toArray, vI 0] ∧ (ys.length = 16) ∧ (W32 ys) ∧ (CnB ys ob) ∧ Row w' b' 0 (cat FiR.cells fs) ∧ w.heap.size ≤ b' ∧ Mod [] w w' := by
 refine Cl.of Try.func39 Try.ntmps39 rfl rfl (ρ := [(0, vS b 0 n c), (1, .agg (fl bs).toArray)]) rfl ?_
 refine CE.seq (CE.region ?_)
 refine WL.op (op_box (cs := fl bs) rfl rfl) rfl rfl (ltb rfl) ?_
 rintro _ w1 ⟨rfl, r1, m1, z1⟩
 refine WL.det (op_assign rfl) rfl rfl rfl ?_
 refine WL.op (op_alloc (cs := fl (List.replicate 16 0)) Try.zeroValue77 rfl) rfl rfl (ltb rfl) ?_
 rintro _ w2 ⟨rfl, r2, m2, z2⟩
 refine WL.det (op_assign rfl) rfl rfl rfl ?_
 refine WL.end (NE.code (CE.seq (CE.seq (CE.region ?_))))
 refine WL.det (op_assign rfl) rfl rfl rfl ?_
 refine WL.end (NE.code (CE.block ?_))
 refine CE.loop (fun (j : Nat) => [(7, vI ((j : Nat) : Int)), (0, vS b 0 n c), (3, vP w.heap.size 0), (4, .slice none 0 0), (5, vP w1.heap.size 0), (6, vI 0)]) (fun (j : Nat) => fun W => (j ≤ n) ∧ (vFils es j = true) ∧ Mod [] w2 W) (fun (j : Nat) => n - j) 0 (⟨rfl, rfl, rfl, rfl, rfl, rfl, trivial⟩) ⟨(by omega), (by rfl), Mod.refl _ _⟩ ?_
 rintro j w3 ⟨hj, hu, m3⟩
 show CE _ _ _ _ [(7, vI ((j : Nat) : Int)), (0, vS b 0 n c), (3, vP w.heap.size 0), (4, .slice none 0 0), (5, vP w1.heap.size 0), (6, vI 0)] _
 refine CE.seq (CE.seq (CE.region ?_))
 iterate 2 refine WL.det (op_move rfl) rfl rfl rfl ?_
 refine WL.det (op_len rfl Try.runUnderlying76) rfl rfl rfl ?_
 refine WL.det (op_lti rfl rfl) rfl rfl rfl ?_
 refine WL.end (NE.code ?_)
 rcases Bool.eq_false_or_eq_true (decide (((j : Nat) : Int) < ((n : Nat) : Int))) with hb1 | hb1
 ·have hp1 := of_decide_eq_true hb1
  refine CE.cond_t rfl hb1 ?_
  refine CE.skip' (NE.code (CE.seq (CE.block (CE.seq (CE.region ?_)))))
  iterate 2 refine WL.det (op_move rfl) rfl rfl rfl ?_
  refine WL.det (op_indexSl (off' := 0 + j * 6) rfl rfl rfl Try.runUnderlying76 Try.sizeOf28 (by omega) (by omega) (by omega)) rfl rfl rfl ?_
  have r3 := (((r.ext m1).ext m2).ext m3)
  refine WL.call (oc_call (vs := [vP b (0 + j * 6)]) (cap := []) rfl rfl rfl Try.call53 (c_l02Ok ((es.getD j FiR.d).k) ((es.getD j FiR.d).c0) ((es.getD j FiR.d).c1) ((es.getD j FiR.d).c2) ((es.getD j FiR.d).s0) ((es.getD j FiR.d).s1) b (0 + j * 6) (cat FiR.cells es) (zf_ (cat_fit (f := FiR.cells) (fun _ => rfl) ln (show j < n by omega))) w3 (Rng.congr r3 (zp_ (cat_part (f := FiR.cells) (d := FiR.d) (fun _ => rfl) ln (show j < n by omega)))))) rfl rfl (ltb rfl) ?_
  rintro _ w4 ⟨rfl, m4⟩
  refine WL.det (op_not rfl) rfl rfl rfl ?_
  refine WL.end (NE.code ?_)
  refine CE.cond_f rfl (bnot_t (vFils_get hv (by omega))) ?_
  refine CE.skip' (NE.blk (NE.code (CE.region ?_)))
  refine WL.det (op_move rfl) rfl rfl rfl ?_
  refine WL.det (op_add (r := ((j + 1 : Nat) : Int)) rfl rfl (w_i64 (by omega) (by omega))) rfl rfl rfl ?_
  refine WL.det (op_assign rfl) rfl rfl rfl ?_
  refine WL.end ?_
  exact NE.again (j + 1) (⟨rfl, rfl, rfl, rfl, rfl, rfl, trivial⟩) ⟨(by omega), (by first | exact vFils_step hu (vFils_get hv (by omega)) | exact vFils_step hu (by simp_all)), (m3.nt m4)⟩ (by first | (dsimp only; omega) | omega)
 ·have hp1 := of_decide_eq_false hb1
  refine CE.cond_f rfl hb1 ?_
  refine CE.exit' (XE.exit_then (XE.exit_then (XE.exit_here (NE.code (CE.seq (CE.seq (CE.region ?_)))))))
  refine WL.det (op_move rfl) rfl rfl rfl ?_
  refine WL.det (op_len rfl Try.runUnderlying76) rfl rfl rfl ?_
  refine WL.det (op_gti rfl rfl) rfl rfl rfl ?_
  refine WL.end (NE.code ?_)
  refine CE.cond_f rfl (decide_eq_false (by omega)) ?_
  refine CE.skip' (NE.code (CE.seq (CE.region ?_)))
  refine WL.op (op_emptySl rfl Try.runUnderlying76 Try.sizeOf28) rfl rfl (ltb rfl) ?_
  rintro _ w5 ⟨rfl, r4, m5, z3⟩
  refine WL.det (op_move rfl) rfl rfl rfl ?_
  have r5 := ((((r.ext m1).ext m2).ext m3).ext m5)
  refine WL.op (op_appendR (f := FiR.cells) (i := Try.t28) (sz := 6) (bt := 32) (fun _ => rfl) rfl rfl Try.underlying76 rfl rfl rfl rfl r5 ln (by omega) (by omega) (by decide)) rfl rfl (ltb rfl) ?_
  rintro _ w6 ⟨b1, c1, rfl, ge1, r6, m6⟩
  refine WL.det (op_assign rfl) rfl rfl rfl ?_
  refine WL.end (NE.code (CE.seq (CE.seq (CE.region ?_))))
  refine WL.det (op_assign rfl) rfl rfl rfl ?_
  refine WL.end (NE.code (CE.block ?_))
  have r7 := ((((r1.ext m2).ext m3).ext m5).ext m6)
  refine CE.loop (fun (z : Nat × List Nat) => [(9, vI ((z.1 : Nat) : Int)), (3, vP w.heap.size 0), (4, .slice none 0 0), (5, vP w1.heap.size 0), (6, vI 0), (8, vS b1 0 n c1)]) (fun (z : Nat × List Nat) => fun W => (z.1 ≤ n) ∧ (z.2.length = 16) ∧ (W32 z.2) ∧ (CnB z.2 (chB es bs z.1)) ∧ Row W w.heap.size 0 (fl z.2) ∧ Row W b1 0 (cat FiR.cells (chF es bs z.1)) ∧ Mod [w.heap.size, b1] w6 W) (fun (z : Nat × List Nat) => n - z.1) (0, bs) (⟨rfl, rfl, rfl, rfl, rfl, rfl, trivial⟩) ⟨(by omega), (by omega), (by assumption), (by exact CnB.refl), (Row.congr r7 rfl), (Row.congr r6 (congrArg (cat FiR.cells) chF_zero)), Mod.refl _ _⟩ ?_
  rintro ⟨i, ys⟩ w7 ⟨hi, hly, hwy, hcb, r8, r9, m7⟩
  replace hi : i ≤ n := hi
  replace hly : ys.length = 16 := hly
  replace hwy : W32 ys := hwy
  replace hcb : CnB ys (chB es bs i) := hcb
  replace r8 : Row w7 w.heap.size 0 (fl ys) := r8
  replace r9 : Row w7 b1 0 (cat FiR.cells (chF es bs i)) := r9
  have hw0 := (chF_w (bs := bs) ln hi hW).1
  have hw1 := (chF_w (bs := bs) ln hi hW).2
  show CE _ _ _ _ [(9, vI ((i : Nat) : Int)), (3, vP w.heap.size 0), (4, .slice none 0 0), (5, vP w1.heap.size 0), (6, vI 0), (8, vS b1 0 n c1)] _
  refine CE.seq (CE.seq (CE.region ?_))
  iterate 2 refine WL.det (op_move rfl) rfl rfl rfl ?_
  refine WL.det (op_len rfl Try.runUnderlying76) rfl rfl rfl ?_
  refine WL.det (op_lti rfl rfl) rfl rfl rfl ?_
  refine WL.end (NE.code ?_)
  rcases Bool.eq_false_or_eq_true (decide (((i : Nat) : Int) < ((n : Nat) : Int))) with hb2 | hb2
  ·have hp2 := of_decide_eq_true hb2
   refine CE.cond_t rfl hb2 ?_
   refine CE.skip' (NE.code (CE.seq (CE.block ?_)))
   refine CE.draw (fun _ => none) [0, 1, 2, 3] [4, 5] [] (by kernel_rfl) (by kernel_rfl) ?_
   have md1 : Mod [] w7 w7.drew := (Mod.refl _ _).drew
   generalize w7.drew = w8 at md1 ⊢
   refine DR.det (i := 0) rfl rfl (by kernel_rfl) (.free rfl) rfl rfl (fun wD mD => op_move rfl) ?_
   refine DR.det (i := 1) rfl rfl (by kernel_rfl) (.free rfl) rfl rfl (fun wD mD => op_move rfl) ?_
   refine DR.det (i := 2) rfl rfl (by kernel_rfl) (.free rfl) rfl rfl (fun wD mD => op_indexSl (off' := 0 + i * 6) rfl rfl rfl Try.runUnderlying76 Try.sizeOf28 (by omega) (by omega) (by omega)) ?_
   refine DR.det (i := 3) rfl rfl (by kernel_rfl) (.free rfl) rfl rfl (fun wD mD => op_loadA (i := 0) (cs := fl ys) rfl Try.isAgg77 Try.sizeOf77 ((r8.ext md1).ext mD).rng rfl (fl_whole hly) (fl_len hly)) ?_
   refine DR.done rfl ?_
   intro w9 m8
   refine WO.call rfl (.free rfl) rfl (ltb rfl) (oc_call (vs := [vP b1 (0 + i * 6), .agg (fl ys).toArray]) (cap := []) rfl rfl rfl Try.call76 (c_l02Run (((chF es bs i).getD i FiR.d).k) (((chF es bs i).getD i FiR.d).c0) (((chF es bs i).getD i FiR.d).c1) (((chF es bs i).getD i FiR.d).c2) (((chF es bs i).getD i FiR.d).s0) (((chF es bs i).getD i FiR.d).s1) ys b1 (0 + i * 6) (cat FiR.cells (chF es bs i)) (by first | assumption | exact W32.get (by assumption) _ | decide +kernel) (by first | assumption | exact W32.get (by assumption) _ | decide +kernel) (zf_ (cat_fit (f := FiR.cells) (fun _ => rfl) (chF_len ln hi) (show i < n by omega))) hly hwy w9 (Row.congr ((r9.ext md1).ext m8) (zp_ (cat_part (f := FiR.cells) (d := FiR.d) (fun _ => rfl) (chF_len ln hi) (show i < n by omega)))))) ?_
   rintro _ w10 ⟨ys1, rfl, h1, h2, h3, h4, h5, r10, m9⟩
   have r11 : Row w10 b1 0 (cat FiR.cells ((chF es bs i).set i (FiR.mk (((chF es bs i).getD i FiR.d).k) (((chF es bs i).getD i FiR.d).c0) (((chF es bs i).getD i FiR.d).c1) (((chF es bs i).getD i FiR.d).c2) ((stAt (((chF es bs i).getD i FiR.d).k) (((chF es bs i).getD i FiR.d).c0) (((chF es bs i).getD i FiR.d).c1) (((chF es bs i).getD i FiR.d).c2) (((chF es bs i).getD i FiR.d).s0) (((chF es bs i).getD i FiR.d).s1) ys 16).1) ((stAt (((chF es bs i).getD i FiR.d).k) (((chF es bs i).getD i FiR.d).c0) (((chF es bs i).getD i FiR.d).c1) (((chF es bs i).getD i FiR.d).c2) (((chF es bs i).getD i FiR.d).s0) (((chF es bs i).getD i FiR.d).s1) ys 16).2)))) := Row.congr r10 (zs_ (cat_set (f := FiR.cells) (fun _ => rfl) (chF_len ln hi) (show i < n by omega) (FiR.mk (((chF es bs i).getD i FiR.d).k) (((chF es bs i).getD i FiR.d).c0) (((chF es bs i).getD i FiR.d).c1) (((chF es bs i).getD i FiR.d).c2) ((stAt (((chF es bs i).getD i FiR.d).k) (((chF es bs i).getD i FiR.d).c0) (((chF es bs i).getD i FiR.d).c1) (((chF es bs i).getD i FiR.d).c2) (((chF es bs i).getD i FiR.d).s0) (((chF es bs i).getD i FiR.d).s1) ys 16).1) ((stAt (((chF es bs i).getD i FiR.d).k) (((chF es bs i).getD i FiR.d).c0) (((chF es bs i).getD i FiR.d).c1) (((chF es bs i).getD i FiR.d).c2) (((chF es bs i).getD i FiR.d).s0) (((chF es bs i).getD i FiR.d).s1) ys 16).2))))
   have sz1 := (lT (lT m2.size m3.size) m5.size)
   have r12 := (((r8.ext md1).ext m8).mod m9 (nC (lE (lL (lL r1.lt sz1) ge1)) nN))
   refine WO.op0 rfl (.free rfl) rfl (op_store (i := 0) (cs := fl ys1) rfl rfl rfl Try.sizeOf77 (fl_len h1) r12 rfl (by rw [fl_length, hly]; decide) (fl_one _)) ?_
   rintro _ w11 ⟨r13, m10, z4⟩
   have r14 : Row w11 w.heap.size 0 (fl ys1) := Row.congr r13 (splice_all ((fl_len (hly)).trans (fl_len (h1)).symm))
   refine WO.end (NE.blk (NE.code (CE.region ?_)))
   refine WL.det (op_move rfl) rfl rfl rfl ?_
   refine WL.det (op_add (r := ((i + 1 : Nat) : Int)) rfl rfl (w_i64 (by omega) (by omega))) rfl rfl rfl ?_
   refine WL.det (op_assign rfl) rfl rfl rfl ?_
   refine WL.end ?_
   exact NE.again ((i + 1), ys1) (⟨rfl, rfl, rfl, rfl, rfl, rfl, trivial⟩) ⟨(by omega), (by omega), (by assumption), (by exact chB_next ln (by omega) hcb (by assumption)), (Row.congr r14 rfl), (Row.congr (r11.mod m10 (nC (lG (lL (lL r1.lt sz1) ge1)) nN)) (congrArg (cat FiR.cells) (chF_run ln (by omega) hcb))), ((((m7.nt md1).nt m8).then m9 ((aC (.inl (by simp)) aN))).then m10 ((aC (.inl (by simp)) aN)))⟩ (by first | (dsimp only; omega) | omega)
  ·have hp2 := of_decide_eq_false hb2
   refine CE.cond_f rfl hb2 ?_
   refine CE.exit' (XE.exit_then (XE.exit_then (XE.exit_here (NE.code (CE.seq ?_)))))
   refine CE.draw (fun _ => none) [0, 1, 2] [3, 4] [] (by kernel_rfl) (by kernel_rfl) ?_
   have md2 : Mod [] w7 w7.drew := (Mod.refl _ _).drew
   generalize w7.drew = w12 at md2 ⊢
   refine DR.det (i := 0) rfl rfl (by kernel_rfl) (.free rfl) rfl rfl (fun wD mD => op_move rfl) ?_
   refine DR.det (i := 1) rfl rfl (by kernel_rfl) (.free rfl) rfl rfl (fun wD mD => op_loadA (i := 0) (cs := fl ys) rfl Try.isAgg77 Try.sizeOf77 ((r8.ext md2).ext mD).rng rfl (fl_whole hly) (fl_len hly)) ?_
   refine DR.det (i := 2) rfl rfl (by kernel_rfl) (.free rfl) rfl rfl (fun wD mD => op_assign rfl) ?_
   refine DR.done rfl ?_
   intro w13 m11
   have r15 := ((((((r2.ext m3).ext m5).ext m6).mod m7 (nC (lG (lL r1.lt lR)) (nC (lE (lL (lL r2.lt (lT m3.size m5.size)) ge1)) nN))).ext md2).ext m11)
   refine WO.op0 rfl (.free rfl) rfl (op_store (i := 0) (cs := fl ys) rfl rfl rfl Try.sizeOf77 (fl_len hly) r15 rfl (by rw [fl_length, List.length_replicate]; decide) (fl_one _)) ?_
   rintro _ w14 ⟨r16, m12, z5⟩
   have r17 : Row w14 w1.heap.size 0 (fl ys) := Row.congr r16 (splice_all ((fl_len (List.length_replicate)).trans (fl_len (hly)).symm))
   refine WO.det (op_assign rfl) rfl (.free rfl) rfl rfl ?_
   refine WO.end (NE.code (CE.ret' ?_))
   refine XE.leaveT Try.results39 (res_tmp rfl (res_agg (cs := fl ys) rfl Try.isAgg77 Try.sizeOf77 r17.rng (fl_len hly) (res_tmp rfl res_nil))) ?_
   have r18 := (((r9.ext md2).ext m11).mod m12 (nC (lG (lL (lL r2.lt (lT m3.size m5.size)) ge1)) nN))
   have sz2 := (lT (lT (lT m1.size m2.size) m3.size) m5.size)
   refine ⟨b1, c1, ys, rfl, hly, hwy, ?_, (Row.congr r18 ?_), (lT sz2 ge1), ((((((((((Mod.refl [] w).nt m1).nt m2).nt m3).nt m5).nt m6).then m7 ((aC (.inr lR) (aC (.inr (lT sz2 ge1)) aN)))).nt md2).nt m11).then m12 ((aC (.inr (lT m1.size lR)) aN)))⟩
   all_goals subst efs
   all_goals subst eob
   all_goals (have e : i = n := (by omega); subst e; first | assumption | rfl)

theorem c_sChain0 (c : Nat) (b : Nat) (es : List FiR) (bs : List Nat) (ln : es.length = 0) (lb : bs.length = 16) (wb : W32 bs) (w : World) (r : Rng w b 0 (cat FiR.cells es)) : Cl Try.prog 39 #[vS b 0 0 c, .agg (fl bs).toArray] w fun v w' => ∃ (b' : Nat) (c' : Nat), v = .tuple #[vS b' 0 0 c', .agg (fl bs).toArray, vI 0] ∧ Row w' b' 0 [] ∧ w.heap.size ≤ b' ∧ Mod [] w w' := by
 refine Cl.of Try.func39 Try.ntmps39 rfl rfl (ρ := [(0, vS b 0 0 c), (1, .agg (fl bs).toArray)]) rfl ?_
 refine CE.seq (CE.region ?_)
 refine WL.op (op_box (cs := fl bs) rfl rfl) rfl rfl (ltb rfl) ?_
 rintro _ w1 ⟨rfl, r1, m1, z1⟩
 refine WL.det (op_assign rfl) rfl rfl rfl ?_
 refine WL.op (op_alloc (cs := fl (List.replicate 16 0)) Try.zeroValue77 rfl) rfl rfl (ltb rfl) ?_
 rintro _ w2 ⟨rfl, r2, m2, z2⟩
 refine WL.det (op_assign rfl) rfl rfl rfl ?_
 refine WL.end (NE.code (CE.seq (CE.seq (CE.region ?_))))
 refine WL.det (op_assign rfl) rfl rfl rfl ?_
 refine WL.end (NE.code (CE.block ?_))
 refine CE.rounds 1 ?_
 refine RN.one (CE.seq (CE.seq (CE.region ?_)))
 iterate 2 refine WL.det (op_move rfl) rfl rfl rfl ?_
 refine WL.det (op_len rfl Try.runUnderlying76) rfl rfl rfl ?_
 refine WL.det (op_lti rfl rfl) rfl rfl rfl ?_
 refine WL.end (NE.code ?_)
 refine CE.cond_f rfl rfl ?_
 refine CE.exit' (XE.exit_then (XE.exit_then (XE.exit_here (NE.code (CE.seq (CE.seq (CE.region ?_)))))))
 refine WL.det (op_move rfl) rfl rfl rfl ?_
 refine WL.det (op_len rfl Try.runUnderlying76) rfl rfl rfl ?_
 refine WL.det (op_gti rfl rfl) rfl rfl rfl ?_
 refine WL.end (NE.code ?_)
 refine CE.cond_f rfl rfl ?_
 refine CE.skip' (NE.code (CE.seq (CE.region ?_)))
 refine WL.op (op_emptySl rfl Try.runUnderlying76 Try.sizeOf28) rfl rfl (ltb rfl) ?_
 rintro _ w3 ⟨rfl, r3, m3, z3⟩
 refine WL.det (op_move rfl) rfl rfl rfl ?_
 refine WL.det (op_appN (i := Try.t28) rfl rfl (by decide) Try.underlying76 rfl) rfl rfl rfl ?_
 refine WL.det (op_assign rfl) rfl rfl rfl ?_
 refine WL.end (NE.code (CE.seq (CE.seq (CE.region ?_))))
 refine WL.det (op_assign rfl) rfl rfl rfl ?_
 refine WL.end (NE.code (CE.block ?_))
 refine CE.rounds 1 ?_
 refine RN.one (CE.seq (CE.seq (CE.region ?_)))
 iterate 2 refine WL.det (op_move rfl) rfl rfl rfl ?_
 refine WL.det (op_len rfl Try.runUnderlying76) rfl rfl rfl ?_
 refine WL.det (op_lti rfl rfl) rfl rfl rfl ?_
 refine WL.end (NE.code ?_)
 refine CE.cond_f rfl rfl ?_
 refine CE.exit' (XE.exit_then (XE.exit_then (XE.exit_here (NE.code (CE.seq ?_)))))
 refine CE.draw (fun _ => none) [0, 1, 2] [3, 4] [] (by kernel_rfl) (by kernel_rfl) ?_
 have md1 : Mod [] w3 w3.drew := (Mod.refl _ _).drew
 generalize w3.drew = w4 at md1 ⊢
 refine DR.det (i := 0) rfl rfl (by kernel_rfl) (.free rfl) rfl rfl (fun wD mD => op_move rfl) ?_
 refine DR.det (i := 1) rfl rfl (by kernel_rfl) (.free rfl) rfl rfl (fun wD mD => op_loadA (i := 0) (cs := fl bs) rfl Try.isAgg77 Try.sizeOf77 ((((r1.ext m2).ext m3).ext md1).ext mD).rng rfl (fl_whole lb) (fl_len lb)) ?_
 refine DR.det (i := 2) rfl rfl (by kernel_rfl) (.free rfl) rfl rfl (fun wD mD => op_assign rfl) ?_
 refine DR.done rfl ?_
 intro w5 m4
 have r4 := (((r2.ext m3).ext md1).ext m4)
 refine WO.op0 rfl (.free rfl) rfl (op_store (i := 0) (cs := fl bs) rfl rfl rfl Try.sizeOf77 (fl_len lb) r4 rfl (by rw [fl_length, List.length_replicate]; decide) (fl_one _)) ?_
 rintro _ w6 ⟨r5, m5, z4⟩
 have r6 : Row w6 w1.heap.size 0 (fl bs) := Row.congr r5 (splice_all ((fl_len (List.length_replicate)).trans (fl_len (lb)).symm))
 refine WO.det (op_assign rfl) rfl (.free rfl) rfl rfl ?_
 refine WO.end (NE.code (CE.ret' ?_))
 refine XE.leaveT Try.results39 (res_tmp rfl (res_agg (cs := fl bs) rfl Try.isAgg77 Try.sizeOf77 r6.rng (fl_len lb) (res_tmp rfl res_nil))) ?_
 have r7 := (((r3.ext md1).ext m4).mod m5 (nC (lG (lL r2.lt lR)) nN))
 refine ⟨w2.heap.size, 0, rfl, r7, (lT (lT m1.size m2.size) lR), (((((((Mod.refl [] w).nt m1).nt m2).nt m3).nt md1).nt m4).then m5 ((aC (.inr (lT m1.size lR)) aN)))⟩

theorem c_sChain_bad (n : Nat) (c : Nat) (b : Nat) (es : List FiR) (bs : List Nat) (ln : es.length = n) (hn : n ≤ 1048576) (lb : bs.length = 16) (wb : W32 bs) (hv : vFils es n = false) (w : World) (r : Rng w b 0 (cat FiR.cells es)) : Cl Try.prog 39 #[vS b 0 n c, .agg (fl bs).toArray] w fun v w' => ∃ (e' : Nat), v = .tuple #[vS e' 0 0 0, .agg (fl (List.replicate 16 0)).toArray, vI 1] ∧ Row w' e' 0 [] ∧ w.heap.size ≤ e' ∧ Mod [] w w' := by
 refine Cl.of Try.func39 Try.ntmps39 rfl rfl (ρ := [(0, vS b 0 n c), (1, .agg (fl bs).toArray)]) rfl ?_
 refine CE.seq (CE.region ?_)
 refine WL.op (op_box (cs := fl bs) rfl rfl) rfl rfl (ltb rfl) ?_
 rintro _ w1 ⟨rfl, r1, m1, z1⟩
 refine WL.det (op_assign rfl) rfl rfl rfl ?_
 refine WL.op (op_alloc (cs := fl (List.replicate 16 0)) Try.zeroValue77 rfl) rfl rfl (ltb rfl) ?_
 rintro _ w2 ⟨rfl, r2, m2, z2⟩
 refine WL.det (op_assign rfl) rfl rfl rfl ?_
 refine WL.end (NE.code (CE.seq (CE.seq (CE.region ?_))))
 refine WL.det (op_assign rfl) rfl rfl rfl ?_
 refine WL.end (NE.code (CE.block ?_))
 refine CE.loop (fun (j : Nat) => [(7, vI ((j : Nat) : Int)), (0, vS b 0 n c), (3, vP w.heap.size 0), (4, .slice none 0 0), (5, vP w1.heap.size 0), (6, vI 0)]) (fun (j : Nat) => fun W => (j ≤ n) ∧ (vFils es j = true) ∧ Mod [] w2 W) (fun (j : Nat) => n - j) 0 (⟨rfl, rfl, rfl, rfl, rfl, rfl, trivial⟩) ⟨(by omega), (by rfl), Mod.refl _ _⟩ ?_
 rintro j w3 ⟨hj, hu, m3⟩
 show CE _ _ _ _ [(7, vI ((j : Nat) : Int)), (0, vS b 0 n c), (3, vP w.heap.size 0), (4, .slice none 0 0), (5, vP w1.heap.size 0), (6, vI 0)] _
 refine CE.seq (CE.seq (CE.region ?_))
 iterate 2 refine WL.det (op_move rfl) rfl rfl rfl ?_
 refine WL.det (op_len rfl Try.runUnderlying76) rfl rfl rfl ?_
 refine WL.det (op_lti rfl rfl) rfl rfl rfl ?_
 refine WL.end (NE.code ?_)
 rcases Bool.eq_false_or_eq_true (decide (((j : Nat) : Int) < ((n : Nat) : Int))) with hb1 | hb1
 ·have hp1 := of_decide_eq_true hb1
  refine CE.cond_t rfl hb1 ?_
  refine CE.skip' (NE.code (CE.seq (CE.block (CE.seq (CE.region ?_)))))
  iterate 2 refine WL.det (op_move rfl) rfl rfl rfl ?_
  refine WL.det (op_indexSl (off' := 0 + j * 6) rfl rfl rfl Try.runUnderlying76 Try.sizeOf28 (by omega) (by omega) (by omega)) rfl rfl rfl ?_
  have r3 := (((r.ext m1).ext m2).ext m3)
  refine WL.call (oc_call (vs := [vP b (0 + j * 6)]) (cap := []) rfl rfl rfl Try.call53 (c_l02Ok ((es.getD j FiR.d).k) ((es.getD j FiR.d).c0) ((es.getD j FiR.d).c1) ((es.getD j FiR.d).c2) ((es.getD j FiR.d).s0) ((es.getD j FiR.d).s1) b (0 + j * 6) (cat FiR.cells es) (zf_ (cat_fit (f := FiR.cells) (fun _ => rfl) ln (show j < n by omega))) w3 (Rng.congr r3 (zp_ (cat_part (f := FiR.cells) (d := FiR.d) (fun _ => rfl) ln (show j < n by omega)))))) rfl rfl (ltb rfl) ?_
  rintro _ w4 ⟨rfl, m4⟩
  refine WL.det (op_not rfl) rfl rfl rfl ?_
  refine WL.end (NE.code ?_)
  rcases Bool.eq_false_or_eq_true (vFil ((es.getD j FiR.d).k) ((es.getD j FiR.d).c0) ((es.getD j FiR.d).c1) ((es.getD j FiR.d).c2) ((es.getD j FiR.d).s0) ((es.getD j FiR.d).s1)) with hb2 | hb2
  ·refine CE.cond_f rfl (bnot_t hb2) ?_
   refine CE.skip' (NE.blk (NE.code (CE.region ?_)))
   refine WL.det (op_move rfl) rfl rfl rfl ?_
   refine WL.det (op_add (r := ((j + 1 : Nat) : Int)) rfl rfl (w_i64 (by omega) (by omega))) rfl rfl rfl ?_
   refine WL.det (op_assign rfl) rfl rfl rfl ?_
   refine WL.end ?_
   exact NE.again (j + 1) (⟨rfl, rfl, rfl, rfl, rfl, rfl, trivial⟩) ⟨(by omega), (by first | exact vFils_step hu (vFils_get hv (by omega)) | exact vFils_step hu (by simp_all)), (m3.nt m4)⟩ (by first | (dsimp only; omega) | omega)
  ·refine CE.cond_t rfl (bnot_f hb2) ?_
   refine CE.seq (CE.region ?_)
   refine WL.op (op_emptySl rfl Try.runUnderlying76 Try.sizeOf28) rfl rfl (ltb rfl) ?_
   rintro _ w5 ⟨rfl, r4, m5, z3⟩
   refine WL.det (op_build (qs := []) (cells := #[vF 0, vF 0, vF 0, vF 0, vF 0, vF 0, vF 0, vF 0, vF 0, vF 0, vF 0, vF 0, vF 0, vF 0, vF 0, vF 0]) rfl (by kernel_rfl)) rfl rfl rfl ?_
   refine WL.det (op_assign rfl) rfl rfl rfl ?_
   have r5 := (((r2.ext m3).ext m4).ext m5)
   refine WL.op0 (op_store (i := 0) (cs := fl (List.replicate 16 0)) rfl rfl rfl Try.sizeOf77 (fl_len List.length_replicate) r5 rfl (by rw [fl_length, List.length_replicate]; decide) (fl_one _)) rfl rfl ?_
   rintro _ w6 ⟨r6, m6, z4⟩
   have r7 : Row w6 w1.heap.size 0 (fl (List.replicate 16 0)) := Row.congr r6 (splice_all ((fl_len (List.length_replicate)).trans (fl_len (List.length_replicate)).symm))
   refine WL.det (op_assign rfl) rfl rfl rfl ?_
   refine WL.end (NE.code (CE.ret' (XE.ret_blk (XE.ret_then (XE.ret_then (XE.ret_blk (XE.ret_then ?_)))))))
   refine XE.leaveT Try.results39 (res_tmp rfl (res_agg (cs := fl (List.replicate 16 0)) rfl Try.isAgg77 Try.sizeOf77 r7.rng (fl_len List.length_replicate) (res_tmp rfl res_nil))) ?_
   have r8 := (r4.mod m6 (nC (lG (lL (lL r2.lt (lT m3.size m4.size)) lR)) nN))
   have sz1 := (lT (lT (lT m1.size m2.size) m3.size) m4.size)
   refine ⟨w4.heap.size, rfl, r8, (lT sz1 lR), (((((((Mod.refl [] w).nt m1).nt m2).nt m3).nt m4).nt m5).then m6 ((aC (.inr (lT m1.size lR)) aN)))⟩
 ·have hp1 := of_decide_eq_false hb1
  exfalso; have e : j = n := (by omega); subst e; rw [hv] at hu; cases hu

theorem c_sChain_lim (n : Nat) (c : Nat) (b : Nat) (es : List FiR) (bs : List Nat) (ln : es.length = n) (hn : n ≤ 1048576) (lb : bs.length = 16) (wb : W32 bs) (hv : vFils es n = true) (h6 : 6 < n) (w : World) (r : Rng w b 0 (cat FiR.cells es)) : Cl Try.prog 39 #[vS b 0 n c, .agg (fl bs).toArray] w fun v w' => ∃ (e' : Nat), v = .tuple #[vS e' 0 0 0, .agg (fl (List.replicate 16 0)).toArray, vI 3] ∧ Row w' e' 0 [] ∧ w.heap.size ≤ e' ∧ Mod [] w w' := by
 refine Cl.of Try.func39 Try.ntmps39 rfl rfl (ρ := [(0, vS b 0 n c), (1, .agg (fl bs).toArray)]) rfl ?_
 refine CE.seq (CE.region ?_)
 refine WL.op (op_box (cs := fl bs) rfl rfl) rfl rfl (ltb rfl) ?_
 rintro _ w1 ⟨rfl, r1, m1, z1⟩
 refine WL.det (op_assign rfl) rfl rfl rfl ?_
 refine WL.op (op_alloc (cs := fl (List.replicate 16 0)) Try.zeroValue77 rfl) rfl rfl (ltb rfl) ?_
 rintro _ w2 ⟨rfl, r2, m2, z2⟩
 refine WL.det (op_assign rfl) rfl rfl rfl ?_
 refine WL.end (NE.code (CE.seq (CE.seq (CE.region ?_))))
 refine WL.det (op_assign rfl) rfl rfl rfl ?_
 refine WL.end (NE.code (CE.block ?_))
 refine CE.loop (fun (j : Nat) => [(7, vI ((j : Nat) : Int)), (0, vS b 0 n c), (3, vP w.heap.size 0), (4, .slice none 0 0), (5, vP w1.heap.size 0), (6, vI 0)]) (fun (j : Nat) => fun W => (j ≤ n) ∧ (vFils es j = true) ∧ Mod [] w2 W) (fun (j : Nat) => n - j) 0 (⟨rfl, rfl, rfl, rfl, rfl, rfl, trivial⟩) ⟨(by omega), (by rfl), Mod.refl _ _⟩ ?_
 rintro j w3 ⟨hj, hu, m3⟩
 show CE _ _ _ _ [(7, vI ((j : Nat) : Int)), (0, vS b 0 n c), (3, vP w.heap.size 0), (4, .slice none 0 0), (5, vP w1.heap.size 0), (6, vI 0)] _
 refine CE.seq (CE.seq (CE.region ?_))
 iterate 2 refine WL.det (op_move rfl) rfl rfl rfl ?_
 refine WL.det (op_len rfl Try.runUnderlying76) rfl rfl rfl ?_
 refine WL.det (op_lti rfl rfl) rfl rfl rfl ?_
 refine WL.end (NE.code ?_)
 rcases Bool.eq_false_or_eq_true (decide (((j : Nat) : Int) < ((n : Nat) : Int))) with hb1 | hb1
 ·have hp1 := of_decide_eq_true hb1
  refine CE.cond_t rfl hb1 ?_
  refine CE.skip' (NE.code (CE.seq (CE.block (CE.seq (CE.region ?_)))))
  iterate 2 refine WL.det (op_move rfl) rfl rfl rfl ?_
  refine WL.det (op_indexSl (off' := 0 + j * 6) rfl rfl rfl Try.runUnderlying76 Try.sizeOf28 (by omega) (by omega) (by omega)) rfl rfl rfl ?_
  have r3 := (((r.ext m1).ext m2).ext m3)
  refine WL.call (oc_call (vs := [vP b (0 + j * 6)]) (cap := []) rfl rfl rfl Try.call53 (c_l02Ok ((es.getD j FiR.d).k) ((es.getD j FiR.d).c0) ((es.getD j FiR.d).c1) ((es.getD j FiR.d).c2) ((es.getD j FiR.d).s0) ((es.getD j FiR.d).s1) b (0 + j * 6) (cat FiR.cells es) (zf_ (cat_fit (f := FiR.cells) (fun _ => rfl) ln (show j < n by omega))) w3 (Rng.congr r3 (zp_ (cat_part (f := FiR.cells) (d := FiR.d) (fun _ => rfl) ln (show j < n by omega)))))) rfl rfl (ltb rfl) ?_
  rintro _ w4 ⟨rfl, m4⟩
  refine WL.det (op_not rfl) rfl rfl rfl ?_
  refine WL.end (NE.code ?_)
  refine CE.cond_f rfl (bnot_t (vFils_get hv (by omega))) ?_
  refine CE.skip' (NE.blk (NE.code (CE.region ?_)))
  refine WL.det (op_move rfl) rfl rfl rfl ?_
  refine WL.det (op_add (r := ((j + 1 : Nat) : Int)) rfl rfl (w_i64 (by omega) (by omega))) rfl rfl rfl ?_
  refine WL.det (op_assign rfl) rfl rfl rfl ?_
  refine WL.end ?_
  exact NE.again (j + 1) (⟨rfl, rfl, rfl, rfl, rfl, rfl, trivial⟩) ⟨(by omega), (by first | exact vFils_step hu (vFils_get hv (by omega)) | exact vFils_step hu (by simp_all)), (m3.nt m4)⟩ (by first | (dsimp only; omega) | omega)
 ·have hp1 := of_decide_eq_false hb1
  refine CE.cond_f rfl hb1 ?_
  refine CE.exit' (XE.exit_then (XE.exit_then (XE.exit_here (NE.code (CE.seq (CE.seq (CE.region ?_)))))))
  refine WL.det (op_move rfl) rfl rfl rfl ?_
  refine WL.det (op_len rfl Try.runUnderlying76) rfl rfl rfl ?_
  refine WL.det (op_gti rfl rfl) rfl rfl rfl ?_
  refine WL.end (NE.code ?_)
  refine CE.cond_t rfl (decide_eq_true (by omega)) ?_
  refine CE.seq (CE.region ?_)
  refine WL.op (op_emptySl rfl Try.runUnderlying76 Try.sizeOf28) rfl rfl (ltb rfl) ?_
  rintro _ w5 ⟨rfl, r4, m5, z3⟩
  refine WL.det (op_build (qs := []) (cells := #[vF 0, vF 0, vF 0, vF 0, vF 0, vF 0, vF 0, vF 0, vF 0, vF 0, vF 0, vF 0, vF 0, vF 0, vF 0, vF 0]) rfl (by kernel_rfl)) rfl rfl rfl ?_
  refine WL.det (op_assign rfl) rfl rfl rfl ?_
  refine WL.op0 (op_store (i := 0) (cs := fl (List.replicate 16 0)) rfl rfl rfl Try.sizeOf77 (fl_len List.length_replicate) ((r2.ext m3).ext m5) rfl (by rw [fl_length, List.length_replicate]; decide) (fl_one _)) rfl rfl ?_
  rintro _ w6 ⟨r5, m6, z4⟩
  have r6 : Row w6 w1.heap.size 0 (fl (List.replicate 16 0)) := Row.congr r5 (splice_all ((fl_len (List.length_replicate)).trans (fl_len (List.length_replicate)).symm))
  refine WL.det (op_assign rfl) rfl rfl rfl ?_
  refine WL.end (NE.code (CE.ret' (XE.ret_then ?_)))
  refine XE.leaveT Try.results39 (res_tmp rfl (res_agg (cs := fl (List.replicate 16 0)) rfl Try.isAgg77 Try.sizeOf77 r6.rng (fl_len List.length_replicate) (res_tmp rfl res_nil))) ?_
  have sz1 := (lT (lT m1.size m2.size) m3.size)
  refine ⟨w3.heap.size, rfl, (r4.mod m6 (nC (lG (lL (lL r2.lt m3.size) lR)) nN)), (lT sz1 lR), ((((((Mod.refl [] w).nt m1).nt m2).nt m3).nt m5).then m6 ((aC (.inr (lT m1.size lR)) aN)))⟩

theorem c_iChain (n : Nat) (c : Nat) (b : Nat) (es : List FiR) (bs : List Nat) (fs : List FiR) (ob : List Nat) (ln : es.length = n) (hn : n ≤ 1048576) (hW : ∀ i, (es.getD i FiR.d).s0 < wid .f32 ∧ (es.getD i FiR.d).s1 < wid .f32) (lb : bs.length = 16) (wb : W32 bs) (h0 : 0 < n) (h6 : n ≤ 6) (hv : vFils es n = true) (efs : fs = chF es bs n) (eob : ob = chB es bs n) (lfs : fs.length = n) (w : World) (r : Rng w b 0 (cat FiR.cells es)) : Cl Try.prog 42 #[vS b 0 n c, .agg (fl bs).toArray] w fun v w' => ∃ (b' : Nat) (c' : Nat) (ys : List Nat), v = .tuple #[vS b' 0 n c', .agg (fl ys).toArray, vI 0] ∧ (ys.length = 16) ∧ (W32 ys) ∧ (CnB ys ob) ∧ Row w' b' 0 (cat FiR.cells fs) ∧ w.heap.size ≤ b' ∧ Mod [] w w' := by
 refine Cl.of Try.func42 Try.ntmps42 rfl rfl (ρ := [(0, vS b 0 n c), (1, .agg (fl bs).toArray)]) rfl ?_
 refine CE.seq (CE.region ?_)
 refine WL.op (op_box (cs := fl bs) rfl rfl) rfl rfl (ltb rfl) ?_
 rintro _ w1 ⟨rfl, r1, m1, z1⟩
 refine WL.det (op_assign rfl) rfl rfl rfl ?_
 refine WL.op (op_alloc (cs := fl (List.replicate 16 0)) Try.zeroValue77 rfl) rfl rfl (ltb rfl) ?_
 rintro _ w2 ⟨rfl, r2, m2, z2⟩
 refine WL.det (op_assign rfl) rfl rfl rfl ?_
 refine WL.end (NE.code (CE.seq (CE.block (CE.seq (CE.region ?_)))))
 refine WL.det (op_move rfl) rfl rfl rfl ?_
 refine WL.call (oc_call (vs := [vS b 0 n c]) (cap := []) rfl rfl rfl Try.call78 (c_areFilters n c b es ln (by omega) w2 ((r.ext m1).ext m2))) rfl rfl (ltb rfl) ?_
 rintro _ w3 ⟨rfl, m3⟩
 refine WL.det (op_not rfl) rfl rfl rfl ?_
 refine WL.det (op_assign rfl) rfl rfl rfl ?_
 refine WL.end (NE.code ?_)
 refine CE.cond_f rfl (bnot_t hv) ?_
 refine CE.seq (CE.region ?_)
 refine WL.det (op_move rfl) rfl rfl rfl ?_
 refine WL.det (op_len rfl Try.runUnderlying76) rfl rfl rfl ?_
 refine WL.det (op_gti rfl rfl) rfl rfl rfl ?_
 refine WL.det (op_assign rfl) rfl rfl rfl ?_
 refine WL.end (NE.code ?_)
 refine CE.cond_f rfl (decide_eq_false (by omega)) ?_
 refine CE.skip' (NE.blk (NE.code (CE.seq (CE.region ?_))))
 refine WL.det (op_move rfl) rfl rfl rfl ?_
 have r3 := (((r.ext m1).ext m2).ext m3)
 refine WL.call (oc_call (vs := [vS b 0 n c]) (cap := []) rfl rfl rfl Try.call79 (c_CloneFil n c b es ln (by first | assumption | omega) (by omega) w3 r3)) rfl rfl (ltb rfl) ?_
 rintro _ w4 ⟨b'1, c'1, rfl, r4, ge1, m4⟩
 refine WL.det (op_assign rfl) rfl rfl rfl ?_
 refine WL.end (NE.code (CE.seq (CE.seq (CE.region ?_))))
 refine WL.det (op_move rfl) rfl rfl rfl ?_
 refine WL.det (op_len rfl Try.runUnderlying76) rfl rfl rfl ?_
 refine WL.det (op_move rfl) rfl rfl rfl ?_
 refine WL.end (NE.code (CE.block ?_))
 have r5 := (((r1.ext m2).ext m3).ext m4)
 refine CE.loop (fun (z : Nat × List Nat) => [(23, vI ((z.1 : Nat) : Int)), (3, vP w.heap.size 0), (4, .slice none 0 0), (5, vP w1.heap.size 0), (6, vI 0), (7, vS b'1 0 n c'1), (22, vI ((n : Nat) : Int))]) (fun (z : Nat × List Nat) => fun W => (z.1 ≤ n) ∧ (z.2.length = 16) ∧ (W32 z.2) ∧ (CnB z.2 (chB es bs z.1)) ∧ Row W w.heap.size 0 (fl z.2) ∧ Row W b'1 0 (cat FiR.cells (chF es bs z.1)) ∧ Mod [w.heap.size, b'1] w4 W) (fun (z : Nat × List Nat) => n - z.1) (0, bs) (⟨rfl, rfl, rfl, rfl, rfl, rfl, rfl, trivial⟩) ⟨(by omega), (by omega), (by assumption), (by exact CnB.refl), (Row.congr r5 rfl), (Row.congr r4 (congrArg (cat FiR.cells) chF_zero)), Mod.refl _ _⟩ ?_
 rintro ⟨i, ys⟩ w5 ⟨hi, hly, hwy, hcb, r6, r7, m5⟩
 replace hi : i ≤ n := hi
 replace hly : ys.length = 16 := hly
 replace hwy : W32 ys := hwy
 replace hcb : CnB ys (chB es bs i) := hcb
 replace r6 : Row w5 w.heap.size 0 (fl ys) := r6
 replace r7 : Row w5 b'1 0 (cat FiR.cells (chF es bs i)) := r7
 have hw0 := (chF_w (bs := bs) ln hi hW).1
 have hw1 := (chF_w (bs := bs) ln hi hW).2
 show CE _ _ _ _ [(23, vI ((i : Nat) : Int)), (3, vP w.heap.size 0), (4, .slice none 0 0), (5, vP w1.heap.size 0), (6, vI 0), (7, vS b'1 0 n c'1), (22, vI ((n : Nat) : Int))] _
 refine CE.seq (CE.region ?_)
 refine WL.det (op_lti rfl rfl) rfl rfl rfl ?_
 refine WL.end (NE.code (CE.seq ?_))
 rcases Bool.eq_false_or_eq_true (decide (((i : Nat) : Int) < ((n : Nat) : Int))) with hb1 | hb1
 ·have hp1 := of_decide_eq_true hb1
  refine CE.cond_t rfl hb1 ?_
  refine CE.skip' (NE.code (CE.seq (CE.block (CE.seq (CE.region ?_)))))
  refine WL.det (op_move rfl) rfl rfl rfl ?_
  refine WL.det (op_assign rfl) rfl rfl rfl ?_
  refine WL.end (NE.code ?_)
  refine CE.draw (fun _ => none) [0, 1, 2, 3] [4, 5] [] (by kernel_rfl) (by kernel_rfl) ?_
  have md1 : Mod [] w5 w5.drew := (Mod.refl _ _).drew
  generalize w5.drew = w6 at md1 ⊢
  refine DR.det (i := 0) rfl rfl (by kernel_rfl) (.free rfl) rfl rfl (fun wD mD => op_move rfl) ?_
  refine DR.det (i := 1) rfl rfl (by kernel_rfl) (.free rfl) rfl rfl (fun wD mD => op_move rfl) ?_
  refine DR.det (i := 2) rfl rfl (by kernel_rfl) (.free rfl) rfl rfl (fun wD mD => op_indexSl (off' := 0 + i * 6) rfl rfl rfl Try.runUnderlying76 Try.sizeOf28 (by omega) (by omega) (by omega)) ?_
  refine DR.det (i := 3) rfl rfl (by kernel_rfl) (.free rfl) rfl rfl (fun wD mD => op_loadA (i := 0) (cs := fl ys) rfl Try.isAgg77 Try.sizeOf77 ((r6.ext md1).ext mD).rng rfl (fl_whole hly) (fl_len hly)) ?_
  refine DR.done rfl ?_
  intro w7 m6
  refine WO.call rfl (.free rfl) rfl (ltb rfl) (oc_call (vs := [vP b'1 (0 + i * 6), .agg (fl ys).toArray]) (cap := []) rfl rfl rfl Try.call80 (c_run (((chF es bs i).getD i FiR.d).k) (((chF es bs i).getD i FiR.d).c0) (((chF es bs i).getD i FiR.d).c1) (((chF es bs i).getD i FiR.d).c2) (((chF es bs i).getD i FiR.d).s0) (((chF es bs i).getD i FiR.d).s1) ys b'1 (0 + i * 6) (cat FiR.cells (chF es bs i)) (by first | assumption | exact W32.get (by assumption) _ | decide +kernel) (by first | assumption | exact W32.get (by assumption) _ | decide +kernel) (zf_ (cat_fit (f := FiR.cells) (fun _ => rfl) (chF_len ln hi) (show i < n by omega))) hly hwy w7 (Row.congr ((r7.ext md1).ext m6) (zp_ (cat_part (f := FiR.cells) (d := FiR.d) (fun _ => rfl) (chF_len ln hi) (show i < n by omega)))))) ?_
  rintro _ w8 ⟨ys1, rfl, h1, h2, h3, h4, h5, r8, m7⟩
  have r9 : Row w8 b'1 0 (cat FiR.cells ((chF es bs i).set i (FiR.mk (((chF es bs i).getD i FiR.d).k) (((chF es bs i).getD i FiR.d).c0) (((chF es bs i).getD i FiR.d).c1) (((chF es bs i).getD i FiR.d).c2) ((stAt (((chF es bs i).getD i FiR.d).k) (((chF es bs i).getD i FiR.d).c0) (((chF es bs i).getD i FiR.d).c1) (((chF es bs i).getD i FiR.d).c2) (((chF es bs i).getD i FiR.d).s0) (((chF es bs i).getD i FiR.d).s1) ys 16).1) ((stAt (((chF es bs i).getD i FiR.d).k) (((chF es bs i).getD i FiR.d).c0) (((chF es bs i).getD i FiR.d).c1) (((chF es bs i).getD i FiR.d).c2) (((chF es bs i).getD i FiR.d).s0) (((chF es bs i).getD i FiR.d).s1) ys 16).2)))) := Row.congr r8 (zs_ (cat_set (f := FiR.cells) (fun _ => rfl) (chF_len ln hi) (show i < n by omega) (FiR.mk (((chF es bs i).getD i FiR.d).k) (((chF es bs i).getD i FiR.d).c0) (((chF es bs i).getD i FiR.d).c1) (((chF es bs i).getD i FiR.d).c2) ((stAt (((chF es bs i).getD i FiR.d).k) (((chF es bs i).getD i FiR.d).c0) (((chF es bs i).getD i FiR.d).c1) (((chF es bs i).getD i FiR.d).c2) (((chF es bs i).getD i FiR.d).s0) (((chF es bs i).getD i FiR.d).s1) ys 16).1) ((stAt (((chF es bs i).getD i FiR.d).k) (((chF es bs i).getD i FiR.d).c0) (((chF es bs i).getD i FiR.d).c1) (((chF es bs i).getD i FiR.d).c2) (((chF es bs i).getD i FiR.d).s0) (((chF es bs i).getD i FiR.d).s1) ys 16).2))))
  have r10 := (((r6.ext md1).ext m6).mod m7 (nC (lE (lL (lL r1.lt (lT m2.size m3.size)) ge1)) nN))
  refine WO.op0 rfl (.free rfl) rfl (op_store (i := 0) (cs := fl ys1) rfl rfl rfl Try.sizeOf77 (fl_len h1) r10 rfl (by rw [fl_length, hly]; decide) (fl_one _)) ?_
  rintro _ w9 ⟨r11, m8, z3⟩
  have r12 : Row w9 w.heap.size 0 (fl ys1) := Row.congr r11 (splice_all ((fl_len (hly)).trans (fl_len (h1)).symm))
  refine WO.end (NE.blk (NE.code (CE.region ?_)))
  refine WL.det (op_add (r := ((i + 1 : Nat) : Int)) rfl rfl (w_i64 (by omega) (by omega))) rfl rfl rfl ?_
  refine WL.det (op_move rfl) rfl rfl rfl ?_
  refine WL.end ?_
  have r13 := (r9.mod m8 (nC (lG (lL (lL r1.lt (lT m2.size m3.size)) ge1)) nN))
  exact NE.again ((i + 1), ys1) (⟨rfl, rfl, rfl, rfl, rfl, rfl, rfl, trivial⟩) ⟨(by omega), (by omega), (by assumption), (by exact chB_next ln (by omega) hcb (by assumption)), (Row.congr r12 rfl), (Row.congr r13 (congrArg (cat FiR.cells) (chF_run ln (by omega) hcb))), ((((m5.nt md1).nt m6).then m7 ((aC (.inl (by simp)) aN))).then m8 ((aC (.inl (by simp)) aN)))⟩ (by first | (dsimp only; omega) | omega)
 ·have hp1 := of_decide_eq_false hb1
  refine CE.cond_f rfl hb1 ?_
  refine CE.exit' (XE.exit_then (XE.exit_then (XE.exit_here (NE.code (CE.seq ?_)))))
  refine CE.draw (fun _ => none) [0, 1, 2] [3, 4] [] (by kernel_rfl) (by kernel_rfl) ?_
  have md2 : Mod [] w5 w5.drew := (Mod.refl _ _).drew
  generalize w5.drew = w10 at md2 ⊢
  refine DR.det (i := 0) rfl rfl (by kernel_rfl) (.free rfl) rfl rfl (fun wD mD => op_move rfl) ?_
  refine DR.det (i := 1) rfl rfl (by kernel_rfl) (.free rfl) rfl rfl (fun wD mD => op_loadA (i := 0) (cs := fl ys) rfl Try.isAgg77 Try.sizeOf77 ((r6.ext md2).ext mD).rng rfl (fl_whole hly) (fl_len hly)) ?_
  refine DR.det (i := 2) rfl rfl (by kernel_rfl) (.free rfl) rfl rfl (fun wD mD => op_assign rfl) ?_
  refine DR.done rfl ?_
  intro w11 m9
  have r14 := (((((r2.ext m3).ext m4).mod m5 (nC (lG (lL r1.lt lR)) (nC (lE (lL (lL r2.lt m3.size) ge1)) nN))).ext md2).ext m9)
  refine WO.op0 rfl (.free rfl) rfl (op_store (i := 0) (cs := fl ys) rfl rfl rfl Try.sizeOf77 (fl_len hly) r14 rfl (by rw [fl_length, List.length_replicate]; decide) (fl_one _)) ?_
  rintro _ w12 ⟨r15, m10, z4⟩
  have r16 : Row w12 w1.heap.size 0 (fl ys) := Row.congr r15 (splice_all ((fl_len (List.length_replicate)).trans (fl_len (hly)).symm))
  refine WO.det (op_assign rfl) rfl (.free rfl) rfl rfl ?_
  refine WO.end (NE.code (CE.ret' ?_))
  refine XE.leaveT Try.results42 (res_tmp rfl (res_agg (cs := fl ys) rfl Try.isAgg77 Try.sizeOf77 r16.rng (fl_len hly) (res_tmp rfl res_nil))) ?_
  have r17 := (((r7.ext md2).ext m9).mod m10 (nC (lG (lL (lL r2.lt m3.size) ge1)) nN))
  have sz1 := (lT (lT m1.size m2.size) m3.size)
  refine ⟨b'1, c'1, ys, rfl, hly, hwy, ?_, (Row.congr r17 ?_), (lT sz1 ge1), (((((((((Mod.refl [] w).nt m1).nt m2).nt m3).nt m4).then m5 ((aC (.inr lR) (aC (.inr (lT sz1 ge1)) aN)))).nt md2).nt m9).then m10 ((aC (.inr (lT m1.size lR)) aN)))⟩
  all_goals subst efs
  all_goals subst eob
  all_goals (have e : i = n := (by omega); subst e; first | assumption | rfl)

theorem c_iChain0 (c : Nat) (b : Nat) (es : List FiR) (bs : List Nat) (ln : es.length = 0) (lb : bs.length = 16) (wb : W32 bs) (w : World) (r : Rng w b 0 (cat FiR.cells es)) : Cl Try.prog 42 #[vS b 0 0 c, .agg (fl bs).toArray] w fun v w' => ∃ (b' : Nat) (c' : Nat), v = .tuple #[vS b' 0 0 c', .agg (fl bs).toArray, vI 0] ∧ Row w' b' 0 [] ∧ w.heap.size ≤ b' ∧ Mod [] w w' := by
 refine Cl.of Try.func42 Try.ntmps42 rfl rfl (ρ := [(0, vS b 0 0 c), (1, .agg (fl bs).toArray)]) rfl ?_
 refine CE.seq (CE.region ?_)
 refine WL.op (op_box (cs := fl bs) rfl rfl) rfl rfl (ltb rfl) ?_
 rintro _ w1 ⟨rfl, r1, m1, z1⟩
 refine WL.det (op_assign rfl) rfl rfl rfl ?_
 refine WL.op (op_alloc (cs := fl (List.replicate 16 0)) Try.zeroValue77 rfl) rfl rfl (ltb rfl) ?_
 rintro _ w2 ⟨rfl, r2, m2, z2⟩
 refine WL.det (op_assign rfl) rfl rfl rfl ?_
 refine WL.end (NE.code (CE.seq (CE.block (CE.seq (CE.region ?_)))))
 refine WL.det (op_move rfl) rfl rfl rfl ?_
 refine WL.call (oc_call (vs := [vS b 0 0 c]) (cap := []) rfl rfl rfl Try.call78 (c_areFilters 0 c b es ln (by omega) w2 ((r.ext m1).ext m2))) rfl rfl (ltb rfl) ?_
 rintro _ w3 ⟨rfl, m3⟩
 refine WL.det (op_not rfl) rfl rfl rfl ?_
 refine WL.det (op_assign rfl) rfl rfl rfl ?_
 refine WL.end (NE.code ?_)
 refine CE.cond_f rfl (bnot_t rfl) ?_
 refine CE.seq (CE.region ?_)
 refine WL.det (op_move rfl) rfl rfl rfl ?_
 refine WL.det (op_len rfl Try.runUnderlying76) rfl rfl rfl ?_
 refine WL.det (op_gti rfl rfl) rfl rfl rfl ?_
 refine WL.det (op_assign rfl) rfl rfl rfl ?_
 refine WL.end (NE.code ?_)
 refine CE.cond_f rfl rfl ?_
 refine CE.skip' (NE.blk (NE.code (CE.seq (CE.region ?_))))
 refine WL.det (op_move rfl) rfl rfl rfl ?_
 refine WL.call (oc_call (vs := [vS b 0 0 c]) (cap := []) rfl rfl rfl Try.call79 (c_CloneFil0 c b w3)) rfl rfl (ltb rfl) ?_
 rintro _ w4 ⟨b'1, rfl, r3, ge1, m4⟩
 refine WL.det (op_assign rfl) rfl rfl rfl ?_
 refine WL.end (NE.code (CE.seq (CE.seq (CE.region ?_))))
 refine WL.det (op_move rfl) rfl rfl rfl ?_
 refine WL.det (op_len rfl Try.runUnderlying76) rfl rfl rfl ?_
 refine WL.det (op_move rfl) rfl rfl rfl ?_
 refine WL.end (NE.code (CE.block ?_))
 refine CE.rounds 1 ?_
 refine RN.one (CE.seq (CE.region ?_))
 refine WL.det (op_lti rfl rfl) rfl rfl rfl ?_
 refine WL.end (NE.code (CE.seq ?_))
 refine CE.cond_f rfl rfl ?_
 refine CE.exit' (XE.exit_then (XE.exit_then (XE.exit_here (NE.code (CE.seq ?_)))))
 refine CE.draw (fun _ => none) [0, 1, 2] [3, 4] [] (by kernel_rfl) (by kernel_rfl) ?_
 have md1 : Mod [] w4 w4.drew := (Mod.refl _ _).drew
 generalize w4.drew = w5 at md1 ⊢
 refine DR.det (i := 0) rfl rfl (by kernel_rfl) (.free rfl) rfl rfl (fun wD mD => op_move rfl) ?_
 refine DR.det (i := 1) rfl rfl (by kernel_rfl) (.free rfl) rfl rfl (fun wD mD => op_loadA (i := 0) (cs := fl bs) rfl Try.isAgg77 Try.sizeOf77 (((((r1.ext m2).ext m3).ext m4).ext md1).ext mD).rng rfl (fl_whole lb) (fl_len lb)) ?_
 refine DR.det (i := 2) rfl rfl (by kernel_rfl) (.free rfl) rfl rfl (fun wD mD => op_assign rfl) ?_
 refine DR.done rfl ?_
 intro w6 m5
 have r4 := ((((r2.ext m3).ext m4).ext md1).ext m5)
 refine WO.op0 rfl (.free rfl) rfl (op_store (i := 0) (cs := fl bs) rfl rfl rfl Try.sizeOf77 (fl_len lb) r4 rfl (by rw [fl_length, List.length_replicate]; decide) (fl_one _)) ?_
 rintro _ w7 ⟨r5, m6, z3⟩
 have r6 : Row w7 w1.heap.size 0 (fl bs) := Row.congr r5 (splice_all ((fl_len (List.length_replicate)).trans (fl_len (lb)).symm))
 refine WO.det (op_assign rfl) rfl (.free rfl) rfl rfl ?_
 refine WO.end (NE.code (CE.ret' ?_))
 refine XE.leaveT Try.results42 (res_tmp rfl (res_agg (cs := fl bs) rfl Try.isAgg77 Try.sizeOf77 r6.rng (fl_len lb) (res_tmp rfl res_nil))) ?_
 have r7 := (((r3.ext md1).ext m5).mod m6 (nC (lG (lL (lL r2.lt m3.size) ge1)) nN))
 have sz1 := (lT (lT m1.size m2.size) m3.size)
 refine ⟨b'1, 0, rfl, r7, (lT sz1 ge1), ((((((((Mod.refl [] w).nt m1).nt m2).nt m3).nt m4).nt md1).nt m5).then m6 ((aC (.inr (lT m1.size lR)) aN)))⟩

theorem c_iChain_bad (n : Nat) (c : Nat) (b : Nat) (es : List FiR) (bs : List Nat) (ln : es.length = n) (hn : n ≤ 1048576) (lb : bs.length = 16) (wb : W32 bs) (hv : vFils es n = false) (w : World) (r : Rng w b 0 (cat FiR.cells es)) : Cl Try.prog 42 #[vS b 0 n c, .agg (fl bs).toArray] w fun v w' => v = .tuple #[.slice none 0 0, .agg (fl (List.replicate 16 0)).toArray, vI 1] ∧ Mod [] w w' := by
 refine Cl.of Try.func42 Try.ntmps42 rfl rfl (ρ := [(0, vS b 0 n c), (1, .agg (fl bs).toArray)]) rfl ?_
 refine CE.seq (CE.region ?_)
 refine WL.op (op_box (cs := fl bs) rfl rfl) rfl rfl (ltb rfl) ?_
 rintro _ w1 ⟨rfl, r1, m1, z1⟩
 refine WL.det (op_assign rfl) rfl rfl rfl ?_
 refine WL.op (op_alloc (cs := fl (List.replicate 16 0)) Try.zeroValue77 rfl) rfl rfl (ltb rfl) ?_
 rintro _ w2 ⟨rfl, r2, m2, z2⟩
 refine WL.det (op_assign rfl) rfl rfl rfl ?_
 refine WL.end (NE.code (CE.seq (CE.block (CE.seq (CE.region ?_)))))
 refine WL.det (op_move rfl) rfl rfl rfl ?_
 refine WL.call (oc_call (vs := [vS b 0 n c]) (cap := []) rfl rfl rfl Try.call78 (c_areFilters n c b es ln (by omega) w2 ((r.ext m1).ext m2))) rfl rfl (ltb rfl) ?_
 rintro _ w3 ⟨rfl, m3⟩
 refine WL.det (op_not rfl) rfl rfl rfl ?_
 refine WL.det (op_assign rfl) rfl rfl rfl ?_
 refine WL.end (NE.code ?_)
 refine CE.cond_t rfl (bnot_f hv) ?_
 refine CE.seq (CE.region ?_)
 refine WL.det (op_build (qs := []) (cells := #[vF 0, vF 0, vF 0, vF 0, vF 0, vF 0, vF 0, vF 0, vF 0, vF 0, vF 0, vF 0, vF 0, vF 0, vF 0, vF 0]) rfl (by kernel_rfl)) rfl rfl rfl ?_
 refine WL.det (op_assign rfl) rfl rfl rfl ?_
 refine WL.op0 (op_store (i := 0) (cs := fl (List.replicate 16 0)) rfl rfl rfl Try.sizeOf77 (fl_len List.length_replicate) (r2.ext m3) rfl (by rw [fl_length, List.length_replicate]; decide) (fl_one _)) rfl rfl ?_
 rintro _ w4 ⟨r3, m4, z3⟩
 have r4 : Row w4 w1.heap.size 0 (fl (List.replicate 16 0)) := Row.congr r3 (splice_all ((fl_len (List.length_replicate)).trans (fl_len (List.length_replicate)).symm))
 refine WL.det (op_assign rfl) rfl rfl rfl ?_
 refine WL.end (NE.code (CE.ret' (XE.ret_blk (XE.ret_then ?_))))
 refine XE.leaveT Try.results42 (res_tmp rfl (res_agg (cs := fl (List.replicate 16 0)) rfl Try.isAgg77 Try.sizeOf77 r4.rng (fl_len List.length_replicate) (res_tmp rfl res_nil))) ?_
 refine ⟨rfl, (((((Mod.refl [] w).nt m1).nt m2).nt m3).then m4 ((aC (.inr (lT m1.size lR)) aN)))⟩

theorem c_iChain_lim (n : Nat) (c : Nat) (b : Nat) (es : List FiR) (bs : List Nat) (ln : es.length = n) (hn : n ≤ 1048576) (lb : bs.length = 16) (wb : W32 bs) (hv : vFils es n = true) (h6 : 6 < n) (w : World) (r : Rng w b 0 (cat FiR.cells es)) : Cl Try.prog 42 #[vS b 0 n c, .agg (fl bs).toArray] w fun v w' => v = .tuple #[.slice none 0 0, .agg (fl (List.replicate 16 0)).toArray, vI 3] ∧ Mod [] w w' := by
 refine Cl.of Try.func42 Try.ntmps42 rfl rfl (ρ := [(0, vS b 0 n c), (1, .agg (fl bs).toArray)]) rfl ?_
 refine CE.seq (CE.region ?_)
 refine WL.op (op_box (cs := fl bs) rfl rfl) rfl rfl (ltb rfl) ?_
 rintro _ w1 ⟨rfl, r1, m1, z1⟩
 refine WL.det (op_assign rfl) rfl rfl rfl ?_
 refine WL.op (op_alloc (cs := fl (List.replicate 16 0)) Try.zeroValue77 rfl) rfl rfl (ltb rfl) ?_
 rintro _ w2 ⟨rfl, r2, m2, z2⟩
 refine WL.det (op_assign rfl) rfl rfl rfl ?_
 refine WL.end (NE.code (CE.seq (CE.block (CE.seq (CE.region ?_)))))
 refine WL.det (op_move rfl) rfl rfl rfl ?_
 refine WL.call (oc_call (vs := [vS b 0 n c]) (cap := []) rfl rfl rfl Try.call78 (c_areFilters n c b es ln (by omega) w2 ((r.ext m1).ext m2))) rfl rfl (ltb rfl) ?_
 rintro _ w3 ⟨rfl, m3⟩
 refine WL.det (op_not rfl) rfl rfl rfl ?_
 refine WL.det (op_assign rfl) rfl rfl rfl ?_
 refine WL.end (NE.code ?_)
 refine CE.cond_f rfl (bnot_t hv) ?_
 refine CE.seq (CE.region ?_)
 refine WL.det (op_move rfl) rfl rfl rfl ?_
 refine WL.det (op_len rfl Try.runUnderlying76) rfl rfl rfl ?_
 refine WL.det (op_gti rfl rfl) rfl rfl rfl ?_
 refine WL.det (op_assign rfl) rfl rfl rfl ?_
 refine WL.end (NE.code ?_)
 refine CE.cond_t rfl (decide_eq_true (by omega)) ?_
 refine CE.seq (CE.region ?_)
 refine WL.det (op_build (qs := []) (cells := #[vF 0, vF 0, vF 0, vF 0, vF 0, vF 0, vF 0, vF 0, vF 0, vF 0, vF 0, vF 0, vF 0, vF 0, vF 0, vF 0]) rfl (by kernel_rfl)) rfl rfl rfl ?_
 refine WL.det (op_assign rfl) rfl rfl rfl ?_
 refine WL.op0 (op_store (i := 0) (cs := fl (List.replicate 16 0)) rfl rfl rfl Try.sizeOf77 (fl_len List.length_replicate) (r2.ext m3) rfl (by rw [fl_length, List.length_replicate]; decide) (fl_one _)) rfl rfl ?_
 rintro _ w4 ⟨r3, m4, z3⟩
 have r4 : Row w4 w1.heap.size 0 (fl (List.replicate 16 0)) := Row.congr r3 (splice_all ((fl_len (List.length_replicate)).trans (fl_len (List.length_replicate)).symm))
 refine WL.det (op_assign rfl) rfl rfl rfl ?_
 refine WL.end (NE.code (CE.ret' (XE.ret_blk (XE.ret_then ?_))))
 refine XE.leaveT Try.results42 (res_tmp rfl (res_agg (cs := fl (List.replicate 16 0)) rfl Try.isAgg77 Try.sizeOf77 r4.rng (fl_len List.length_replicate) (res_tmp rfl res_nil))) ?_
 refine ⟨rfl, (((((Mod.refl [] w).nt m1).nt m2).nt m3).then m4 ((aC (.inr (lT m1.size lR)) aN)))⟩

end Go.Proofs.Ytnpkhjafnjpnmaa
