/- The law on tunings that are read from texts, walked. -/
import Derived.Test.YtpjjnopjpgnlaaaDoorJ6
import Derived.Test.YtpjjnopjpgnlaaaDoorE8
set_option linter.unusedVariables false
set_option linter.unusedSimpArgs false
namespace Go.Proofs.YtpjjnopjpgnlaaaDoor

set_option maxRecDepth 100000 in
set_option maxHeartbeats 8000000 in
theorem law_read (s : ByteArray) (hs : s.size ≤ 1048576) (hv : okS s = true) (w : World) (T2 : LibR w LC 0 []) (T : LibT w LB 0 []) : Cl Tryd.prog 3 #[.string s] w fun v w' => v = .bool true ∧ Mod [] w w' := by
  obtain ⟨k1, k2, k3, k4, k5⟩ := okS_t hv; have k9 := tunF_n k5
  refine Cl.of Tryd.func3 Tryd.ntmps3 rfl rfl (ρ := [(0, .string s)]) rfl ?_
  refine CE.seq ?_
  refine CE.region ?_
  refine WL.det (op_assign rfl) rfl rfl rfl ?_
  refine WL.end ?_
  refine NE.code ?_
  refine CE.seq ?_
  refine CE.seq ?_
  refine CE.region ?_
  refine WL.det (op_move rfl) rfl rfl rfl ?_
  refine WL.det (op_lens rfl Tryd.runUnderlying9) rfl rfl rfl ?_
  refine WL.det (op_gti rfl rfl) rfl rfl rfl ?_
  refine WL.end ?_
  refine NE.code ?_
  refine CE.cond_f rfl (decide_eq_false (by omega)) ?_
  refine CE.skip' ?_
  refine NE.code ?_
  refine CE.seq ?_
  refine CE.region ?_
  refine WL.det (op_move rfl) rfl rfl rfl ?_
  refine WL.call (oc_call (vs := [.string s]) (cap := []) rfl rfl rfl Tryd.call4 (c_sRead s hs hv w)) rfl rfl (ltb rfl) ?_
  rintro _ w1 ⟨b'1, c'1, rfl, r1, ge1, m1⟩
  refine WL.det (op_move rfl) rfl rfl rfl ?_
  refine WL.det (op_extract rfl rfl) rfl rfl rfl ?_
  refine WL.det (op_extract rfl rfl) rfl rfl rfl ?_
  refine WL.op (op_alloc (cs := [vF 0, vF 0, .slice none 0 0]) Tryd.zeroValue25 rfl) rfl rfl (ltb rfl) ?_
  rintro _ w2 ⟨rfl, r2, m2, z1⟩
  refine WL.op0 (op_store (i := 0) (cs := [vF ((rdL ((splW s 32).drop 1)).getD 0 0), vF ((rdL ((splW s 32).drop 1)).getD 1 0), vS b'1 0 (((nW s 32) - 1) - 2) c'1]) rfl rfl rfl Tryd.sizeOf25 rfl r2 rfl (lB rfl) rfl) rfl rfl ?_
  rintro _ w3 ⟨r3, m3, z2⟩
  have r4 : Row w3 w1.heap.size 0 [vF ((rdL ((splW s 32).drop 1)).getD 0 0), vF ((rdL ((splW s 32).drop 1)).getD 1 0), vS b'1 0 (((nW s 32) - 1) - 2) c'1] := Row.congr r3 rfl
  refine WL.det (op_assign rfl) rfl rfl rfl ?_
  refine WL.end ?_
  refine NE.code ?_
  refine CE.seq ?_
  refine CE.region ?_
  refine WL.det (op_move rfl) rfl rfl rfl ?_
  refine WL.call (oc_call (vs := [.string s]) (cap := []) rfl rfl rfl Tryd.call5 (c_iRead s hs hv w3 (LibR.youngS T2 ((T2.ext m1).ext m2) m3 (allge_cons (lT m1.size lR) allge_nil)) (LibT.youngS T ((T.ext m1).ext m2) m3 (allge_cons (lT m1.size lR) allge_nil)))) rfl rfl (ltb rfl) ?_
  rintro _ w4 ⟨b'2, c'2, rfl, r5, ge2, m4⟩
  refine WL.det (op_move rfl) rfl rfl rfl ?_
  refine WL.det (op_extract rfl rfl) rfl rfl rfl ?_
  refine WL.det (op_extract rfl rfl) rfl rfl rfl ?_
  refine WL.op (op_alloc (cs := [vF 0, vF 0, .slice none 0 0]) Tryd.zeroValue25 rfl) rfl rfl (ltb rfl) ?_
  rintro _ w5 ⟨rfl, r6, m5, z3⟩
  refine WL.op0 (op_store (i := 0) (cs := [vF ((rdL ((splW s 32).drop 1)).getD 0 0), vF ((rdL ((splW s 32).drop 1)).getD 1 0), vS b'2 (0 + 2) (((nW s 32) - 1) - 2) c'2]) rfl rfl rfl Tryd.sizeOf25 rfl r6 rfl (lB rfl) rfl) rfl rfl ?_
  rintro _ w6 ⟨r7, m6, z4⟩
  have r8 : Row w6 w4.heap.size 0 [vF ((rdL ((splW s 32).drop 1)).getD 0 0), vF ((rdL ((splW s 32).drop 1)).getD 1 0), vS b'2 (0 + 2) (((nW s 32) - 1) - 2) c'2] := Row.congr r7 rfl
  refine WL.det (op_assign rfl) rfl rfl rfl ?_
  refine WL.end ?_
  refine NE.code ?_
  refine CE.seq ?_
  refine CE.seq ?_
  refine CE.region ?_
  refine WL.det (op_loadA (i := 0) (cs := [vF ((rdL ((splW s 32).drop 1)).getD 0 0), vF ((rdL ((splW s 32).drop 1)).getD 1 0), vS b'2 (0 + 2) (((nW s 32) - 1) - 2) c'2]) rfl Tryd.isAgg25 Tryd.sizeOf25 r8.rng rfl rfl rfl) rfl rfl rfl ?_
  refine WL.det (op_loadA (i := 0) (cs := [vF ((rdL ((splW s 32).drop 1)).getD 0 0), vF ((rdL ((splW s 32).drop 1)).getD 1 0), vS b'1 0 (((nW s 32) - 1) - 2) c'1]) rfl Tryd.isAgg25 Tryd.sizeOf25 (((r4.ext m4).ext m5).mod m6 (nC (lE (lL (lL r2.lt (lT m3.size m4.size)) lR)) nN)).rng rfl rfl rfl) rfl rfl rfl ?_
  refine WL.call (oc_call (vs := [.agg #[vF ((rdL ((splW s 32).drop 1)).getD 0 0), vF ((rdL ((splW s 32).drop 1)).getD 1 0), vS b'2 (0 + 2) (((nW s 32) - 1) - 2) c'2], .agg #[vF ((rdL ((splW s 32).drop 1)).getD 0 0), vF ((rdL ((splW s 32).drop 1)).getD 1 0), vS b'1 0 (((nW s 32) - 1) - 2) c'1]]) (cap := []) rfl rfl rfl Tryd.call6 (c_eqTuning ((rdL ((splW s 32).drop 1)).getD 0 0) ((rdL ((splW s 32).drop 1)).getD 0 0) ((rdL ((splW s 32).drop 1)).getD 1 0) ((rdL ((splW s 32).drop 1)).getD 1 0) (((nW s 32) - 1) - 2) c'2 (some ⟨b'2, 0 + 2, none⟩) b'2 (0 + 2) ((rdL ((splW s 32).drop 1)).drop 2) ((rdL ((splW s 32).drop 1)).getD 0 0) ((rdL ((splW s 32).drop 1)).getD 1 0) c'1 (some ⟨b'1, 0, none⟩) b'1 0 (drop_len (xs_len s) 2) (fun _ => rfl) rfl rfl rfl rfl (fun _ => rfl) (by omega) w6 ((r5.ext m5).mod m6 (nC (lE (lL r5.lt lR)) nN)).rng (((((r1.ext m2).mod m3 (nC (lE (lL r1.lt lR)) nN)).ext m4).ext m5).mod m6 (nC (lE (lL (lL r1.lt (lT (lT m2.size m3.size) m4.size)) lR)) nN)).rng)) rfl rfl (ltb rfl) ?_
  rintro _ w7 ⟨rfl, m7⟩
  refine WL.det (op_not rfl) rfl rfl rfl ?_
  refine WL.det (op_move rfl) rfl rfl rfl ?_
  refine WL.yes rfl rfl rfl (ltb rfl) rfl rfl ?_
  refine WL.det (op_move rfl) rfl rfl rfl ?_
  refine WL.yes rfl rfl rfl (ltb rfl) rfl rfl ?_
  refine WL.det (op_move rfl) rfl rfl rfl ?_
  refine WL.yes rfl rfl rfl (ltb rfl) rfl rfl ?_
  refine WL.det (op_nei rfl rfl) rfl rfl rfl ?_
  refine WL.det (op_pick_f rfl rfl rfl) rfl rfl rfl ?_
  refine WL.end ?_
  refine NE.code ?_
  refine CE.cond_f rfl rfl ?_
  refine CE.skip' ?_
  refine NE.code ?_
  refine CE.seq ?_
  refine CE.region ?_
  refine WL.det (op_assign rfl) rfl rfl rfl ?_
  refine WL.end ?_
  refine NE.code ?_
  refine CE.seq ?_
  refine CE.region ?_
  refine WL.det (op_loadA (i := 0) (cs := [vF ((rdL ((splW s 32).drop 1)).getD 0 0), vF ((rdL ((splW s 32).drop 1)).getD 1 0), vS b'2 (0 + 2) (((nW s 32) - 1) - 2) c'2]) rfl Tryd.isAgg25 Tryd.sizeOf25 (r8.ext m7).rng rfl rfl rfl) rfl rfl rfl ?_
  refine WL.det (op_move rfl) rfl rfl rfl ?_
  refine WL.call (oc_call (vs := [.agg #[vF ((rdL ((splW s 32).drop 1)).getD 0 0), vF ((rdL ((splW s 32).drop 1)).getD 1 0), vS b'2 (0 + 2) (((nW s 32) - 1) - 2) c'2], vI 1]) (cap := []) rfl rfl rfl Tryd.call7 (c_markTunU ((rdL ((splW s 32).drop 1)).getD 0 0) ((rdL ((splW s 32).drop 1)).getD 1 0) (((nW s 32) - 1) - 2) c'2 b'2 (0 + 2) ((rdL ((splW s 32).drop 1)).drop 2) 1 (drop_len (xs_len s) 2) (by omega) (by omega) w7 (((r5.ext m5).mod m6 (nC (lE (lL r5.lt lR)) nN)).ext m7))) rfl rfl (ltb rfl) ?_
  rintro _ w8 ⟨rfl, r9, m8⟩
  refine WL.det (op_assign rfl) rfl rfl rfl ?_
  refine WL.end ?_
  refine NE.code ?_
  refine CE.seq ?_
  refine CE.region ?_
  refine WL.det (op_assign rfl) rfl rfl rfl ?_
  refine WL.end ?_
  refine NE.code ?_
  refine CE.seq ?_
  refine CE.region ?_
  refine WL.det (op_loadA (i := 0) (cs := [vF ((rdL ((splW s 32).drop 1)).getD 0 0), vF ((rdL ((splW s 32).drop 1)).getD 1 0), vS b'2 (0 + 2) (((nW s 32) - 1) - 2) c'2]) rfl Tryd.isAgg25 Tryd.sizeOf25 ((r8.ext m7).mod m8 (nC (lG (lL r5.lt lR)) nN)).rng rfl rfl rfl) rfl rfl rfl ?_
  refine WL.det (op_move rfl) rfl rfl rfl ?_
  refine WL.call (oc_call (vs := [.agg #[vF ((rdL ((splW s 32).drop 1)).getD 0 0), vF ((rdL ((splW s 32).drop 1)).getD 1 0), vS b'2 (0 + 2) (((nW s 32) - 1) - 2) c'2], vI 1]) (cap := []) rfl rfl rfl Tryd.call8 (c_heldTunU ((rdL ((splW s 32).drop 1)).getD 0 0) ((rdL ((splW s 32).drop 1)).getD 1 0) (((nW s 32) - 1) - 2) c'2 b'2 (0 + 2) (marks ((rdL ((splW s 32).drop 1)).drop 2) 1 (((nW s 32) - 1) - 2)) 1 (marks_len (drop_len (xs_len s) 2) (Nat.le_refl _)) (by omega) (by omega) (by first | assumption | exact marks_held _ _ _) w8 r9.rng)) rfl rfl (ltb rfl) ?_
  rintro _ w9 ⟨rfl, m9⟩
  refine WL.det (op_assign rfl) rfl rfl rfl ?_
  refine WL.end ?_
  refine NE.code ?_
  refine CE.seq ?_
  refine CE.seq ?_
  refine CE.region ?_
  refine WL.det (op_move rfl) rfl rfl rfl ?_
  refine WL.det (op_lti_f rfl rfl (by omega)) rfl rfl rfl ?_
  refine WL.end ?_
  refine NE.code ?_
  refine CE.cond_f rfl rfl ?_
  refine CE.skip' ?_
  refine NE.code ?_
  refine CE.seq ?_
  refine CE.seq ?_
  refine CE.region ?_
  refine WL.det (op_move rfl) rfl rfl rfl ?_
  refine WL.det (op_move rfl) rfl rfl rfl ?_
  refine WL.det (op_nei_f rfl rfl rfl) rfl rfl rfl ?_
  refine WL.end ?_
  refine NE.code ?_
  refine CE.cond_f rfl rfl ?_
  refine CE.skip' ?_
  refine NE.code ?_
  refine CE.seq ?_
  refine CE.region ?_
  refine WL.det (op_move rfl) rfl rfl rfl ?_
  refine WL.call (oc_call (vs := [.string s]) (cap := []) rfl rfl rfl Tryd.call5 (c_iRead s hs hv w9 ((LibR.youngS T2 ((LibR.youngS T2 (((LibR.youngS T2 ((T2.ext m1).ext m2) m3 (allge_cons (lT m1.size lR) allge_nil)).ext m4).ext m5) m6 (allge_cons (lT (lT (lT (lT m1.size m2.size) m3.size) m4.size) lR) allge_nil)).ext m7) m8 (allge_cons (lT (lT (lT m1.size m2.size) m3.size) ge2) allge_nil)).ext m9) ((LibT.youngS T ((LibT.youngS T (((LibT.youngS T ((T.ext m1).ext m2) m3 (allge_cons (lT m1.size lR) allge_nil)).ext m4).ext m5) m6 (allge_cons (lT (lT (lT (lT m1.size m2.size) m3.size) m4.size) lR) allge_nil)).ext m7) m8 (allge_cons (lT (lT (lT m1.size m2.size) m3.size) ge2) allge_nil)).ext m9))) rfl rfl (ltb rfl) ?_
  rintro _ w10 ⟨b'3, c'3, rfl, r10, ge3, m10⟩
  refine WL.det (op_move rfl) rfl rfl rfl ?_
  refine WL.det (op_extract rfl rfl) rfl rfl rfl ?_
  refine WL.det (op_extract rfl rfl) rfl rfl rfl ?_
  refine WL.op (op_alloc (cs := [vF 0, vF 0, .slice none 0 0]) Tryd.zeroValue25 rfl) rfl rfl (ltb rfl) ?_
  rintro _ w11 ⟨rfl, r11, m11, z5⟩
  refine WL.op0 (op_store (i := 0) (cs := [vF ((rdL ((splW s 32).drop 1)).getD 0 0), vF ((rdL ((splW s 32).drop 1)).getD 1 0), vS b'3 (0 + 2) (((nW s 32) - 1) - 2) c'3]) rfl rfl rfl Tryd.sizeOf25 rfl r11 rfl (lB rfl) rfl) rfl rfl ?_
  rintro _ w12 ⟨r12, m12, z6⟩
  have r13 : Row w12 w10.heap.size 0 [vF ((rdL ((splW s 32).drop 1)).getD 0 0), vF ((rdL ((splW s 32).drop 1)).getD 1 0), vS b'3 (0 + 2) (((nW s 32) - 1) - 2) c'3] := Row.congr r12 rfl
  refine WL.det (op_assign rfl) rfl rfl rfl ?_
  refine WL.end ?_
  refine NE.code ?_
  refine CE.seq ?_
  refine CE.seq ?_
  refine CE.region ?_
  refine WL.det (op_loadA (i := 0) (cs := [vF ((rdL ((splW s 32).drop 1)).getD 0 0), vF ((rdL ((splW s 32).drop 1)).getD 1 0), vS b'3 (0 + 2) (((nW s 32) - 1) - 2) c'3]) rfl Tryd.isAgg25 Tryd.sizeOf25 r13.rng rfl rfl rfl) rfl rfl rfl ?_
  refine WL.det (op_loadA (i := 0) (cs := [vF ((rdL ((splW s 32).drop 1)).getD 0 0), vF ((rdL ((splW s 32).drop 1)).getD 1 0), vS b'1 0 (((nW s 32) - 1) - 2) c'1]) rfl Tryd.isAgg25 Tryd.sizeOf25 (((((((((r4.ext m4).ext m5).mod m6 (nC (lE (lL (lL r2.lt (lT m3.size m4.size)) lR)) nN)).ext m7).mod m8 (nC (lE (lL (lL r2.lt m3.size) ge2)) nN)).ext m9).ext m10).ext m11).mod m12 (nC (lE (lL (lL r2.lt (lT (lT (lT (lT (lT (lT (lT m3.size m4.size) m5.size) m6.size) m7.size) m8.size) m9.size) m10.size)) lR)) nN)).rng rfl rfl rfl) rfl rfl rfl ?_
  refine WL.call (oc_call (vs := [.agg #[vF ((rdL ((splW s 32).drop 1)).getD 0 0), vF ((rdL ((splW s 32).drop 1)).getD 1 0), vS b'3 (0 + 2) (((nW s 32) - 1) - 2) c'3], .agg #[vF ((rdL ((splW s 32).drop 1)).getD 0 0), vF ((rdL ((splW s 32).drop 1)).getD 1 0), vS b'1 0 (((nW s 32) - 1) - 2) c'1]]) (cap := []) rfl rfl rfl Tryd.call6 (c_eqTuning ((rdL ((splW s 32).drop 1)).getD 0 0) ((rdL ((splW s 32).drop 1)).getD 0 0) ((rdL ((splW s 32).drop 1)).getD 1 0) ((rdL ((splW s 32).drop 1)).getD 1 0) (((nW s 32) - 1) - 2) c'3 (some ⟨b'3, 0 + 2, none⟩) b'3 (0 + 2) ((rdL ((splW s 32).drop 1)).drop 2) ((rdL ((splW s 32).drop 1)).getD 0 0) ((rdL ((splW s 32).drop 1)).getD 1 0) c'1 (some ⟨b'1, 0, none⟩) b'1 0 (drop_len (xs_len s) 2) (fun _ => rfl) rfl rfl rfl rfl (fun _ => rfl) (by omega) w12 ((r10.ext m11).mod m12 (nC (lE (lL r10.lt lR)) nN)).rng (((((((((((r1.ext m2).mod m3 (nC (lE (lL r1.lt lR)) nN)).ext m4).ext m5).mod m6 (nC (lE (lL (lL r1.lt (lT (lT m2.size m3.size) m4.size)) lR)) nN)).ext m7).mod m8 (nC (lE (lL (lL r1.lt (lT m2.size m3.size)) ge2)) nN)).ext m9).ext m10).ext m11).mod m12 (nC (lE (lL (lL r1.lt (lT (lT (lT (lT (lT (lT (lT (lT m2.size m3.size) m4.size) m5.size) m6.size) m7.size) m8.size) m9.size) m10.size)) lR)) nN)).rng)) rfl rfl (ltb rfl) ?_
  rintro _ w13 ⟨rfl, m13⟩
  refine WL.det (op_not rfl) rfl rfl rfl ?_
  refine WL.det (op_move rfl) rfl rfl rfl ?_
  refine WL.yes rfl rfl rfl (ltb rfl) rfl rfl ?_
  refine WL.det (op_move rfl) rfl rfl rfl ?_
  refine WL.yes rfl rfl rfl (ltb rfl) rfl rfl ?_
  refine WL.det (op_move rfl) rfl rfl rfl ?_
  refine WL.yes rfl rfl rfl (ltb rfl) rfl rfl ?_
  refine WL.det (op_nei rfl rfl) rfl rfl rfl ?_
  refine WL.det (op_pick_f rfl rfl rfl) rfl rfl rfl ?_
  refine WL.end ?_
  refine NE.code ?_
  refine CE.cond_f rfl rfl ?_
  refine CE.skip' ?_
  refine NE.code ?_
  refine CE.seq ?_
  refine CE.region ?_
  refine WL.det (op_assign rfl) rfl rfl rfl ?_
  refine WL.end ?_
  refine NE.code ?_
  refine CE.seq ?_
  refine CE.region ?_
  refine WL.det (op_loadA (i := 0) (cs := [vF ((rdL ((splW s 32).drop 1)).getD 0 0), vF ((rdL ((splW s 32).drop 1)).getD 1 0), vS b'2 (0 + 2) (((nW s 32) - 1) - 2) c'2]) rfl Tryd.isAgg25 Tryd.sizeOf25 (((((((r8.ext m7).mod m8 (nC (lG (lL r5.lt lR)) nN)).ext m9).ext m10).ext m11).mod m12 (nC (lE (lL (lL r6.lt (lT (lT (lT (lT m6.size m7.size) m8.size) m9.size) m10.size)) lR)) nN)).ext m13).rng rfl rfl rfl) rfl rfl rfl ?_
  refine WL.det (op_move rfl) rfl rfl rfl ?_
  refine WL.call (oc_call (vs := [.agg #[vF ((rdL ((splW s 32).drop 1)).getD 0 0), vF ((rdL ((splW s 32).drop 1)).getD 1 0), vS b'2 (0 + 2) (((nW s 32) - 1) - 2) c'2], vI 1]) (cap := []) rfl rfl rfl Tryd.call8 (c_heldTunU ((rdL ((splW s 32).drop 1)).getD 0 0) ((rdL ((splW s 32).drop 1)).getD 1 0) (((nW s 32) - 1) - 2) c'2 b'2 (0 + 2) (marks ((rdL ((splW s 32).drop 1)).drop 2) 1 (((nW s 32) - 1) - 2)) 1 (marks_len (drop_len (xs_len s) 2) (Nat.le_refl _)) (by omega) (by omega) (by first | assumption | exact marks_held _ _ _) w13 (((((r9.ext m9).ext m10).ext m11).mod m12 (nC (lE (lL (lL r5.lt (lT (lT (lT (lT (lT m5.size m6.size) m7.size) m8.size) m9.size) m10.size)) lR)) nN)).ext m13).rng)) rfl rfl (ltb rfl) ?_
  rintro _ w14 ⟨rfl, m14⟩
  refine WL.det (op_assign rfl) rfl rfl rfl ?_
  refine WL.end ?_
  refine NE.code ?_
  refine CE.seq ?_
  refine CE.seq ?_
  refine CE.region ?_
  refine WL.det (op_move rfl) rfl rfl rfl ?_
  refine WL.det (op_lti_f rfl rfl (by omega)) rfl rfl rfl ?_
  refine WL.end ?_
  refine NE.code ?_
  refine CE.cond_f rfl rfl ?_
  refine CE.skip' ?_
  refine NE.code ?_
  refine CE.seq ?_
  refine CE.seq ?_
  refine CE.region ?_
  refine WL.det (op_move rfl) rfl rfl rfl ?_
  refine WL.det (op_move rfl) rfl rfl rfl ?_
  refine WL.det (op_nei_f rfl rfl rfl) rfl rfl rfl ?_
  refine WL.end ?_
  refine NE.code ?_
  refine CE.cond_f rfl rfl ?_
  refine CE.skip' ?_
  refine NE.code ?_
  refine CE.seq ?_
  refine CE.region ?_
  refine WL.det (op_assign rfl) rfl rfl rfl ?_
  refine WL.end ?_
  refine NE.code ?_
  refine CE.ret' ?_
  refine XE.leave1 Tryd.results3 rfl ?_
  refine ⟨rfl, (((((((((((((((Mod.refl [] w).nt m1).nt m2).then m3 ((aC (.inr (lT m1.size lR)) aN))).nt m4).nt m5).then m6 ((aC (.inr (lT (lT (lT (lT m1.size m2.size) m3.size) m4.size) lR)) aN))).nt m7).then m8 ((aC (.inr (lT (lT (lT m1.size m2.size) m3.size) ge2)) aN))).nt m9).nt m10).nt m11).then m12 ((aC (.inr (lT (lT (lT (lT (lT (lT (lT (lT (lT (lT m1.size m2.size) m3.size) m4.size) m5.size) m6.size) m7.size) m8.size) m9.size) m10.size) lR)) aN))).nt m13).nt m14)⟩

set_option maxRecDepth 100000 in
set_option maxHeartbeats 8000000 in
theorem law_read_no (s : ByteArray) (hs : s.size ≤ 1048576) (hv : okS s = false) (w : World) (T2 : LibR w LC 0 []) (T : LibT w LB 0 []) : Cl Tryd.prog 3 #[.string s] w fun v w' => v = .bool true ∧ Mod [] w w' := by
  refine Cl.of Tryd.func3 Tryd.ntmps3 rfl rfl (ρ := [(0, .string s)]) rfl ?_
  refine CE.seq ?_
  refine CE.region ?_
  refine WL.det (op_assign rfl) rfl rfl rfl ?_
  refine WL.end ?_
  refine NE.code ?_
  refine CE.seq ?_
  refine CE.seq ?_
  refine CE.region ?_
  refine WL.det (op_move rfl) rfl rfl rfl ?_
  refine WL.det (op_lens rfl Tryd.runUnderlying9) rfl rfl rfl ?_
  refine WL.det (op_gti rfl rfl) rfl rfl rfl ?_
  refine WL.end ?_
  refine NE.code ?_
  refine CE.cond_f rfl (decide_eq_false (by omega)) ?_
  refine CE.skip' ?_
  refine NE.code ?_
  refine CE.seq ?_
  refine CE.region ?_
  refine WL.det (op_move rfl) rfl rfl rfl ?_
  refine WL.call (oc_call (vs := [.string s]) (cap := []) rfl rfl rfl Tryd.call4 (c_sRead_no s hs hv w)) rfl rfl (ltb rfl) ?_
  rintro _ w1 ⟨rfl, m1⟩
  refine WL.det (op_move rfl) rfl rfl rfl ?_
  refine WL.det (op_extract rfl rfl) rfl rfl rfl ?_
  refine WL.det (op_extract rfl rfl) rfl rfl rfl ?_
  refine WL.op (op_alloc (cs := [vF 0, vF 0, .slice none 0 0]) Tryd.zeroValue25 rfl) rfl rfl (ltb rfl) ?_
  rintro _ w2 ⟨rfl, r1, m2, z1⟩
  refine WL.op0 (op_store (i := 0) (cs := [vF 0, vF 0, .slice none 0 0]) rfl rfl rfl Tryd.sizeOf25 rfl r1 rfl (lB rfl) rfl) rfl rfl ?_
  rintro _ w3 ⟨r2, m3, z2⟩
  have r3 : Row w3 w1.heap.size 0 [vF 0, vF 0, .slice none 0 0] := Row.congr r2 rfl
  refine WL.det (op_assign rfl) rfl rfl rfl ?_
  refine WL.end ?_
  refine NE.code ?_
  refine CE.seq ?_
  refine CE.region ?_
  refine WL.det (op_move rfl) rfl rfl rfl ?_
  refine WL.call (oc_call (vs := [.string s]) (cap := []) rfl rfl rfl Tryd.call5 (c_iRead_no s hs hv w3 (LibR.youngS T2 ((T2.ext m1).ext m2) m3 (allge_cons (lT m1.size lR) allge_nil)) (LibT.youngS T ((T.ext m1).ext m2) m3 (allge_cons (lT m1.size lR) allge_nil)))) rfl rfl (ltb rfl) ?_
  rintro _ w4 ⟨rfl, m4⟩
  refine WL.det (op_move rfl) rfl rfl rfl ?_
  refine WL.det (op_extract rfl rfl) rfl rfl rfl ?_
  refine WL.det (op_extract rfl rfl) rfl rfl rfl ?_
  refine WL.op (op_alloc (cs := [vF 0, vF 0, .slice none 0 0]) Tryd.zeroValue25 rfl) rfl rfl (ltb rfl) ?_
  rintro _ w5 ⟨rfl, r4, m5, z3⟩
  refine WL.op0 (op_store (i := 0) (cs := [vF 0, vF 0, .slice none 0 0]) rfl rfl rfl Tryd.sizeOf25 rfl r4 rfl (lB rfl) rfl) rfl rfl ?_
  rintro _ w6 ⟨r5, m6, z4⟩
  have r6 : Row w6 w4.heap.size 0 [vF 0, vF 0, .slice none 0 0] := Row.congr r5 rfl
  refine WL.det (op_assign rfl) rfl rfl rfl ?_
  refine WL.end ?_
  refine NE.code ?_
  refine CE.seq ?_
  refine CE.seq ?_
  refine CE.region ?_
  refine WL.det (op_loadA (i := 0) (cs := [vF 0, vF 0, .slice none 0 0]) rfl Tryd.isAgg25 Tryd.sizeOf25 r6.rng rfl rfl rfl) rfl rfl rfl ?_
  refine WL.det (op_loadA (i := 0) (cs := [vF 0, vF 0, .slice none 0 0]) rfl Tryd.isAgg25 Tryd.sizeOf25 (((r3.ext m4).ext m5).mod m6 (nC (lE (lL (lL r1.lt (lT m3.size m4.size)) lR)) nN)).rng rfl rfl rfl) rfl rfl rfl ?_
  refine WL.call (oc_call (vs := [.agg #[vF 0, vF 0, .slice none 0 0], .agg #[vF 0, vF 0, .slice none 0 0]]) (cap := []) rfl rfl rfl Tryd.call6 (c_eqTuning 0 0 0 0 0 0 none 0 0 [] 0 0 0 none 0 0 rfl (fun h => absurd h (Nat.lt_irrefl _)) rfl rfl rfl rfl (fun h => absurd h (Nat.lt_irrefl _)) (by omega) w6 (Rng.nil _ _ _) (Rng.nil _ _ _))) rfl rfl (ltb rfl) ?_
  rintro _ w7 ⟨rfl, m7⟩
  refine WL.det (op_not rfl) rfl rfl rfl ?_
  refine WL.det (op_move rfl) rfl rfl rfl ?_
  refine WL.yes rfl rfl rfl (ltb rfl) rfl rfl ?_
  refine WL.det (op_move rfl) rfl rfl rfl ?_
  refine WL.yes rfl rfl rfl (ltb rfl) rfl rfl ?_
  refine WL.det (op_move rfl) rfl rfl rfl ?_
  refine WL.yes rfl rfl rfl (ltb rfl) rfl rfl ?_
  refine WL.det (op_nei rfl rfl) rfl rfl rfl ?_
  refine WL.det (op_pick_f rfl rfl rfl) rfl rfl rfl ?_
  refine WL.end ?_
  refine NE.code ?_
  refine CE.cond_f rfl rfl ?_
  refine CE.skip' ?_
  refine NE.code ?_
  refine CE.seq ?_
  refine CE.region ?_
  refine WL.det (op_assign rfl) rfl rfl rfl ?_
  refine WL.end ?_
  refine NE.code ?_
  refine CE.seq ?_
  refine CE.region ?_
  refine WL.det (op_loadA (i := 0) (cs := [vF 0, vF 0, .slice none 0 0]) rfl Tryd.isAgg25 Tryd.sizeOf25 (r6.ext m7).rng rfl rfl rfl) rfl rfl rfl ?_
  refine WL.det (op_move rfl) rfl rfl rfl ?_
  refine WL.call (oc_call (vs := [.agg #[vF 0, vF 0, .slice none 0 0], vI 1]) (cap := []) rfl rfl rfl Tryd.call7 (c_markTuning_nil 0 0 1 (by omega) w7)) rfl rfl (ltb rfl) ?_
  rintro _ w8 ⟨rfl, m8⟩
  refine WL.det (op_assign rfl) rfl rfl rfl ?_
  refine WL.end ?_
  refine NE.code ?_
  refine CE.seq ?_
  refine CE.region ?_
  refine WL.det (op_assign rfl) rfl rfl rfl ?_
  refine WL.end ?_
  refine NE.code ?_
  refine CE.seq ?_
  refine CE.region ?_
  refine WL.det (op_loadA (i := 0) (cs := [vF 0, vF 0, .slice none 0 0]) rfl Tryd.isAgg25 Tryd.sizeOf25 ((r6.ext m7).ext m8).rng rfl rfl rfl) rfl rfl rfl ?_
  refine WL.det (op_move rfl) rfl rfl rfl ?_
  refine WL.call (oc_call (vs := [.agg #[vF 0, vF 0, .slice none 0 0], vI 1]) (cap := []) rfl rfl rfl Tryd.call8 (c_heldTuning_nil 0 0 1 (by omega) w8)) rfl rfl (ltb rfl) ?_
  rintro _ w9 ⟨rfl, m9⟩
  refine WL.det (op_assign rfl) rfl rfl rfl ?_
  refine WL.end ?_
  refine NE.code ?_
  refine CE.seq ?_
  refine CE.seq ?_
  refine CE.region ?_
  refine WL.det (op_move rfl) rfl rfl rfl ?_
  refine WL.det (op_lti rfl rfl) rfl rfl rfl ?_
  refine WL.end ?_
  refine NE.code ?_
  refine CE.cond_f rfl rfl ?_
  refine CE.skip' ?_
  refine NE.code ?_
  refine CE.seq ?_
  refine CE.seq ?_
  refine CE.region ?_
  refine WL.det (op_move rfl) rfl rfl rfl ?_
  refine WL.det (op_move rfl) rfl rfl rfl ?_
  refine WL.det (op_nei rfl rfl) rfl rfl rfl ?_
  refine WL.end ?_
  refine NE.code ?_
  refine CE.cond_f rfl rfl ?_
  refine CE.skip' ?_
  refine NE.code ?_
  refine CE.seq ?_
  refine CE.region ?_
  refine WL.det (op_move rfl) rfl rfl rfl ?_
  refine WL.call (oc_call (vs := [.string s]) (cap := []) rfl rfl rfl Tryd.call5 (c_iRead_no s hs hv w9 ((((LibR.youngS T2 (((LibR.youngS T2 ((T2.ext m1).ext m2) m3 (allge_cons (lT m1.size lR) allge_nil)).ext m4).ext m5) m6 (allge_cons (lT (lT (lT (lT m1.size m2.size) m3.size) m4.size) lR) allge_nil)).ext m7).ext m8).ext m9) ((((LibT.youngS T (((LibT.youngS T ((T.ext m1).ext m2) m3 (allge_cons (lT m1.size lR) allge_nil)).ext m4).ext m5) m6 (allge_cons (lT (lT (lT (lT m1.size m2.size) m3.size) m4.size) lR) allge_nil)).ext m7).ext m8).ext m9))) rfl rfl (ltb rfl) ?_
  rintro _ w10 ⟨rfl, m10⟩
  refine WL.det (op_move rfl) rfl rfl rfl ?_
  refine WL.det (op_extract rfl rfl) rfl rfl rfl ?_
  refine WL.det (op_extract rfl rfl) rfl rfl rfl ?_
  refine WL.op (op_alloc (cs := [vF 0, vF 0, .slice none 0 0]) Tryd.zeroValue25 rfl) rfl rfl (ltb rfl) ?_
  rintro _ w11 ⟨rfl, r7, m11, z5⟩
  refine WL.op0 (op_store (i := 0) (cs := [vF 0, vF 0, .slice none 0 0]) rfl rfl rfl Tryd.sizeOf25 rfl r7 rfl (lB rfl) rfl) rfl rfl ?_
  rintro _ w12 ⟨r8, m12, z6⟩
  have r9 : Row w12 w10.heap.size 0 [vF 0, vF 0, .slice none 0 0] := Row.congr r8 rfl
  refine WL.det (op_assign rfl) rfl rfl rfl ?_
  refine WL.end ?_
  refine NE.code ?_
  refine CE.seq ?_
  refine CE.seq ?_
  refine CE.region ?_
  refine WL.det (op_loadA (i := 0) (cs := [vF 0, vF 0, .slice none 0 0]) rfl Tryd.isAgg25 Tryd.sizeOf25 r9.rng rfl rfl rfl) rfl rfl rfl ?_
  refine WL.det (op_loadA (i := 0) (cs := [vF 0, vF 0, .slice none 0 0]) rfl Tryd.isAgg25 Tryd.sizeOf25 (((((((((r3.ext m4).ext m5).mod m6 (nC (lE (lL (lL r1.lt (lT m3.size m4.size)) lR)) nN)).ext m7).ext m8).ext m9).ext m10).ext m11).mod m12 (nC (lE (lL (lL r1.lt (lT (lT (lT (lT (lT (lT (lT m3.size m4.size) m5.size) m6.size) m7.size) m8.size) m9.size) m10.size)) lR)) nN)).rng rfl rfl rfl) rfl rfl rfl ?_
  refine WL.call (oc_call (vs := [.agg #[vF 0, vF 0, .slice none 0 0], .agg #[vF 0, vF 0, .slice none 0 0]]) (cap := []) rfl rfl rfl Tryd.call6 (c_eqTuning 0 0 0 0 0 0 none 0 0 [] 0 0 0 none 0 0 rfl (fun h => absurd h (Nat.lt_irrefl _)) rfl rfl rfl rfl (fun h => absurd h (Nat.lt_irrefl _)) (by omega) w12 (Rng.nil _ _ _) (Rng.nil _ _ _))) rfl rfl (ltb rfl) ?_
  rintro _ w13 ⟨rfl, m13⟩
  refine WL.det (op_not rfl) rfl rfl rfl ?_
  refine WL.det (op_move rfl) rfl rfl rfl ?_
  refine WL.yes rfl rfl rfl (ltb rfl) rfl rfl ?_
  refine WL.det (op_move rfl) rfl rfl rfl ?_
  refine WL.yes rfl rfl rfl (ltb rfl) rfl rfl ?_
  refine WL.det (op_move rfl) rfl rfl rfl ?_
  refine WL.yes rfl rfl rfl (ltb rfl) rfl rfl ?_
  refine WL.det (op_nei rfl rfl) rfl rfl rfl ?_
  refine WL.det (op_pick_f rfl rfl rfl) rfl rfl rfl ?_
  refine WL.end ?_
  refine NE.code ?_
  refine CE.cond_f rfl rfl ?_
  refine CE.skip' ?_
  refine NE.code ?_
  refine CE.seq ?_
  refine CE.region ?_
  refine WL.det (op_assign rfl) rfl rfl rfl ?_
  refine WL.end ?_
  refine NE.code ?_
  refine CE.seq ?_
  refine CE.region ?_
  refine WL.det (op_loadA (i := 0) (cs := [vF 0, vF 0, .slice none 0 0]) rfl Tryd.isAgg25 Tryd.sizeOf25 (((((((r6.ext m7).ext m8).ext m9).ext m10).ext m11).mod m12 (nC (lE (lL (lL r4.lt (lT (lT (lT (lT m6.size m7.size) m8.size) m9.size) m10.size)) lR)) nN)).ext m13).rng rfl rfl rfl) rfl rfl rfl ?_
  refine WL.det (op_move rfl) rfl rfl rfl ?_
  refine WL.call (oc_call (vs := [.agg #[vF 0, vF 0, .slice none 0 0], vI 1]) (cap := []) rfl rfl rfl Tryd.call8 (c_heldTuning_nil 0 0 1 (by omega) w13)) rfl rfl (ltb rfl) ?_
  rintro _ w14 ⟨rfl, m14⟩
  refine WL.det (op_assign rfl) rfl rfl rfl ?_
  refine WL.end ?_
  refine NE.code ?_
  refine CE.seq ?_
  refine CE.seq ?_
  refine CE.region ?_
  refine WL.det (op_move rfl) rfl rfl rfl ?_
  refine WL.det (op_lti rfl rfl) rfl rfl rfl ?_
  refine WL.end ?_
  refine NE.code ?_
  refine CE.cond_f rfl rfl ?_
  refine CE.skip' ?_
  refine NE.code ?_
  refine CE.seq ?_
  refine CE.seq ?_
  refine CE.region ?_
  refine WL.det (op_move rfl) rfl rfl rfl ?_
  refine WL.det (op_move rfl) rfl rfl rfl ?_
  refine WL.det (op_nei rfl rfl) rfl rfl rfl ?_
  refine WL.end ?_
  refine NE.code ?_
  refine CE.cond_f rfl rfl ?_
  refine CE.skip' ?_
  refine NE.code ?_
  refine CE.seq ?_
  refine CE.region ?_
  refine WL.det (op_assign rfl) rfl rfl rfl ?_
  refine WL.end ?_
  refine NE.code ?_
  refine CE.ret' ?_
  refine XE.leave1 Tryd.results3 rfl ?_
  refine ⟨rfl, (((((((((((((((Mod.refl [] w).nt m1).nt m2).then m3 ((aC (.inr (lT m1.size lR)) aN))).nt m4).nt m5).then m6 ((aC (.inr (lT (lT (lT (lT m1.size m2.size) m3.size) m4.size) lR)) aN))).nt m7).nt m8).nt m9).nt m10).nt m11).then m12 ((aC (.inr (lT (lT (lT (lT (lT (lT (lT (lT (lT (lT m1.size m2.size) m3.size) m4.size) m5.size) m6.size) m7.size) m8.size) m9.size) m10.size) lR)) aN))).nt m13).nt m14)⟩

set_option maxRecDepth 100000 in
set_option maxHeartbeats 8000000 in
theorem law_read_over (s : ByteArray) (hl : 1048576 < s.size) (w : World) : Cl Tryd.prog 3 #[.string s] w fun v w' => v = .bool true ∧ Mod [] w w' := by
  refine Cl.of Tryd.func3 Tryd.ntmps3 rfl rfl (ρ := [(0, .string s)]) rfl ?_
  refine CE.seq ?_
  refine CE.region ?_
  refine WL.det (op_assign rfl) rfl rfl rfl ?_
  refine WL.end ?_
  refine NE.code ?_
  refine CE.seq ?_
  refine CE.seq ?_
  refine CE.region ?_
  refine WL.det (op_move rfl) rfl rfl rfl ?_
  refine WL.det (op_lens rfl Tryd.runUnderlying9) rfl rfl rfl ?_
  refine WL.det (op_gti rfl rfl) rfl rfl rfl ?_
  refine WL.end ?_
  refine NE.code ?_
  refine CE.cond_t rfl (decide_eq_true (by omega)) ?_
  refine CE.seq ?_
  refine CE.region ?_
  refine WL.det (op_assign rfl) rfl rfl rfl ?_
  refine WL.end ?_
  refine NE.code ?_
  refine CE.ret' ?_
  refine XE.ret_then ?_
  refine XE.leave1 Tryd.results3 rfl ?_
  refine ⟨rfl, (Mod.refl [] w)⟩

end Go.Proofs.YtpjjnopjpgnlaaaDoor
