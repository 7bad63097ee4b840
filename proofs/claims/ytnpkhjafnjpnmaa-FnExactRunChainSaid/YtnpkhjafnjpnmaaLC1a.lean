/- The law on chains, walked (over, bad, lim, zero). -/
import Derived.Test.YtnpkhjafnjpnmaaC2
import Derived.Test.YtnpkhjafnjpnmaaE8
import Derived.Test.YtnpkhjafnjpnmaaE13
set_option linter.unusedVariables false
set_option linter.unusedSimpArgs false
set_option maxRecDepth 100000
set_option maxHeartbeats 8000000
namespace Go.Proofs.Ytnpkhjafnjpnmaa

theorem law_chain_over (n : Nat) (c : Nat) (A : Option Addr) (b : Nat) (o : Nat) (es : List FiR) (bs : List Nat) (ln : es.length = n) (hA : 0 < n → A = some ⟨b, o, none⟩) (lb : bs.length = 16) (wb : W32 bs) (h9 : 1048576 < n) (hn : n ≤ 9223372036854775807) (w : World) (r : Rng w b o (cat FiR.cells es)) : Cl Try.prog 6 #[.slice A n c, .agg (fl bs).toArray] w fun v w' => v = .bool true ∧ Mod [] w w' := by
 refine Cl.of Try.func6 Try.ntmps6 rfl rfl (ρ := [(0, .slice A n c), (1, .agg (fl bs).toArray)]) rfl ?_
 refine CE.seq (CE.region ?_)
 refine WL.op (op_box (cs := fl bs) rfl rfl) rfl rfl (ltb rfl) ?_
 rintro _ w1 ⟨rfl, r1, m1, z1⟩
 refine WL.det (op_assign rfl) rfl rfl rfl ?_
 refine WL.end (NE.code (CE.seq (CE.region ?_)))
 refine WL.det (op_assign rfl) rfl rfl rfl ?_
 refine WL.end (NE.code (CE.seq (CE.region ?_)))
 iterate 2 refine WL.det (op_move rfl) rfl rfl rfl ?_
 refine WL.call (oc_call (vs := [.slice A n c, vI 1048576]) (cap := []) rfl rfl rfl Try.call38 (c_szFilterS_over 1048576 n c A (by omega) (by omega) hn w1)) rfl rfl (ltb rfl) ?_
 rintro _ _ ⟨rfl, rfl⟩
 refine WL.det (op_assign rfl) rfl rfl rfl ?_
 refine WL.end (NE.code (CE.seq (CE.seq (CE.region ?_))))
 refine WL.det (op_move rfl) rfl rfl rfl ?_
 refine WL.det (op_lti rfl rfl) rfl rfl rfl ?_
 refine WL.end (NE.code ?_)
 refine CE.cond_t rfl rfl ?_
 refine CE.seq (CE.region ?_)
 refine WL.det (op_assign rfl) rfl rfl rfl ?_
 refine WL.end (NE.code (CE.ret' (XE.ret_then ?_)))
 refine XE.leave1 Try.results6 rfl ?_
 refine ⟨rfl, ((Mod.refl [] w).nt m1)⟩

theorem law_chain_bad (n : Nat) (c : Nat) (A : Option Addr) (b : Nat) (o : Nat) (es : List FiR) (bs : List Nat) (ln : es.length = n) (hA : 0 < n → A = some ⟨b, o, none⟩) (lb : bs.length = 16) (wb : W32 bs) (hn : n ≤ 1048576) (hv : vFils es n = false) (w : World) (r : Rng w b o (cat FiR.cells es)) : Cl Try.prog 6 #[.slice A n c, .agg (fl bs).toArray] w fun v w' => v = .bool true ∧ Mod [] w w' := by
 refine Cl.of Try.func6 Try.ntmps6 rfl rfl (ρ := [(0, .slice A n c), (1, .agg (fl bs).toArray)]) rfl ?_
 refine CE.seq (CE.region ?_)
 refine WL.op (op_box (cs := fl bs) rfl rfl) rfl rfl (ltb rfl) ?_
 rintro _ w1 ⟨rfl, r1, m1, z1⟩
 refine WL.det (op_assign rfl) rfl rfl rfl ?_
 refine WL.end (NE.code (CE.seq (CE.region ?_)))
 refine WL.det (op_assign rfl) rfl rfl rfl ?_
 refine WL.end (NE.code (CE.seq (CE.region ?_)))
 iterate 2 refine WL.det (op_move rfl) rfl rfl rfl ?_
 refine WL.call (oc_call (vs := [.slice A n c, vI 1048576]) (cap := []) rfl rfl rfl Try.call38 (c_szFilterS 1048576 n c A hn (by omega) w1)) rfl rfl (ltb rfl) ?_
 rintro _ _ ⟨rfl, rfl⟩
 refine WL.det (op_assign rfl) rfl rfl rfl ?_
 refine WL.end (NE.code (CE.seq (CE.seq (CE.region ?_))))
 refine WL.det (op_move rfl) rfl rfl rfl ?_
 refine WL.det (op_lti_f rfl rfl (Int.not_lt.2 (Int.natCast_nonneg _))) rfl rfl rfl ?_
 refine WL.end (NE.code ?_)
 refine CE.cond_f rfl rfl ?_
 refine CE.skip' (NE.code (CE.seq ?_))
 refine CE.drawF (fun | 1 => some (fun _ wA uA wB => ∃ (b' : Nat), uA = vS b' 0 n n ∧ Row wB b' 0 (cat FiR.cells es) ∧ wA.heap.size ≤ b' ∧ Mod [] wA wB) | 3 => some (fun _ wA uA wB => uA = .agg (fl bs).toArray ∧ Mod [] wA wB) | 4 => some (fun _ wA uA wB => ∃ (e' : Nat), uA = .tuple #[vS e' 0 0 0, .agg (fl (List.replicate 16 0)).toArray, vI 1] ∧ Row wB e' 0 [] ∧ wA.heap.size ≤ e' ∧ Mod [] wA wB) | _ => none) [0, 1, 2, 3, 4, 5, 6, 7, 8, 9, 10, 11] [12] [] (fun ρ W => ∃ (e1_1_0 : Nat) (e1_4_0 : Nat) (e1_9_0 : Nat), ρ = [(0, .slice A n c), (3, vP w.heap.size 0), (4, .bool false), (6, vS e1_4_0 0 0 0), (7, vP e1_9_0 0), (32, vI 1)] ∧ Row W e1_1_0 0 (cat FiR.cells es) ∧ Row W e1_4_0 0 [] ∧ Row W e1_9_0 0 (fl (List.replicate 16 0)) ∧ w1.heap.size ≤ e1_1_0 ∧ w1.heap.size ≤ e1_4_0 ∧ w1.heap.size ≤ e1_9_0 ∧ e1_1_0 ≠ e1_4_0 ∧ e1_1_0 ≠ e1_9_0 ∧ e1_4_0 ≠ e1_9_0 ∧ Mod [] w1 W) (by kernel_rfl) (by kernel_rfl) ?_ ?_
 have md1 : Mod [] w1 w1.drew := (Mod.refl _ _).drew
 generalize w1.drew = w2 at md1 ⊢
 ·refine DR.det (i := 0) rfl rfl (by kernel_rfl) (.free rfl) rfl rfl (fun wD mD => op_move rfl) ?_
  refine DR.det (i := 2) rfl rfl (by kernel_rfl) (.free rfl) rfl rfl (fun wD mD => op_loadA (i := 0) (cs := fl bs) rfl Try.isAgg74 Try.sizeOf74 ((r1.ext md1).ext mD).rng rfl (fl_whole lb) (fl_len lb)) ?_
  refine DR.fork (is := [1, 9]) (by kernel_rfl) (by decide) (all2 ?_ ?_)
  ·refine DP.call (i := 1) rfl rfl (.free rfl) rfl (ltb rfl) (vs := [.func (.func 40) #[] #[], .slice A n c]) rfl ?_
   intro w3 m2
   refine ⟨oc_call (vs := [.slice A n c]) (cap := []) rfl rfl rfl Try.call40 (c_toFilterS n c A b o es ln hA hn w3 (((r.ext m1).ext md1).ext m2)), ?_⟩
   rintro _ w4 ⟨b'1, rfl, r2, ge1, m3⟩
   refine ⟨(((Mod.refl [] w2).nt m2).nt m3), ?_⟩
   refine DR.call (i := 3) (fun uA => uA = .agg (fl bs).toArray) rfl rfl (by kernel_rfl) (.free rfl) rfl (ltb rfl) ⟨_, rfl⟩ (vs := [.func (.func 41) #[] #[], .agg (fl bs).toArray]) rfl (fun wD mD => oc_call (vs := [.agg (fl bs).toArray]) (cap := []) rfl rfl rfl Try.call41 (c_toBlock bs lb wD)) ?_ ?_
   ·rintro w1 _ w2 m1 ⟨rfl, m2⟩; exact ⟨rfl, m2⟩
   rintro _ rfl
   refine DR.fork (is := [4, 9]) (by kernel_rfl) (by decide) (all2 ?_ ?_)
   ·refine DP.call (i := 4) rfl rfl (.free rfl) rfl (ltb rfl) (vs := [.func (.func 39) #[] #[], vS b'1 0 n n, .agg (fl bs).toArray]) rfl ?_
    intro w5 m4
    refine ⟨oc_call (vs := [vS b'1 0 n n, .agg (fl bs).toArray]) (cap := []) rfl rfl rfl Try.call39 (c_sChain_bad n n b'1 es bs ln hn lb (by first | assumption | exact W32.set (by assumption) (by first | assumption | exact wid_lt (by assumption)) | exact W32.zeros _ | exact W32.nil) hv w5 (r2.ext m4).rng), ?_⟩
    rintro _ w6 ⟨e'1, rfl, r3, ge2, m5⟩
    refine ⟨(((((Mod.refl [] w2).nt m2).nt m3).nt m4).nt m5), ?_⟩
    refine DR.det (i := 5) rfl rfl (by kernel_rfl) (.free rfl) rfl rfl (fun wD mD => op_move rfl) ?_
    refine DR.det (i := 6) rfl rfl (by kernel_rfl) (.free rfl) rfl rfl (fun wD mD => op_extract rfl rfl) ?_
    refine DR.det (i := 7) rfl rfl (by kernel_rfl) (.free rfl) rfl rfl (fun wD mD => op_extract rfl rfl) ?_
    refine DR.det (i := 8) rfl rfl (by kernel_rfl) (.free rfl) rfl rfl (fun wD mD => op_extract rfl rfl) ?_
    refine DR.one1 (i := 9) rfl rfl (by kernel_rfl) (.free rfl) rfl (ltb rfl) ?_
    intro w7 m6
    refine Op1.mono (op_alloc (cs := fl (List.replicate 16 0)) Try.zeroValue77 rfl) ?_
    rintro _ w8 ⟨rfl, r4, m7, z2⟩
    refine ⟨(((((((Mod.refl [] w2).nt m2).nt m3).nt m4).nt m5).nt m6).nt m7), ?_⟩
    refine DR.det (i := 10) rfl rfl (by kernel_rfl) (.free rfl) rfl rfl (fun wD mD => op_assign rfl) ?_
    refine DR.st1 (i := 11) rfl rfl (by kernel_rfl) (.free rfl) rfl ?_
    intro w9 m8
    refine Op1.mono (op_store (i := 0) (cs := fl (List.replicate 16 0)) rfl rfl rfl Try.sizeOf77 (fl_len List.length_replicate) (r4.ext m8) rfl (by rw [fl_length, List.length_replicate]; decide) (fl_one _)) ?_
    rintro _ w10 ⟨r5, m9, z3⟩
    have r6 : Row w10 w7.heap.size 0 (fl (List.replicate 16 0)) := Row.congr r5 (splice_all ((fl_len (List.length_replicate)).trans (fl_len (List.length_replicate)).symm))
    have sz1 := (lT (lT (lT (lT m2.size m3.size) m4.size) m5.size) m6.size)
    refine ⟨(((((((((Mod.refl [] w2).nt m2).nt m3).nt m4).nt m5).nt m6).nt m7).nt m8).then m9 ((aC (.inr (lT sz1 lR)) aN))), ?_⟩
    refine DR.sub [(0, .slice A n c), (3, vP w.heap.size 0), (4, .bool false), (6, vS e'1 0 0 0), (7, vP w7.heap.size 0), (32, vI 1)] ⟨rfl, rfl, rfl, rfl, rfl, rfl, trivial⟩ ?_
    refine DR.meet rfl ?_
    intro w11 m10
    have sz2 := (lT (lT m4.size m5.size) m6.size)
    have r7 := (((((((r2.ext m4).ext m5).ext m6).ext m7).ext m8).mod m9 (nC (lE (lL (lL r2.lt sz2) lR)) nN)).ext m10)
    have r8 := (((((r3.ext m6).ext m7).ext m8).mod m9 (nC (lE (lL (lL r3.lt m6.size) lR)) nN)).ext m10)
    have sz3 := (lT (lT (lT md1.size m2.size) m3.size) m4.size)
    have sz4 := (lT (lT sz3 m5.size) m6.size)
    exact ⟨b'1, e'1, w7.heap.size, rfl, r7, r8, (r6.ext m10), (lT (lT md1.size m2.size) ge1), (lT sz3 ge2), (lT sz4 lR), (lE (lL (lL r2.lt m4.size) ge2)), (lE (lL (lL r2.lt sz2) lR)), (lE (lL (lL r3.lt m6.size) lR)), (((((((((((Mod.refl [] w1).nt md1).nt m2).nt m3).nt m4).nt m5).nt m6).nt m7).nt m8).then m9 ((aC (.inr (lT sz4 lR)) aN))).nt m10)⟩
   ·refine DP.op (i := 9) rfl rfl (.free rfl) rfl (ltb rfl) ?_
    intro w12 m11
    refine Op1.mono (op_alloc (cs := fl (List.replicate 16 0)) Try.zeroValue77 rfl) ?_
    rintro _ w13 ⟨rfl, r9, m12, z4⟩
    refine ⟨(((((Mod.refl [] w2).nt m2).nt m3).nt m11).nt m12), ?_⟩
    refine DR.one (i := 4) rfl rfl (by kernel_rfl) (.free rfl) rfl (ltb rfl) (vs := [.func (.func 39) #[] #[], vS b'1 0 n n, .agg (fl bs).toArray]) rfl ?_
    intro w14 m13
    refine ⟨oc_call (vs := [vS b'1 0 n n, .agg (fl bs).toArray]) (cap := []) rfl rfl rfl Try.call39 (c_sChain_bad n n b'1 es bs ln hn lb (by first | assumption | exact W32.set (by assumption) (by first | assumption | exact wid_lt (by assumption)) | exact W32.zeros _ | exact W32.nil) hv w14 (((r2.ext m11).ext m12).ext m13).rng), ?_⟩
    rintro _ w15 ⟨e'2, rfl, r10, ge3, m14⟩
    refine ⟨(((((((Mod.refl [] w2).nt m2).nt m3).nt m11).nt m12).nt m13).nt m14), ?_⟩
    refine DR.det (i := 5) rfl rfl (by kernel_rfl) (.free rfl) rfl rfl (fun wD mD => op_move rfl) ?_
    refine DR.det (i := 6) rfl rfl (by kernel_rfl) (.free rfl) rfl rfl (fun wD mD => op_extract rfl rfl) ?_
    refine DR.det (i := 7) rfl rfl (by kernel_rfl) (.free rfl) rfl rfl (fun wD mD => op_extract rfl rfl) ?_
    refine DR.det (i := 8) rfl rfl (by kernel_rfl) (.free rfl) rfl rfl (fun wD mD => op_extract rfl rfl) ?_
    refine DR.det (i := 10) rfl rfl (by kernel_rfl) (.free rfl) rfl rfl (fun wD mD => op_assign rfl) ?_
    refine DR.st1 (i := 11) rfl rfl (by kernel_rfl) (.free rfl) rfl ?_
    intro w16 m15
    refine Op1.mono (op_store (i := 0) (cs := fl (List.replicate 16 0)) rfl rfl rfl Try.sizeOf77 (fl_len List.length_replicate) (((r9.ext m13).ext m14).ext m15) rfl (by rw [fl_length, List.length_replicate]; decide) (fl_one _)) ?_
    rintro _ w17 ⟨r11, m16, z5⟩
    have r12 : Row w17 w12.heap.size 0 (fl (List.replicate 16 0)) := Row.congr r11 (splice_all ((fl_len (List.length_replicate)).trans (fl_len (List.length_replicate)).symm))
    have sz5 := (lT (lT m2.size m3.size) m11.size)
    refine ⟨(((((((((Mod.refl [] w2).nt m2).nt m3).nt m11).nt m12).nt m13).nt m14).nt m15).then m16 ((aC (.inr (lT sz5 lR)) aN))), ?_⟩
    refine DR.sub [(0, .slice A n c), (3, vP w.heap.size 0), (4, .bool false), (6, vS e'2 0 0 0), (7, vP w12.heap.size 0), (32, vI 1)] ⟨rfl, rfl, rfl, rfl, rfl, rfl, trivial⟩ ?_
    refine DR.meet rfl ?_
    intro w18 m17
    have r13 := (((((((r2.ext m11).ext m12).ext m13).ext m14).ext m15).mod m16 (nC (lE (lL (lL r2.lt m11.size) lR)) nN)).ext m17)
    have r14 := (((r10.ext m15).mod m16 (nC (lG (lL (lL r9.lt m13.size) ge3)) nN)).ext m17)
    have sz6 := (lT (lT (lT (lT (lT md1.size m2.size) m3.size) m11.size) m12.size) m13.size)
    have sz7 := (lT (lT (lT md1.size m2.size) m3.size) m11.size)
    have sz8 := (lT (lT m11.size m12.size) m13.size)
    exact ⟨b'1, e'2, w12.heap.size, rfl, r13, r14, (r12.ext m17), (lT (lT md1.size m2.size) ge1), (lT sz6 ge3), (lT sz7 lR), (lE (lL (lL r2.lt sz8) ge3)), (lE (lL (lL r2.lt m11.size) lR)), (lG (lL (lL r9.lt m13.size) ge3)), (((((((((((Mod.refl [] w1).nt md1).nt m2).nt m3).nt m11).nt m12).nt m13).nt m14).nt m15).then m16 ((aC (.inr (lT sz7 lR)) aN))).nt m17)⟩
  ·refine DP.op (i := 9) rfl rfl (.free rfl) rfl (ltb rfl) ?_
   intro w19 m18
   refine Op1.mono (op_alloc (cs := fl (List.replicate 16 0)) Try.zeroValue77 rfl) ?_
   rintro _ w20 ⟨rfl, r15, m19, z6⟩
   refine ⟨(((Mod.refl [] w2).nt m18).nt m19), ?_⟩
   refine DR.one (i := 1) rfl rfl (by kernel_rfl) (.free rfl) rfl (ltb rfl) (vs := [.func (.func 40) #[] #[], .slice A n c]) rfl ?_
   intro w21 m20
   refine ⟨oc_call (vs := [.slice A n c]) (cap := []) rfl rfl rfl Try.call40 (c_toFilterS n c A b o es ln hA hn w21 (((((r.ext m1).ext md1).ext m18).ext m19).ext m20)), ?_⟩
   rintro _ w22 ⟨b'2, rfl, r16, ge4, m21⟩
   refine ⟨(((((Mod.refl [] w2).nt m18).nt m19).nt m20).nt m21), ?_⟩
   refine DR.call (i := 3) (fun uA => uA = .agg (fl bs).toArray) rfl rfl (by kernel_rfl) (.free rfl) rfl (ltb rfl) ⟨_, rfl⟩ (vs := [.func (.func 41) #[] #[], .agg (fl bs).toArray]) rfl (fun wD mD => oc_call (vs := [.agg (fl bs).toArray]) (cap := []) rfl rfl rfl Try.call41 (c_toBlock bs lb wD)) ?_ ?_
   ·rintro w1 _ w2 m1 ⟨rfl, m2⟩; exact ⟨rfl, m2⟩
   rintro _ rfl
   refine DR.one (i := 4) rfl rfl (by kernel_rfl) (.free rfl) rfl (ltb rfl) (vs := [.func (.func 39) #[] #[], vS b'2 0 n n, .agg (fl bs).toArray]) rfl ?_
   intro w23 m22
   refine ⟨oc_call (vs := [vS b'2 0 n n, .agg (fl bs).toArray]) (cap := []) rfl rfl rfl Try.call39 (c_sChain_bad n n b'2 es bs ln hn lb (by first | assumption | exact W32.set (by assumption) (by first | assumption | exact wid_lt (by assumption)) | exact W32.zeros _ | exact W32.nil) hv w23 (r16.ext m22).rng), ?_⟩
   rintro _ w24 ⟨e'3, rfl, r17, ge5, m23⟩
   refine ⟨(((((((Mod.refl [] w2).nt m18).nt m19).nt m20).nt m21).nt m22).nt m23), ?_⟩
   refine DR.det (i := 5) rfl rfl (by kernel_rfl) (.free rfl) rfl rfl (fun wD mD => op_move rfl) ?_
   refine DR.det (i := 6) rfl rfl (by kernel_rfl) (.free rfl) rfl rfl (fun wD mD => op_extract rfl rfl) ?_
   refine DR.det (i := 7) rfl rfl (by kernel_rfl) (.free rfl) rfl rfl (fun wD mD => op_extract rfl rfl) ?_
   refine DR.det (i := 8) rfl rfl (by kernel_rfl) (.free rfl) rfl rfl (fun wD mD => op_extract rfl rfl) ?_
   refine DR.det (i := 10) rfl rfl (by kernel_rfl) (.free rfl) rfl rfl (fun wD mD => op_assign rfl) ?_
   refine DR.st1 (i := 11) rfl rfl (by kernel_rfl) (.free rfl) rfl ?_
   intro w25 m24
   refine Op1.mono (op_store (i := 0) (cs := fl (List.replicate 16 0)) rfl rfl rfl Try.sizeOf77 (fl_len List.length_replicate) (((((r15.ext m20).ext m21).ext m22).ext m23).ext m24) rfl (by rw [fl_length, List.length_replicate]; decide) (fl_one _)) ?_
   rintro _ w26 ⟨r18, m25, z7⟩
   have r19 : Row w26 w19.heap.size 0 (fl (List.replicate 16 0)) := Row.congr r18 (splice_all ((fl_len (List.length_replicate)).trans (fl_len (List.length_replicate)).symm))
   refine ⟨(((((((((Mod.refl [] w2).nt m18).nt m19).nt m20).nt m21).nt m22).nt m23).nt m24).then m25 ((aC (.inr (lT m18.size lR)) aN))), ?_⟩
   refine DR.sub [(0, .slice A n c), (3, vP w.heap.size 0), (4, .bool false), (6, vS e'3 0 0 0), (7, vP w19.heap.size 0), (32, vI 1)] ⟨rfl, rfl, rfl, rfl, rfl, rfl, trivial⟩ ?_
   refine DR.meet rfl ?_
   intro w27 m26
   have r20 := (((((r16.ext m22).ext m23).ext m24).mod m25 (nC (lG (lL (lL r15.lt m20.size) ge4)) nN)).ext m26)
   have sz9 := (lT (lT m20.size m21.size) m22.size)
   have r21 := (((r17.ext m24).mod m25 (nC (lG (lL (lL r15.lt sz9) ge5)) nN)).ext m26)
   have sz10 := (lT (lT (lT md1.size m18.size) m19.size) m20.size)
   have sz11 := (lT (lT sz10 m21.size) m22.size)
   exact ⟨b'2, e'3, w19.heap.size, rfl, r20, r21, (r19.ext m26), (lT sz10 ge4), (lT sz11 ge5), (lT (lT md1.size m18.size) lR), (lE (lL (lL r16.lt m22.size) ge5)), (lG (lL (lL r15.lt m20.size) ge4)), (lG (lL (lL r15.lt sz9) ge5)), (((((((((((Mod.refl [] w1).nt md1).nt m18).nt m19).nt m20).nt m21).nt m22).nt m23).nt m24).then m25 ((aC (.inr (lT (lT md1.size m18.size) lR)) aN))).nt m26)⟩
 ·rintro _ w28 ⟨e1_1_0, e1_4_0, e1_9_0, rfl, rr1_0, rr1_1, rr1_2, ge6, ge7, ge8, ne1, ne2, ne3, m27⟩
  refine WO.det (op_assign rfl) rfl (.free rfl) rfl rfl ?_
  refine WO.end (NE.code (CE.seq (CE.region ?_)))
  refine WL.det (op_move rfl) rfl rfl rfl ?_
  refine WL.call (oc_call (vs := [.slice A n c]) (cap := []) rfl rfl rfl Try.call40 (c_toFilterS n c A b o es ln hA hn w28 ((r.ext m1).ext m27))) rfl rfl (ltb rfl) ?_
  rintro _ w29 ⟨b'3, rfl, r22, ge9, m28⟩
  refine WL.det (op_assign rfl) rfl rfl rfl ?_
  refine WL.end (NE.code (CE.seq (CE.region ?_)))
  refine WL.det (op_move rfl) rfl rfl rfl ?_
  refine WL.det (op_loadA (i := 0) (cs := fl bs) rfl Try.isAgg74 Try.sizeOf74 ((r1.ext m27).ext m28).rng rfl (fl_whole lb) (fl_len lb)) rfl rfl rfl ?_
  refine WL.call (oc_call (vs := [.agg (fl bs).toArray]) (cap := []) rfl rfl rfl Try.call41 (c_toBlock bs lb w29)) rfl rfl (ltb rfl) ?_
  rintro _ w30 ⟨rfl, m29⟩
  refine WL.call (oc_call (vs := [vS b'3 0 n n, .agg (fl bs).toArray]) (cap := []) rfl rfl rfl Try.call42 (c_iChain_bad n n b'3 es bs ln hn lb (by first | assumption | exact W32.set (by assumption) (by first | assumption | exact wid_lt (by assumption)) | exact W32.zeros _ | exact W32.nil) hv w30 (r22.ext m29).rng)) rfl rfl (ltb rfl) ?_
  rintro _ w31 ⟨rfl, m30⟩
  refine WL.det (op_move rfl) rfl rfl rfl ?_
  iterate 3 refine WL.det (op_extract rfl rfl) rfl rfl rfl ?_
  refine WL.op (op_alloc (cs := fl (List.replicate 16 0)) Try.zeroValue77 rfl) rfl rfl (ltb rfl) ?_
  rintro _ w32 ⟨rfl, r23, m31, z8⟩
  refine WL.det (op_assign rfl) rfl rfl rfl ?_
  refine WL.op0 (op_store (i := 0) (cs := fl (List.replicate 16 0)) rfl rfl rfl Try.sizeOf77 (fl_len List.length_replicate) r23 rfl (by rw [fl_length, List.length_replicate]; decide) (fl_one _)) rfl rfl ?_
  rintro _ w33 ⟨r24, m32, z9⟩
  have r25 : Row w33 w31.heap.size 0 (fl (List.replicate 16 0)) := Row.congr r24 (splice_all ((fl_len (List.length_replicate)).trans (fl_len (List.length_replicate)).symm))
  refine WL.det (op_assign rfl) rfl rfl rfl ?_
  refine WL.end (NE.code (CE.seq (CE.seq (CE.region ?_))))
  iterate 2 refine WL.det (op_move rfl) rfl rfl rfl ?_
  refine WL.call (oc_call (vs := [.slice none 0 0, vS e1_4_0 0 0 0]) (cap := []) rfl rfl rfl Try.call43 (c_eqFilterS_nil 0 e1_4_0 w33)) rfl rfl (ltb rfl) ?_
  rintro _ w34 ⟨rfl, m33⟩
  refine WL.det (op_not rfl) rfl rfl rfl ?_
  refine WL.det (op_move rfl) rfl rfl rfl ?_
  refine WL.yes rfl rfl rfl (ltb rfl) rfl rfl ?_
  refine WL.det (op_loadA (i := 0) (cs := fl (List.replicate 16 0)) rfl Try.isAgg77 Try.sizeOf77 (r25.ext m33).rng rfl (fl_whole List.length_replicate) (fl_len List.length_replicate)) rfl rfl rfl ?_
  have sz12 := (lT (lT m28.size m29.size) m30.size)
  have r26 := ((((((rr1_2.ext m28).ext m29).ext m30).ext m31).mod m32 (nC (lE (lL (lL rr1_2.lt sz12) lR)) nN)).ext m33)
  refine WL.yes rfl rfl rfl (ltb rfl) rfl rfl ?_
  refine WL.det (op_loadA (i := 0) (cs := fl (List.replicate 16 0)) rfl Try.isAgg77 Try.sizeOf77 r26.rng rfl (fl_whole List.length_replicate) (fl_len List.length_replicate)) rfl rfl rfl ?_
  refine WL.yes rfl rfl rfl (ltb rfl) rfl rfl ?_
  refine WL.call (oc_call (vs := [.agg (fl (List.replicate 16 0)).toArray, .agg (fl (List.replicate 16 0)).toArray]) (cap := []) rfl rfl rfl Try.call44 (c_eqBlock_same (List.replicate 16 0) List.length_replicate w34)) rfl rfl (ltb rfl) ?_
  rintro _ w35 ⟨rfl, m34⟩
  refine WL.yes rfl rfl rfl (ltb rfl) rfl rfl ?_
  refine WL.det (op_not rfl) rfl rfl rfl ?_
  refine WL.det (op_pick_f rfl rfl rfl) rfl rfl rfl ?_
  refine WL.det (op_move rfl) rfl rfl rfl ?_
  refine WL.yes rfl rfl rfl (ltb rfl) rfl rfl ?_
  refine WL.det (op_move rfl) rfl rfl rfl ?_
  refine WL.yes rfl rfl rfl (ltb rfl) rfl rfl ?_
  refine WL.det (op_move rfl) rfl rfl rfl ?_
  refine WL.yes rfl rfl rfl (ltb rfl) rfl rfl ?_
  refine WL.det (op_nei rfl rfl) rfl rfl rfl ?_
  refine WL.det (op_pick_f rfl rfl rfl) rfl rfl rfl ?_
  refine WL.end (NE.code ?_)
  refine CE.cond_f rfl rfl ?_
  refine CE.skip' (NE.code (CE.seq (CE.seq (CE.region ?_))))
  iterate 2 refine WL.det (op_move rfl) rfl rfl rfl ?_
  have sz13 := (lT (lT (lT (lT m1.size m27.size) m28.size) m29.size) m30.size)
  have r27 := (((Rng.youngS r ((((((r.ext m1).ext m27).ext m28).ext m29).ext m30).ext m31) m32 (allge_cons (lT sz13 lR) allge_nil)).ext m33).ext m34)
  refine WL.call (oc_call (vs := [.slice A n c]) (cap := []) rfl rfl rfl Try.call40 (c_toFilterS n c A b o es ln hA hn w35 r27)) rfl rfl (ltb rfl) ?_
  rintro _ w36 ⟨b'4, rfl, r28, ge10, m35⟩
  have r29 := (((((((r22.ext m29).ext m30).ext m31).mod m32 (nC (lE (lL (lL r22.lt (lT m29.size m30.size)) lR)) nN)).ext m33).ext m34).ext m35)
  refine WL.call (oc_call (vs := [vS b'3 0 n n, vS b'4 0 n n]) (cap := []) rfl rfl rfl Try.call43 (c_eqFilterS n n b'3 es n b'4 ln (by omega) w36 r29.rng r28.rng)) rfl rfl (ltb rfl) ?_
  rintro _ w37 ⟨rfl, m36⟩
  refine WL.det (op_not rfl) rfl rfl rfl ?_
  refine WL.end (NE.code ?_)
  refine CE.cond_f rfl rfl ?_
  refine CE.skip' (NE.code (CE.seq (CE.region ?_)))
  refine WL.det (op_assign rfl) rfl rfl rfl ?_
  refine WL.end (NE.code (CE.seq (CE.region ?_)))
  iterate 2 refine WL.det (op_move rfl) rfl rfl rfl ?_
  refine WL.call (oc_call (vs := [vS b'3 0 n n, vI 1]) (cap := []) rfl rfl rfl Try.call45 (c_markFilterS n n b'3 es 1 ln hn (by omega) w37 (r29.ext m36))) rfl rfl (ltb rfl) ?_
  rintro _ w38 ⟨rfl, r30, m37⟩
  refine WL.det (op_assign rfl) rfl rfl rfl ?_
  refine WL.end (NE.code (CE.seq (CE.seq (CE.region ?_))))
  refine WL.det (op_move rfl) rfl rfl rfl ?_
  refine WL.det (op_lti_f rfl rfl (Int.not_lt.2 (Int.natCast_nonneg _))) rfl rfl rfl ?_
  refine WL.det (op_move rfl) rfl rfl rfl ?_
  refine WL.yes rfl rfl rfl (ltb rfl) rfl rfl ?_
  refine WL.det (op_move rfl) rfl rfl rfl ?_
  refine WL.yes rfl rfl rfl (ltb rfl) rfl rfl ?_
  refine WL.det (op_move rfl) rfl rfl rfl ?_
  refine WL.yes rfl rfl rfl (ltb rfl) rfl rfl ?_
  refine WL.call (oc_call (vs := [.slice none 0 0, vS e1_4_0 0 0 0]) (cap := []) rfl rfl rfl Try.call43 (c_eqFilterS_nil 0 e1_4_0 w38)) rfl rfl (ltb rfl) ?_
  rintro _ w39 ⟨rfl, m38⟩
  refine WL.yes rfl rfl rfl (ltb rfl) rfl rfl ?_
  refine WL.det (op_not rfl) rfl rfl rfl ?_
  refine WL.det (op_pick_f rfl rfl rfl) rfl rfl rfl ?_
  refine WL.det (op_move rfl) rfl rfl rfl ?_
  have r31 := ((((((r25.ext m33).ext m34).ext m35).ext m36).mod m37 (nC (lG (lL (lL r22.lt (lT m29.size m30.size)) lR)) nN)).ext m38)
  refine WL.yes rfl rfl rfl (ltb rfl) rfl rfl ?_
  refine WL.det (op_loadA (i := 0) (cs := fl (List.replicate 16 0)) rfl Try.isAgg77 Try.sizeOf77 r31.rng rfl (fl_whole List.length_replicate) (fl_len List.length_replicate)) rfl rfl rfl ?_
  have r32 := (((((r26.ext m34).ext m35).ext m36).mod m37 (nC (lE (lL rr1_2.lt ge9)) nN)).ext m38)
  refine WL.yes rfl rfl rfl (ltb rfl) rfl rfl ?_
  refine WL.det (op_loadA (i := 0) (cs := fl (List.replicate 16 0)) rfl Try.isAgg77 Try.sizeOf77 r32.rng rfl (fl_whole List.length_replicate) (fl_len List.length_replicate)) rfl rfl rfl ?_
  refine WL.yes rfl rfl rfl (ltb rfl) rfl rfl ?_
  refine WL.call (oc_call (vs := [.agg (fl (List.replicate 16 0)).toArray, .agg (fl (List.replicate 16 0)).toArray]) (cap := []) rfl rfl rfl Try.call44 (c_eqBlock_same (List.replicate 16 0) List.length_replicate w39)) rfl rfl (ltb rfl) ?_
  rintro _ w40 ⟨rfl, m39⟩
  refine WL.yes rfl rfl rfl (ltb rfl) rfl rfl ?_
  refine WL.det (op_not rfl) rfl rfl rfl ?_
  refine WL.det (op_pick_f rfl rfl rfl) rfl rfl rfl ?_
  refine WL.det (op_move rfl) rfl rfl rfl ?_
  refine WL.yes rfl rfl rfl (ltb rfl) rfl rfl ?_
  refine WL.det (op_move rfl) rfl rfl rfl ?_
  refine WL.yes rfl rfl rfl (ltb rfl) rfl rfl ?_
  refine WL.det (op_move rfl) rfl rfl rfl ?_
  refine WL.yes rfl rfl rfl (ltb rfl) rfl rfl ?_
  refine WL.det (op_nei rfl rfl) rfl rfl rfl ?_
  refine WL.det (op_pick_f rfl rfl rfl) rfl rfl rfl ?_
  refine WL.end (NE.code ?_)
  refine CE.cond_f rfl rfl ?_
  refine CE.skip' (NE.code (CE.seq (CE.region ?_)))
  refine WL.det (op_assign rfl) rfl rfl rfl ?_
  refine WL.end (NE.code (CE.seq (CE.region ?_)))
  iterate 2 refine WL.det (op_move rfl) rfl rfl rfl ?_
  refine WL.call (oc_call (vs := [.slice none 0 0, vI 1]) (cap := []) rfl rfl rfl Try.call45 (c_markFilterS_nil 1 (by omega) w40)) rfl rfl (ltb rfl) ?_
  rintro _ w41 ⟨rfl, m40⟩
  refine WL.det (op_assign rfl) rfl rfl rfl ?_
  refine WL.end (NE.code (CE.seq (CE.region ?_)))
  refine WL.det (op_assign rfl) rfl rfl rfl ?_
  refine WL.end (NE.code (CE.seq (CE.region ?_)))
  iterate 2 refine WL.det (op_move rfl) rfl rfl rfl ?_
  refine WL.call (oc_call (vs := [.slice none 0 0, vI 1]) (cap := []) rfl rfl rfl Try.call46 (c_heldFilterS_nil 1 (by omega) w41)) rfl rfl (ltb rfl) ?_
  rintro _ w42 ⟨rfl, m41⟩
  refine WL.det (op_assign rfl) rfl rfl rfl ?_
  refine WL.end (NE.code (CE.seq (CE.seq (CE.region ?_))))
  refine WL.det (op_move rfl) rfl rfl rfl ?_
  refine WL.det (op_lti rfl rfl) rfl rfl rfl ?_
  refine WL.end (NE.code ?_)
  refine CE.cond_f rfl rfl ?_
  refine CE.skip' (NE.code (CE.seq (CE.seq (CE.region ?_))))
  iterate 2 refine WL.det (op_move rfl) rfl rfl rfl ?_
  refine WL.det (op_nei rfl rfl) rfl rfl rfl ?_
  refine WL.end (NE.code ?_)
  refine CE.cond_f rfl rfl ?_
  refine CE.skip' (NE.code (CE.seq ?_))
  refine CE.drawF (fun | 1 => some (fun _ wA uA wB => ∃ (b' : Nat), uA = vS b' 0 n n ∧ Row wB b' 0 (cat FiR.cells es) ∧ wA.heap.size ≤ b' ∧ Mod [] wA wB) | 3 => some (fun _ wA uA wB => uA = .agg (fl bs).toArray ∧ Mod [] wA wB) | 4 => some (fun _ wA uA wB => uA = .tuple #[.slice none 0 0, .agg (fl (List.replicate 16 0)).toArray, vI 1] ∧ Mod [] wA wB) | _ => none) [0, 1, 2, 3, 4, 5, 6, 7, 8, 9, 10, 11] [12] [] (fun ρ W => ∃ (e2_1_0 : Nat) (e2_9_0 : Nat), ρ = [(4, .bool false), (6, vS e1_4_0 0 0 0), (7, vP e1_9_0 0), (8, vI 1), (10, .slice none 0 0), (14, vI 1), (15, vI 1), (16, .slice none 0 0), (17, vP e2_9_0 0), (104, vI 1)] ∧ Row W e2_1_0 0 (cat FiR.cells es) ∧ Row W e2_9_0 0 (fl (List.replicate 16 0)) ∧ w42.heap.size ≤ e2_1_0 ∧ w42.heap.size ≤ e2_9_0 ∧ e2_1_0 ≠ e2_9_0 ∧ Mod [] w42 W) (by kernel_rfl) (by kernel_rfl) ?_ ?_
  have md2 : Mod [] w42 w42.drew := (Mod.refl _ _).drew
  generalize w42.drew = w43 at md2 ⊢
  ·refine DR.det (i := 0) rfl rfl (by kernel_rfl) (.free rfl) rfl rfl (fun wD mD => op_move rfl) ?_
   refine DR.det (i := 2) rfl rfl (by kernel_rfl) (.free rfl) rfl rfl (fun wD mD => op_loadA (i := 0) (cs := fl bs) rfl Try.isAgg74 Try.sizeOf74 (((((((((((((((((r1.ext m27).ext m28).ext m29).ext m30).ext m31).mod m32 (nC (lE (lL (lL r1.lt (lT (lT (lT m27.size m28.size) m29.size) m30.size)) lR)) nN)).ext m33).ext m34).ext m35).ext m36).mod m37 (nC (lE (lL (lL r1.lt m27.size) ge9)) nN)).ext m38).ext m39).ext m40).ext m41).ext md2).ext mD).rng rfl (fl_whole lb) (fl_len lb)) ?_
   refine DR.fork (is := [1, 9]) (by kernel_rfl) (by decide) (all2 ?_ ?_)
   ·refine DP.call (i := 1) rfl rfl (.free rfl) rfl (ltb rfl) (vs := [.func (.func 40) #[] #[], .slice A n c]) rfl ?_
    intro w44 m42
    refine ⟨oc_call (vs := [.slice A n c]) (cap := []) rfl rfl rfl Try.call40 (c_toFilterS n c A b o es ln hA hn w44 (((((((Rng.youngS r ((r27.ext m35).ext m36) m37 (allge_cons (lT (lT m1.size m27.size) ge9) allge_nil)).ext m38).ext m39).ext m40).ext m41).ext md2).ext m42)), ?_⟩
    rintro _ w45 ⟨b'5, rfl, r33, ge11, m43⟩
    refine ⟨(((Mod.refl [] w43).nt m42).nt m43), ?_⟩
    refine DR.call (i := 3) (fun uA => uA = .agg (fl bs).toArray) rfl rfl (by kernel_rfl) (.free rfl) rfl (ltb rfl) ⟨_, rfl⟩ (vs := [.func (.func 41) #[] #[], .agg (fl bs).toArray]) rfl (fun wD mD => oc_call (vs := [.agg (fl bs).toArray]) (cap := []) rfl rfl rfl Try.call41 (c_toBlock bs lb wD)) ?_ ?_
    ·rintro w1 _ w2 m1 ⟨rfl, m2⟩; exact ⟨rfl, m2⟩
    rintro _ rfl
    refine DR.fork (is := [4, 9]) (by kernel_rfl) (by decide) (all2 ?_ ?_)
    ·refine DP.call (i := 4) rfl rfl (.free rfl) rfl (ltb rfl) (vs := [.func (.func 42) #[] #[], vS b'5 0 n n, .agg (fl bs).toArray]) rfl ?_
     intro w46 m44
     refine ⟨oc_call (vs := [vS b'5 0 n n, .agg (fl bs).toArray]) (cap := []) rfl rfl rfl Try.call42 (c_iChain_bad n n b'5 es bs ln hn lb (by first | assumption | exact W32.set (by assumption) (by first | assumption | exact wid_lt (by assumption)) | exact W32.zeros _ | exact W32.nil) hv w46 (r33.ext m44).rng), ?_⟩
     rintro _ w47 ⟨rfl, m45⟩
     refine ⟨(((((Mod.refl [] w43).nt m42).nt m43).nt m44).nt m45), ?_⟩
     refine DR.det (i := 5) rfl rfl (by kernel_rfl) (.free rfl) rfl rfl (fun wD mD => op_move rfl) ?_
     refine DR.det (i := 6) rfl rfl (by kernel_rfl) (.free rfl) rfl rfl (fun wD mD => op_extract rfl rfl) ?_
     refine DR.det (i := 7) rfl rfl (by kernel_rfl) (.free rfl) rfl rfl (fun wD mD => op_extract rfl rfl) ?_
     refine DR.det (i := 8) rfl rfl (by kernel_rfl) (.free rfl) rfl rfl (fun wD mD => op_extract rfl rfl) ?_
     refine DR.one1 (i := 9) rfl rfl (by kernel_rfl) (.free rfl) rfl (ltb rfl) ?_
     intro w48 m46
     refine Op1.mono (op_alloc (cs := fl (List.replicate 16 0)) Try.zeroValue77 rfl) ?_
     rintro _ w49 ⟨rfl, r34, m47, z10⟩
     refine ⟨(((((((Mod.refl [] w43).nt m42).nt m43).nt m44).nt m45).nt m46).nt m47), ?_⟩
     refine DR.det (i := 10) rfl rfl (by kernel_rfl) (.free rfl) rfl rfl (fun wD mD => op_assign rfl) ?_
     refine DR.st1 (i := 11) rfl rfl (by kernel_rfl) (.free rfl) rfl ?_
     intro w50 m48
     refine Op1.mono (op_store (i := 0) (cs := fl (List.replicate 16 0)) rfl rfl rfl Try.sizeOf77 (fl_len List.length_replicate) (r34.ext m48) rfl (by rw [fl_length, List.length_replicate]; decide) (fl_one _)) ?_
     rintro _ w51 ⟨r35, m49, z11⟩
     have r36 : Row w51 w48.heap.size 0 (fl (List.replicate 16 0)) := Row.congr r35 (splice_all ((fl_len (List.length_replicate)).trans (fl_len (List.length_replicate)).symm))
     have sz14 := (lT (lT (lT (lT m42.size m43.size) m44.size) m45.size) m46.size)
     refine ⟨(((((((((Mod.refl [] w43).nt m42).nt m43).nt m44).nt m45).nt m46).nt m47).nt m48).then m49 ((aC (.inr (lT sz14 lR)) aN))), ?_⟩
     refine DR.sub [(4, .bool false), (6, vS e1_4_0 0 0 0), (7, vP e1_9_0 0), (8, vI 1), (10, .slice none 0 0), (14, vI 1), (15, vI 1), (16, .slice none 0 0), (17, vP w48.heap.size 0), (104, vI 1)] ⟨rfl, rfl, rfl, rfl, rfl, rfl, rfl, rfl, rfl, rfl, trivial⟩ ?_
     refine DR.meet rfl ?_
     intro w52 m50
     have sz15 := (lT (lT m44.size m45.size) m46.size)
     have r37 := (((((((r33.ext m44).ext m45).ext m46).ext m47).ext m48).mod m49 (nC (lE (lL (lL r33.lt sz15) lR)) nN)).ext m50)
     have sz16 := (lT (lT (lT (lT (lT md2.size m42.size) m43.size) m44.size) m45.size) m46.size)
     exact ⟨b'5, w48.heap.size, rfl, r37, (r36.ext m50), (lT (lT md2.size m42.size) ge11), (lT sz16 lR), (lE (lL (lL r33.lt sz15) lR)), (((((((((((Mod.refl [] w42).nt md2).nt m42).nt m43).nt m44).nt m45).nt m46).nt m47).nt m48).then m49 ((aC (.inr (lT sz16 lR)) aN))).nt m50)⟩
    ·refine DP.op (i := 9) rfl rfl (.free rfl) rfl (ltb rfl) ?_
     intro w53 m51
     refine Op1.mono (op_alloc (cs := fl (List.replicate 16 0)) Try.zeroValue77 rfl) ?_
     rintro _ w54 ⟨rfl, r38, m52, z12⟩
     refine ⟨(((((Mod.refl [] w43).nt m42).nt m43).nt m51).nt m52), ?_⟩
     refine DR.one (i := 4) rfl rfl (by kernel_rfl) (.free rfl) rfl (ltb rfl) (vs := [.func (.func 42) #[] #[], vS b'5 0 n n, .agg (fl bs).toArray]) rfl ?_
     intro w55 m53
     refine ⟨oc_call (vs := [vS b'5 0 n n, .agg (fl bs).toArray]) (cap := []) rfl rfl rfl Try.call42 (c_iChain_bad n n b'5 es bs ln hn lb (by first | assumption | exact W32.set (by assumption) (by first | assumption | exact wid_lt (by assumption)) | exact W32.zeros _ | exact W32.nil) hv w55 (((r33.ext m51).ext m52).ext m53).rng), ?_⟩
     rintro _ w56 ⟨rfl, m54⟩
     refine ⟨(((((((Mod.refl [] w43).nt m42).nt m43).nt m51).nt m52).nt m53).nt m54), ?_⟩
     refine DR.det (i := 5) rfl rfl (by kernel_rfl) (.free rfl) rfl rfl (fun wD mD => op_move rfl) ?_
     refine DR.det (i := 6) rfl rfl (by kernel_rfl) (.free rfl) rfl rfl (fun wD mD => op_extract rfl rfl) ?_
     refine DR.det (i := 7) rfl rfl (by kernel_rfl) (.free rfl) rfl rfl (fun wD mD => op_extract rfl rfl) ?_
     refine DR.det (i := 8) rfl rfl (by kernel_rfl) (.free rfl) rfl rfl (fun wD mD => op_extract rfl rfl) ?_
     refine DR.det (i := 10) rfl rfl (by kernel_rfl) (.free rfl) rfl rfl (fun wD mD => op_assign rfl) ?_
     refine DR.st1 (i := 11) rfl rfl (by kernel_rfl) (.free rfl) rfl ?_
     intro w57 m55
     refine Op1.mono (op_store (i := 0) (cs := fl (List.replicate 16 0)) rfl rfl rfl Try.sizeOf77 (fl_len List.length_replicate) (((r38.ext m53).ext m54).ext m55) rfl (by rw [fl_length, List.length_replicate]; decide) (fl_one _)) ?_
     rintro _ w58 ⟨r39, m56, z13⟩
     have r40 : Row w58 w53.heap.size 0 (fl (List.replicate 16 0)) := Row.congr r39 (splice_all ((fl_len (List.length_replicate)).trans (fl_len (List.length_replicate)).symm))
     have sz17 := (lT (lT m42.size m43.size) m51.size)
     refine ⟨(((((((((Mod.refl [] w43).nt m42).nt m43).nt m51).nt m52).nt m53).nt m54).nt m55).then m56 ((aC (.inr (lT sz17 lR)) aN))), ?_⟩
     refine DR.sub [(4, .bool false), (6, vS e1_4_0 0 0 0), (7, vP e1_9_0 0), (8, vI 1), (10, .slice none 0 0), (14, vI 1), (15, vI 1), (16, .slice none 0 0), (17, vP w53.heap.size 0), (104, vI 1)] ⟨rfl, rfl, rfl, rfl, rfl, rfl, rfl, rfl, rfl, rfl, trivial⟩ ?_
     refine DR.meet rfl ?_
     intro w59 m57
     have r41 := (((((((r33.ext m51).ext m52).ext m53).ext m54).ext m55).mod m56 (nC (lE (lL (lL r33.lt m51.size) lR)) nN)).ext m57)
     have sz18 := (lT (lT (lT md2.size m42.size) m43.size) m51.size)
     exact ⟨b'5, w53.heap.size, rfl, r41, (r40.ext m57), (lT (lT md2.size m42.size) ge11), (lT sz18 lR), (lE (lL (lL r33.lt m51.size) lR)), (((((((((((Mod.refl [] w42).nt md2).nt m42).nt m43).nt m51).nt m52).nt m53).nt m54).nt m55).then m56 ((aC (.inr (lT sz18 lR)) aN))).nt m57)⟩
   ·refine DP.op (i := 9) rfl rfl (.free rfl) rfl (ltb rfl) ?_
    intro w60 m58
    refine Op1.mono (op_alloc (cs := fl (List.replicate 16 0)) Try.zeroValue77 rfl) ?_
    rintro _ w61 ⟨rfl, r42, m59, z14⟩
    refine ⟨(((Mod.refl [] w43).nt m58).nt m59), ?_⟩
    refine DR.one (i := 1) rfl rfl (by kernel_rfl) (.free rfl) rfl (ltb rfl) (vs := [.func (.func 40) #[] #[], .slice A n c]) rfl ?_
    intro w62 m60
    refine ⟨oc_call (vs := [.slice A n c]) (cap := []) rfl rfl rfl Try.call40 (c_toFilterS n c A b o es ln hA hn w62 (((((((((Rng.youngS r ((r27.ext m35).ext m36) m37 (allge_cons (lT (lT m1.size m27.size) ge9) allge_nil)).ext m38).ext m39).ext m40).ext m41).ext md2).ext m58).ext m59).ext m60)), ?_⟩
    rintro _ w63 ⟨b'6, rfl, r43, ge12, m61⟩
    refine ⟨(((((Mod.refl [] w43).nt m58).nt m59).nt m60).nt m61), ?_⟩
    refine DR.call (i := 3) (fun uA => uA = .agg (fl bs).toArray) rfl rfl (by kernel_rfl) (.free rfl) rfl (ltb rfl) ⟨_, rfl⟩ (vs := [.func (.func 41) #[] #[], .agg (fl bs).toArray]) rfl (fun wD mD => oc_call (vs := [.agg (fl bs).toArray]) (cap := []) rfl rfl rfl Try.call41 (c_toBlock bs lb wD)) ?_ ?_
    ·rintro w1 _ w2 m1 ⟨rfl, m2⟩; exact ⟨rfl, m2⟩
    rintro _ rfl
    refine DR.one (i := 4) rfl rfl (by kernel_rfl) (.free rfl) rfl (ltb rfl) (vs := [.func (.func 42) #[] #[], vS b'6 0 n n, .agg (fl bs).toArray]) rfl ?_
    intro w64 m62
    refine ⟨oc_call (vs := [vS b'6 0 n n, .agg (fl bs).toArray]) (cap := []) rfl rfl rfl Try.call42 (c_iChain_bad n n b'6 es bs ln hn lb (by first | assumption | exact W32.set (by assumption) (by first | assumption | exact wid_lt (by assumption)) | exact W32.zeros _ | exact W32.nil) hv w64 (r43.ext m62).rng), ?_⟩
    rintro _ w65 ⟨rfl, m63⟩
    refine ⟨(((((((Mod.refl [] w43).nt m58).nt m59).nt m60).nt m61).nt m62).nt m63), ?_⟩
    refine DR.det (i := 5) rfl rfl (by kernel_rfl) (.free rfl) rfl rfl (fun wD mD => op_move rfl) ?_
    refine DR.det (i := 6) rfl rfl (by kernel_rfl) (.free rfl) rfl rfl (fun wD mD => op_extract rfl rfl) ?_
    refine DR.det (i := 7) rfl rfl (by kernel_rfl) (.free rfl) rfl rfl (fun wD mD => op_extract rfl rfl) ?_
    refine DR.det (i := 8) rfl rfl (by kernel_rfl) (.free rfl) rfl rfl (fun wD mD => op_extract rfl rfl) ?_
    refine DR.det (i := 10) rfl rfl (by kernel_rfl) (.free rfl) rfl rfl (fun wD mD => op_assign rfl) ?_
    refine DR.st1 (i := 11) rfl rfl (by kernel_rfl) (.free rfl) rfl ?_
    intro w66 m64
    refine Op1.mono (op_store (i := 0) (cs := fl (List.replicate 16 0)) rfl rfl rfl Try.sizeOf77 (fl_len List.length_replicate) (((((r42.ext m60).ext m61).ext m62).ext m63).ext m64) rfl (by rw [fl_length, List.length_replicate]; decide) (fl_one _)) ?_
    rintro _ w67 ⟨r44, m65, z15⟩
    have r45 : Row w67 w60.heap.size 0 (fl (List.replicate 16 0)) := Row.congr r44 (splice_all ((fl_len (List.length_replicate)).trans (fl_len (List.length_replicate)).symm))
    refine ⟨(((((((((Mod.refl [] w43).nt m58).nt m59).nt m60).nt m61).nt m62).nt m63).nt m64).then m65 ((aC (.inr (lT m58.size lR)) aN))), ?_⟩
    refine DR.sub [(4, .bool false), (6, vS e1_4_0 0 0 0), (7, vP e1_9_0 0), (8, vI 1), (10, .slice none 0 0), (14, vI 1), (15, vI 1), (16, .slice none 0 0), (17, vP w60.heap.size 0), (104, vI 1)] ⟨rfl, rfl, rfl, rfl, rfl, rfl, rfl, rfl, rfl, rfl, trivial⟩ ?_
    refine DR.meet rfl ?_
    intro w68 m66
    have r46 := (((((r43.ext m62).ext m63).ext m64).mod m65 (nC (lG (lL (lL r42.lt m60.size) ge12)) nN)).ext m66)
    have sz19 := (lT (lT (lT md2.size m58.size) m59.size) m60.size)
    exact ⟨b'6, w60.heap.size, rfl, r46, (r45.ext m66), (lT sz19 ge12), (lT (lT md2.size m58.size) lR), (lG (lL (lL r42.lt m60.size) ge12)), (((((((((((Mod.refl [] w42).nt md2).nt m58).nt m59).nt m60).nt m61).nt m62).nt m63).nt m64).then m65 ((aC (.inr (lT (lT md2.size m58.size) lR)) aN))).nt m66)⟩
  ·rintro _ w69 ⟨e2_1_0, e2_9_0, rfl, rr2_0, rr2_1, ge13, ge14, ne4, m67⟩
   refine WO.det (op_assign rfl) rfl (.free rfl) rfl rfl ?_
   refine WO.end (NE.code (CE.seq (CE.seq (CE.region ?_))))
   iterate 2 refine WL.det (op_move rfl) rfl rfl rfl ?_
   refine WL.call (oc_call (vs := [.slice none 0 0, vS e1_4_0 0 0 0]) (cap := []) rfl rfl rfl Try.call43 (c_eqFilterS_nil 0 e1_4_0 w69)) rfl rfl (ltb rfl) ?_
   rintro _ w70 ⟨rfl, m68⟩
   refine WL.det (op_not rfl) rfl rfl rfl ?_
   refine WL.det (op_move rfl) rfl rfl rfl ?_
   refine WL.yes rfl rfl rfl (ltb rfl) rfl rfl ?_
   refine WL.det (op_loadA (i := 0) (cs := fl (List.replicate 16 0)) rfl Try.isAgg77 Try.sizeOf77 (rr2_1.ext m68).rng rfl (fl_whole List.length_replicate) (fl_len List.length_replicate)) rfl rfl rfl ?_
   have r47 := (((((r32.ext m39).ext m40).ext m41).ext m67).ext m68)
   refine WL.yes rfl rfl rfl (ltb rfl) rfl rfl ?_
   refine WL.det (op_loadA (i := 0) (cs := fl (List.replicate 16 0)) rfl Try.isAgg77 Try.sizeOf77 r47.rng rfl (fl_whole List.length_replicate) (fl_len List.length_replicate)) rfl rfl rfl ?_
   refine WL.yes rfl rfl rfl (ltb rfl) rfl rfl ?_
   refine WL.call (oc_call (vs := [.agg (fl (List.replicate 16 0)).toArray, .agg (fl (List.replicate 16 0)).toArray]) (cap := []) rfl rfl rfl Try.call44 (c_eqBlock_same (List.replicate 16 0) List.length_replicate w70)) rfl rfl (ltb rfl) ?_
   rintro _ w71 ⟨rfl, m69⟩
   refine WL.yes rfl rfl rfl (ltb rfl) rfl rfl ?_
   refine WL.det (op_not rfl) rfl rfl rfl ?_
   refine WL.det (op_pick_f rfl rfl rfl) rfl rfl rfl ?_
   refine WL.det (op_move rfl) rfl rfl rfl ?_
   refine WL.yes rfl rfl rfl (ltb rfl) rfl rfl ?_
   refine WL.det (op_move rfl) rfl rfl rfl ?_
   refine WL.yes rfl rfl rfl (ltb rfl) rfl rfl ?_
   refine WL.det (op_move rfl) rfl rfl rfl ?_
   refine WL.yes rfl rfl rfl (ltb rfl) rfl rfl ?_
   refine WL.det (op_nei rfl rfl) rfl rfl rfl ?_
   refine WL.det (op_pick_f rfl rfl rfl) rfl rfl rfl ?_
   refine WL.end (NE.code ?_)
   refine CE.cond_f rfl rfl ?_
   refine CE.skip' (NE.code (CE.seq (CE.region ?_)))
   refine WL.det (op_assign rfl) rfl rfl rfl ?_
   refine WL.end (NE.code (CE.seq (CE.region ?_)))
   iterate 2 refine WL.det (op_move rfl) rfl rfl rfl ?_
   refine WL.call (oc_call (vs := [.slice none 0 0, vI 1]) (cap := []) rfl rfl rfl Try.call46 (c_heldFilterS_nil 1 (by omega) w71)) rfl rfl (ltb rfl) ?_
   rintro _ w72 ⟨rfl, m70⟩
   refine WL.det (op_assign rfl) rfl rfl rfl ?_
   refine WL.end (NE.code (CE.seq (CE.seq (CE.region ?_))))
   refine WL.det (op_move rfl) rfl rfl rfl ?_
   refine WL.det (op_lti rfl rfl) rfl rfl rfl ?_
   refine WL.end (NE.code ?_)
   refine CE.cond_f rfl rfl ?_
   refine CE.skip' (NE.code (CE.seq (CE.seq (CE.region ?_))))
   iterate 2 refine WL.det (op_move rfl) rfl rfl rfl ?_
   refine WL.det (op_nei rfl rfl) rfl rfl rfl ?_
   refine WL.end (NE.code ?_)
   refine CE.cond_f rfl rfl ?_
   refine CE.skip' (NE.code (CE.seq (CE.region ?_)))
   refine WL.det (op_assign rfl) rfl rfl rfl ?_
   refine WL.end (NE.code (CE.ret' ?_))
   refine XE.leave1 Try.results6 rfl ?_
   refine ⟨rfl, (((((((((((((((((((((Mod.refl [] w).nt m1).nt m27).nt m28).nt m29).nt m30).nt m31).then m32 ((aC (.inr (lT sz13 lR)) aN))).nt m33).nt m34).nt m35).nt m36).then m37 ((aC (.inr (lT (lT m1.size m27.size) ge9)) aN))).nt m38).nt m39).nt m40).nt m41).nt m67).nt m68).nt m69).nt m70)⟩

theorem law_chain_lim (n : Nat) (c : Nat) (A : Option Addr) (b : Nat) (o : Nat) (es : List FiR) (bs : List Nat) (ln : es.length = n) (hA : 0 < n → A = some ⟨b, o, none⟩) (lb : bs.length = 16) (wb : W32 bs) (hn : n ≤ 1048576) (h6 : 6 < n) (hv : vFils es n = true) (w : World) (r : Rng w b o (cat FiR.cells es)) : Cl Try.prog 6 #[.slice A n c, .agg (fl bs).toArray] w fun v w' => v = .bool true ∧ Mod [] w w' := by
 refine Cl.of Try.func6 Try.ntmps6 rfl rfl (ρ := [(0, .slice A n c), (1, .agg (fl bs).toArray)]) rfl ?_
 refine CE.seq (CE.region ?_)
 refine WL.op (op_box (cs := fl bs) rfl rfl) rfl rfl (ltb rfl) ?_
 rintro _ w1 ⟨rfl, r1, m1, z1⟩
 refine WL.det (op_assign rfl) rfl rfl rfl ?_
 refine WL.end (NE.code (CE.seq (CE.region ?_)))
 refine WL.det (op_assign rfl) rfl rfl rfl ?_
 refine WL.end (NE.code (CE.seq (CE.region ?_)))
 iterate 2 refine WL.det (op_move rfl) rfl rfl rfl ?_
 refine WL.call (oc_call (vs := [.slice A n c, vI 1048576]) (cap := []) rfl rfl rfl Try.call38 (c_szFilterS 1048576 n c A hn (by omega) w1)) rfl rfl (ltb rfl) ?_
 rintro _ _ ⟨rfl, rfl⟩
 refine WL.det (op_assign rfl) rfl rfl rfl ?_
 refine WL.end (NE.code (CE.seq (CE.seq (CE.region ?_))))
 refine WL.det (op_move rfl) rfl rfl rfl ?_
 refine WL.det (op_lti_f rfl rfl (Int.not_lt.2 (Int.natCast_nonneg _))) rfl rfl rfl ?_
 refine WL.end (NE.code ?_)
 refine CE.cond_f rfl rfl ?_
 refine CE.skip' (NE.code (CE.seq ?_))
 refine CE.drawF (fun | 1 => some (fun _ wA uA wB => ∃ (b' : Nat), uA = vS b' 0 n n ∧ Row wB b' 0 (cat FiR.cells es) ∧ wA.heap.size ≤ b' ∧ Mod [] wA wB) | 3 => some (fun _ wA uA wB => uA = .agg (fl bs).toArray ∧ Mod [] wA wB) | 4 => some (fun _ wA uA wB => ∃ (e' : Nat), uA = .tuple #[vS e' 0 0 0, .agg (fl (List.replicate 16 0)).toArray, vI 3] ∧ Row wB e' 0 [] ∧ wA.heap.size ≤ e' ∧ Mod [] wA wB) | _ => none) [0, 1, 2, 3, 4, 5, 6, 7, 8, 9, 10, 11] [12] [] (fun ρ W => ∃ (e1_1_0 : Nat) (e1_4_0 : Nat) (e1_9_0 : Nat), ρ = [(0, .slice A n c), (3, vP w.heap.size 0), (4, .bool false), (6, vS e1_4_0 0 0 0), (7, vP e1_9_0 0), (32, vI 3)] ∧ Row W e1_1_0 0 (cat FiR.cells es) ∧ Row W e1_4_0 0 [] ∧ Row W e1_9_0 0 (fl (List.replicate 16 0)) ∧ w1.heap.size ≤ e1_1_0 ∧ w1.heap.size ≤ e1_4_0 ∧ w1.heap.size ≤ e1_9_0 ∧ e1_1_0 ≠ e1_4_0 ∧ e1_1_0 ≠ e1_9_0 ∧ e1_4_0 ≠ e1_9_0 ∧ Mod [] w1 W) (by kernel_rfl) (by kernel_rfl) ?_ ?_
 have md1 : Mod [] w1 w1.drew := (Mod.refl _ _).drew
 generalize w1.drew = w2 at md1 ⊢
 ·refine DR.det (i := 0) rfl rfl (by kernel_rfl) (.free rfl) rfl rfl (fun wD mD => op_move rfl) ?_
  refine DR.det (i := 2) rfl rfl (by kernel_rfl) (.free rfl) rfl rfl (fun wD mD => op_loadA (i := 0) (cs := fl bs) rfl Try.isAgg74 Try.sizeOf74 ((r1.ext md1).ext mD).rng rfl (fl_whole lb) (fl_len lb)) ?_
  refine DR.fork (is := [1, 9]) (by kernel_rfl) (by decide) (all2 ?_ ?_)
  ·refine DP.call (i := 1) rfl rfl (.free rfl) rfl (ltb rfl) (vs := [.func (.func 40) #[] #[], .slice A n c]) rfl ?_
   intro w3 m2
   refine ⟨oc_call (vs := [.slice A n c]) (cap := []) rfl rfl rfl Try.call40 (c_toFilterS n c A b o es ln hA hn w3 (((r.ext m1).ext md1).ext m2)), ?_⟩
   rintro _ w4 ⟨b'1, rfl, r2, ge1, m3⟩
   refine ⟨(((Mod.refl [] w2).nt m2).nt m3), ?_⟩
   refine DR.call (i := 3) (fun uA => uA = .agg (fl bs).toArray) rfl rfl (by kernel_rfl) (.free rfl) rfl (ltb rfl) ⟨_, rfl⟩ (vs := [.func (.func 41) #[] #[], .agg (fl bs).toArray]) rfl (fun wD mD => oc_call (vs := [.agg (fl bs).toArray]) (cap := []) rfl rfl rfl Try.call41 (c_toBlock bs lb wD)) ?_ ?_
   ·rintro w1 _ w2 m1 ⟨rfl, m2⟩; exact ⟨rfl, m2⟩
   rintro _ rfl
   refine DR.fork (is := [4, 9]) (by kernel_rfl) (by decide) (all2 ?_ ?_)
   ·refine DP.call (i := 4) rfl rfl (.free rfl) rfl (ltb rfl) (vs := [.func (.func 39) #[] #[], vS b'1 0 n n, .agg (fl bs).toArray]) rfl ?_
    intro w5 m4
    refine ⟨oc_call (vs := [vS b'1 0 n n, .agg (fl bs).toArray]) (cap := []) rfl rfl rfl Try.call39 (c_sChain_lim n n b'1 es bs ln hn lb (by first | assumption | exact W32.set (by assumption) (by first | assumption | exact wid_lt (by assumption)) | exact W32.zeros _ | exact W32.nil) hv (by first | assumption | omega) w5 (r2.ext m4).rng), ?_⟩
    rintro _ w6 ⟨e'1, rfl, r3, ge2, m5⟩
    refine ⟨(((((Mod.refl [] w2).nt m2).nt m3).nt m4).nt m5), ?_⟩
    refine DR.det (i := 5) rfl rfl (by kernel_rfl) (.free rfl) rfl rfl (fun wD mD => op_move rfl) ?_
    refine DR.det (i := 6) rfl rfl (by kernel_rfl) (.free rfl) rfl rfl (fun wD mD => op_extract rfl rfl) ?_
    refine DR.det (i := 7) rfl rfl (by kernel_rfl) (.free rfl) rfl rfl (fun wD mD => op_extract rfl rfl) ?_
    refine DR.det (i := 8) rfl rfl (by kernel_rfl) (.free rfl) rfl rfl (fun wD mD => op_extract rfl rfl) ?_
    refine DR.one1 (i := 9) rfl rfl (by kernel_rfl) (.free rfl) rfl (ltb rfl) ?_
    intro w7 m6
    refine Op1.mono (op_alloc (cs := fl (List.replicate 16 0)) Try.zeroValue77 rfl) ?_
    rintro _ w8 ⟨rfl, r4, m7, z2⟩
    refine ⟨(((((((Mod.refl [] w2).nt m2).nt m3).nt m4).nt m5).nt m6).nt m7), ?_⟩
    refine DR.det (i := 10) rfl rfl (by kernel_rfl) (.free rfl) rfl rfl (fun wD mD => op_assign rfl) ?_
    refine DR.st1 (i := 11) rfl rfl (by kernel_rfl) (.free rfl) rfl ?_
    intro w9 m8
    refine Op1.mono (op_store (i := 0) (cs := fl (List.replicate 16 0)) rfl rfl rfl Try.sizeOf77 (fl_len List.length_replicate) (r4.ext m8) rfl (by rw [fl_length, List.length_replicate]; decide) (fl_one _)) ?_
    rintro _ w10 ⟨r5, m9, z3⟩
    have r6 : Row w10 w7.heap.size 0 (fl (List.replicate 16 0)) := Row.congr r5 (splice_all ((fl_len (List.length_replicate)).trans (fl_len (List.length_replicate)).symm))
    have sz1 := (lT (lT (lT (lT m2.size m3.size) m4.size) m5.size) m6.size)
    refine ⟨(((((((((Mod.refl [] w2).nt m2).nt m3).nt m4).nt m5).nt m6).nt m7).nt m8).then m9 ((aC (.inr (lT sz1 lR)) aN))), ?_⟩
    refine DR.sub [(0, .slice A n c), (3, vP w.heap.size 0), (4, .bool false), (6, vS e'1 0 0 0), (7, vP w7.heap.size 0), (32, vI 3)] ⟨rfl, rfl, rfl, rfl, rfl, rfl, trivial⟩ ?_
    refine DR.meet rfl ?_
    intro w11 m10
    have sz2 := (lT (lT m4.size m5.size) m6.size)
    have r7 := (((((((r2.ext m4).ext m5).ext m6).ext m7).ext m8).mod m9 (nC (lE (lL (lL r2.lt sz2) lR)) nN)).ext m10)
    have r8 := (((((r3.ext m6).ext m7).ext m8).mod m9 (nC (lE (lL (lL r3.lt m6.size) lR)) nN)).ext m10)
    have sz3 := (lT (lT (lT md1.size m2.size) m3.size) m4.size)
    have sz4 := (lT (lT sz3 m5.size) m6.size)
    exact ⟨b'1, e'1, w7.heap.size, rfl, r7, r8, (r6.ext m10), (lT (lT md1.size m2.size) ge1), (lT sz3 ge2), (lT sz4 lR), (lE (lL (lL r2.lt m4.size) ge2)), (lE (lL (lL r2.lt sz2) lR)), (lE (lL (lL r3.lt m6.size) lR)), (((((((((((Mod.refl [] w1).nt md1).nt m2).nt m3).nt m4).nt m5).nt m6).nt m7).nt m8).then m9 ((aC (.inr (lT sz4 lR)) aN))).nt m10)⟩
   ·refine DP.op (i := 9) rfl rfl (.free rfl) rfl (ltb rfl) ?_
    intro w12 m11
    refine Op1.mono (op_alloc (cs := fl (List.replicate 16 0)) Try.zeroValue77 rfl) ?_
    rintro _ w13 ⟨rfl, r9, m12, z4⟩
    refine ⟨(((((Mod.refl [] w2).nt m2).nt m3).nt m11).nt m12), ?_⟩
    refine DR.one (i := 4) rfl rfl (by kernel_rfl) (.free rfl) rfl (ltb rfl) (vs := [.func (.func 39) #[] #[], vS b'1 0 n n, .agg (fl bs).toArray]) rfl ?_
    intro w14 m13
    refine ⟨oc_call (vs := [vS b'1 0 n n, .agg (fl bs).toArray]) (cap := []) rfl rfl rfl Try.call39 (c_sChain_lim n n b'1 es bs ln hn lb (by first | assumption | exact W32.set (by assumption) (by first | assumption | exact wid_lt (by assumption)) | exact W32.zeros _ | exact W32.nil) hv (by first | assumption | omega) w14 (((r2.ext m11).ext m12).ext m13).rng), ?_⟩
    rintro _ w15 ⟨e'2, rfl, r10, ge3, m14⟩
    refine ⟨(((((((Mod.refl [] w2).nt m2).nt m3).nt m11).nt m12).nt m13).nt m14), ?_⟩
    refine DR.det (i := 5) rfl rfl (by kernel_rfl) (.free rfl) rfl rfl (fun wD mD => op_move rfl) ?_
    refine DR.det (i := 6) rfl rfl (by kernel_rfl) (.free rfl) rfl rfl (fun wD mD => op_extract rfl rfl) ?_
    refine DR.det (i := 7) rfl rfl (by kernel_rfl) (.free rfl) rfl rfl (fun wD mD => op_extract rfl rfl) ?_
    refine DR.det (i := 8) rfl rfl (by kernel_rfl) (.free rfl) rfl rfl (fun wD mD => op_extract rfl rfl) ?_
    refine DR.det (i := 10) rfl rfl (by kernel_rfl) (.free rfl) rfl rfl (fun wD mD => op_assign rfl) ?_
    refine DR.st1 (i := 11) rfl rfl (by kernel_rfl) (.free rfl) rfl ?_
    intro w16 m15
    refine Op1.mono (op_store (i := 0) (cs := fl (List.replicate 16 0)) rfl rfl rfl Try.sizeOf77 (fl_len List.length_replicate) (((r9.ext m13).ext m14).ext m15) rfl (by rw [fl_length, List.length_replicate]; decide) (fl_one _)) ?_
    rintro _ w17 ⟨r11, m16, z5⟩
    have r12 : Row w17 w12.heap.size 0 (fl (List.replicate 16 0)) := Row.congr r11 (splice_all ((fl_len (List.length_replicate)).trans (fl_len (List.length_replicate)).symm))
    have sz5 := (lT (lT m2.size m3.size) m11.size)
    refine ⟨(((((((((Mod.refl [] w2).nt m2).nt m3).nt m11).nt m12).nt m13).nt m14).nt m15).then m16 ((aC (.inr (lT sz5 lR)) aN))), ?_⟩
    refine DR.sub [(0, .slice A n c), (3, vP w.heap.size 0), (4, .bool false), (6, vS e'2 0 0 0), (7, vP w12.heap.size 0), (32, vI 3)] ⟨rfl, rfl, rfl, rfl, rfl, rfl, trivial⟩ ?_
    refine DR.meet rfl ?_
    intro w18 m17
    have r13 := (((((((r2.ext m11).ext m12).ext m13).ext m14).ext m15).mod m16 (nC (lE (lL (lL r2.lt m11.size) lR)) nN)).ext m17)
    have r14 := (((r10.ext m15).mod m16 (nC (lG (lL (lL r9.lt m13.size) ge3)) nN)).ext m17)
    have sz6 := (lT (lT (lT (lT (lT md1.size m2.size) m3.size) m11.size) m12.size) m13.size)
    have sz7 := (lT (lT (lT md1.size m2.size) m3.size) m11.size)
    have sz8 := (lT (lT m11.size m12.size) m13.size)
    exact ⟨b'1, e'2, w12.heap.size, rfl, r13, r14, (r12.ext m17), (lT (lT md1.size m2.size) ge1), (lT sz6 ge3), (lT sz7 lR), (lE (lL (lL r2.lt sz8) ge3)), (lE (lL (lL r2.lt m11.size) lR)), (lG (lL (lL r9.lt m13.size) ge3)), (((((((((((Mod.refl [] w1).nt md1).nt m2).nt m3).nt m11).nt m12).nt m13).nt m14).nt m15).then m16 ((aC (.inr (lT sz7 lR)) aN))).nt m17)⟩
  ·refine DP.op (i := 9) rfl rfl (.free rfl) rfl (ltb rfl) ?_
   intro w19 m18
   refine Op1.mono (op_alloc (cs := fl (List.replicate 16 0)) Try.zeroValue77 rfl) ?_
   rintro _ w20 ⟨rfl, r15, m19, z6⟩
   refine ⟨(((Mod.refl [] w2).nt m18).nt m19), ?_⟩
   refine DR.one (i := 1) rfl rfl (by kernel_rfl) (.free rfl) rfl (ltb rfl) (vs := [.func (.func 40) #[] #[], .slice A n c]) rfl ?_
   intro w21 m20
   refine ⟨oc_call (vs := [.slice A n c]) (cap := []) rfl rfl rfl Try.call40 (c_toFilterS n c A b o es ln hA hn w21 (((((r.ext m1).ext md1).ext m18).ext m19).ext m20)), ?_⟩
   rintro _ w22 ⟨b'2, rfl, r16, ge4, m21⟩
   refine ⟨(((((Mod.refl [] w2).nt m18).nt m19).nt m20).nt m21), ?_⟩
   refine DR.call (i := 3) (fun uA => uA = .agg (fl bs).toArray) rfl rfl (by kernel_rfl) (.free rfl) rfl (ltb rfl) ⟨_, rfl⟩ (vs := [.func (.func 41) #[] #[], .agg (fl bs).toArray]) rfl (fun wD mD => oc_call (vs := [.agg (fl bs).toArray]) (cap := []) rfl rfl rfl Try.call41 (c_toBlock bs lb wD)) ?_ ?_
   ·rintro w1 _ w2 m1 ⟨rfl, m2⟩; exact ⟨rfl, m2⟩
   rintro _ rfl
   refine DR.one (i := 4) rfl rfl (by kernel_rfl) (.free rfl) rfl (ltb rfl) (vs := [.func (.func 39) #[] #[], vS b'2 0 n n, .agg (fl bs).toArray]) rfl ?_
   intro w23 m22
   refine ⟨oc_call (vs := [vS b'2 0 n n, .agg (fl bs).toArray]) (cap := []) rfl rfl rfl Try.call39 (c_sChain_lim n n b'2 es bs ln hn lb (by first | assumption | exact W32.set (by assumption) (by first | assumption | exact wid_lt (by assumption)) | exact W32.zeros _ | exact W32.nil) hv (by first | assumption | omega) w23 (r16.ext m22).rng), ?_⟩
   rintro _ w24 ⟨e'3, rfl, r17, ge5, m23⟩
   refine ⟨(((((((Mod.refl [] w2).nt m18).nt m19).nt m20).nt m21).nt m22).nt m23), ?_⟩
   refine DR.det (i := 5) rfl rfl (by kernel_rfl) (.free rfl) rfl rfl (fun wD mD => op_move rfl) ?_
   refine DR.det (i := 6) rfl rfl (by kernel_rfl) (.free rfl) rfl rfl (fun wD mD => op_extract rfl rfl) ?_
   refine DR.det (i := 7) rfl rfl (by kernel_rfl) (.free rfl) rfl rfl (fun wD mD => op_extract rfl rfl) ?_
   refine DR.det (i := 8) rfl rfl (by kernel_rfl) (.free rfl) rfl rfl (fun wD mD => op_extract rfl rfl) ?_
   refine DR.det (i := 10) rfl rfl (by kernel_rfl) (.free rfl) rfl rfl (fun wD mD => op_assign rfl) ?_
   refine DR.st1 (i := 11) rfl rfl (by kernel_rfl) (.free rfl) rfl ?_
   intro w25 m24
   refine Op1.mono (op_store (i := 0) (cs := fl (List.replicate 16 0)) rfl rfl rfl Try.sizeOf77 (fl_len List.length_replicate) (((((r15.ext m20).ext m21).ext m22).ext m23).ext m24) rfl (by rw [fl_length, List.length_replicate]; decide) (fl_one _)) ?_
   rintro _ w26 ⟨r18, m25, z7⟩
   have r19 : Row w26 w19.heap.size 0 (fl (List.replicate 16 0)) := Row.congr r18 (splice_all ((fl_len (List.length_replicate)).trans (fl_len (List.length_replicate)).symm))
   refine ⟨(((((((((Mod.refl [] w2).nt m18).nt m19).nt m20).nt m21).nt m22).nt m23).nt m24).then m25 ((aC (.inr (lT m18.size lR)) aN))), ?_⟩
   refine DR.sub [(0, .slice A n c), (3, vP w.heap.size 0), (4, .bool false), (6, vS e'3 0 0 0), (7, vP w19.heap.size 0), (32, vI 3)] ⟨rfl, rfl, rfl, rfl, rfl, rfl, trivial⟩ ?_
   refine DR.meet rfl ?_
   intro w27 m26
   have r20 := (((((r16.ext m22).ext m23).ext m24).mod m25 (nC (lG (lL (lL r15.lt m20.size) ge4)) nN)).ext m26)
   have sz9 := (lT (lT m20.size m21.size) m22.size)
   have r21 := (((r17.ext m24).mod m25 (nC (lG (lL (lL r15.lt sz9) ge5)) nN)).ext m26)
   have sz10 := (lT (lT (lT md1.size m18.size) m19.size) m20.size)
   have sz11 := (lT (lT sz10 m21.size) m22.size)
   exact ⟨b'2, e'3, w19.heap.size, rfl, r20, r21, (r19.ext m26), (lT sz10 ge4), (lT sz11 ge5), (lT (lT md1.size m18.size) lR), (lE (lL (lL r16.lt m22.size) ge5)), (lG (lL (lL r15.lt m20.size) ge4)), (lG (lL (lL r15.lt sz9) ge5)), (((((((((((Mod.refl [] w1).nt md1).nt m18).nt m19).nt m20).nt m21).nt m22).nt m23).nt m24).then m25 ((aC (.inr (lT (lT md1.size m18.size) lR)) aN))).nt m26)⟩
 ·rintro _ w28 ⟨e1_1_0, e1_4_0, e1_9_0, rfl, rr1_0, rr1_1, rr1_2, ge6, ge7, ge8, ne1, ne2, ne3, m27⟩
  refine WO.det (op_assign rfl) rfl (.free rfl) rfl rfl ?_
  refine WO.end (NE.code (CE.seq (CE.region ?_)))
  refine WL.det (op_move rfl) rfl rfl rfl ?_
  refine WL.call (oc_call (vs := [.slice A n c]) (cap := []) rfl rfl rfl Try.call40 (c_toFilterS n c A b o es ln hA hn w28 ((r.ext m1).ext m27))) rfl rfl (ltb rfl) ?_
  rintro _ w29 ⟨b'3, rfl, r22, ge9, m28⟩
  refine WL.det (op_assign rfl) rfl rfl rfl ?_
  refine WL.end (NE.code (CE.seq (CE.region ?_)))
  refine WL.det (op_move rfl) rfl rfl rfl ?_
  refine WL.det (op_loadA (i := 0) (cs := fl bs) rfl Try.isAgg74 Try.sizeOf74 ((r1.ext m27).ext m28).rng rfl (fl_whole lb) (fl_len lb)) rfl rfl rfl ?_
  refine WL.call (oc_call (vs := [.agg (fl bs).toArray]) (cap := []) rfl rfl rfl Try.call41 (c_toBlock bs lb w29)) rfl rfl (ltb rfl) ?_
  rintro _ w30 ⟨rfl, m29⟩
  refine WL.call (oc_call (vs := [vS b'3 0 n n, .agg (fl bs).toArray]) (cap := []) rfl rfl rfl Try.call42 (c_iChain_lim n n b'3 es bs ln hn lb (by first | assumption | exact W32.set (by assumption) (by first | assumption | exact wid_lt (by assumption)) | exact W32.zeros _ | exact W32.nil) hv (by first | assumption | omega) w30 (r22.ext m29).rng)) rfl rfl (ltb rfl) ?_
  rintro _ w31 ⟨rfl, m30⟩
  refine WL.det (op_move rfl) rfl rfl rfl ?_
  iterate 3 refine WL.det (op_extract rfl rfl) rfl rfl rfl ?_
  refine WL.op (op_alloc (cs := fl (List.replicate 16 0)) Try.zeroValue77 rfl) rfl rfl (ltb rfl) ?_
  rintro _ w32 ⟨rfl, r23, m31, z8⟩
  refine WL.det (op_assign rfl) rfl rfl rfl ?_
  refine WL.op0 (op_store (i := 0) (cs := fl (List.replicate 16 0)) rfl rfl rfl Try.sizeOf77 (fl_len List.length_replicate) r23 rfl (by rw [fl_length, List.length_replicate]; decide) (fl_one _)) rfl rfl ?_
  rintro _ w33 ⟨r24, m32, z9⟩
  have r25 : Row w33 w31.heap.size 0 (fl (List.replicate 16 0)) := Row.congr r24 (splice_all ((fl_len (List.length_replicate)).trans (fl_len (List.length_replicate)).symm))
  refine WL.det (op_assign rfl) rfl rfl rfl ?_
  refine WL.end (NE.code (CE.seq (CE.seq (CE.region ?_))))
  iterate 2 refine WL.det (op_move rfl) rfl rfl rfl ?_
  refine WL.call (oc_call (vs := [.slice none 0 0, vS e1_4_0 0 0 0]) (cap := []) rfl rfl rfl Try.call43 (c_eqFilterS_nil 0 e1_4_0 w33)) rfl rfl (ltb rfl) ?_
  rintro _ w34 ⟨rfl, m33⟩
  refine WL.det (op_not rfl) rfl rfl rfl ?_
  refine WL.det (op_move rfl) rfl rfl rfl ?_
  refine WL.yes rfl rfl rfl (ltb rfl) rfl rfl ?_
  refine WL.det (op_loadA (i := 0) (cs := fl (List.replicate 16 0)) rfl Try.isAgg77 Try.sizeOf77 (r25.ext m33).rng rfl (fl_whole List.length_replicate) (fl_len List.length_replicate)) rfl rfl rfl ?_
  have sz12 := (lT (lT m28.size m29.size) m30.size)
  have r26 := ((((((rr1_2.ext m28).ext m29).ext m30).ext m31).mod m32 (nC (lE (lL (lL rr1_2.lt sz12) lR)) nN)).ext m33)
  refine WL.yes rfl rfl rfl (ltb rfl) rfl rfl ?_
  refine WL.det (op_loadA (i := 0) (cs := fl (List.replicate 16 0)) rfl Try.isAgg77 Try.sizeOf77 r26.rng rfl (fl_whole List.length_replicate) (fl_len List.length_replicate)) rfl rfl rfl ?_
  refine WL.yes rfl rfl rfl (ltb rfl) rfl rfl ?_
  refine WL.call (oc_call (vs := [.agg (fl (List.replicate 16 0)).toArray, .agg (fl (List.replicate 16 0)).toArray]) (cap := []) rfl rfl rfl Try.call44 (c_eqBlock_same (List.replicate 16 0) List.length_replicate w34)) rfl rfl (ltb rfl) ?_
  rintro _ w35 ⟨rfl, m34⟩
  refine WL.yes rfl rfl rfl (ltb rfl) rfl rfl ?_
  refine WL.det (op_not rfl) rfl rfl rfl ?_
  refine WL.det (op_pick_f rfl rfl rfl) rfl rfl rfl ?_
  refine WL.det (op_move rfl) rfl rfl rfl ?_
  refine WL.yes rfl rfl rfl (ltb rfl) rfl rfl ?_
  refine WL.det (op_move rfl) rfl rfl rfl ?_
  refine WL.yes rfl rfl rfl (ltb rfl) rfl rfl ?_
  refine WL.det (op_move rfl) rfl rfl rfl ?_
  refine WL.yes rfl rfl rfl (ltb rfl) rfl rfl ?_
  refine WL.det (op_nei rfl rfl) rfl rfl rfl ?_
  refine WL.det (op_pick_f rfl rfl rfl) rfl rfl rfl ?_
  refine WL.end (NE.code ?_)
  refine CE.cond_f rfl rfl ?_
  refine CE.skip' (NE.code (CE.seq (CE.seq (CE.region ?_))))
  iterate 2 refine WL.det (op_move rfl) rfl rfl rfl ?_
  have sz13 := (lT (lT (lT (lT m1.size m27.size) m28.size) m29.size) m30.size)
  have r27 := (((Rng.youngS r ((((((r.ext m1).ext m27).ext m28).ext m29).ext m30).ext m31) m32 (allge_cons (lT sz13 lR) allge_nil)).ext m33).ext m34)
  refine WL.call (oc_call (vs := [.slice A n c]) (cap := []) rfl rfl rfl Try.call40 (c_toFilterS n c A b o es ln hA hn w35 r27)) rfl rfl (ltb rfl) ?_
  rintro _ w36 ⟨b'4, rfl, r28, ge10, m35⟩
  have r29 := (((((((r22.ext m29).ext m30).ext m31).mod m32 (nC (lE (lL (lL r22.lt (lT m29.size m30.size)) lR)) nN)).ext m33).ext m34).ext m35)
  refine WL.call (oc_call (vs := [vS b'3 0 n n, vS b'4 0 n n]) (cap := []) rfl rfl rfl Try.call43 (c_eqFilterS n n b'3 es n b'4 ln (by omega) w36 r29.rng r28.rng)) rfl rfl (ltb rfl) ?_
  rintro _ w37 ⟨rfl, m36⟩
  refine WL.det (op_not rfl) rfl rfl rfl ?_
  refine WL.end (NE.code ?_)
  refine CE.cond_f rfl rfl ?_
  refine CE.skip' (NE.code (CE.seq (CE.region ?_)))
  refine WL.det (op_assign rfl) rfl rfl rfl ?_
  refine WL.end (NE.code (CE.seq (CE.region ?_)))
  iterate 2 refine WL.det (op_move rfl) rfl rfl rfl ?_
  refine WL.call (oc_call (vs := [vS b'3 0 n n, vI 1]) (cap := []) rfl rfl rfl Try.call45 (c_markFilterS n n b'3 es 1 ln hn (by omega) w37 (r29.ext m36))) rfl rfl (ltb rfl) ?_
  rintro _ w38 ⟨rfl, r30, m37⟩
  refine WL.det (op_assign rfl) rfl rfl rfl ?_
  refine WL.end (NE.code (CE.seq (CE.seq (CE.region ?_))))
  refine WL.det (op_move rfl) rfl rfl rfl ?_
  refine WL.det (op_lti_f rfl rfl (Int.not_lt.2 (Int.natCast_nonneg _))) rfl rfl rfl ?_
  refine WL.det (op_move rfl) rfl rfl rfl ?_
  refine WL.yes rfl rfl rfl (ltb rfl) rfl rfl ?_
  refine WL.det (op_move rfl) rfl rfl rfl ?_
  refine WL.yes rfl rfl rfl (ltb rfl) rfl rfl ?_
  refine WL.det (op_move rfl) rfl rfl rfl ?_
  refine WL.yes rfl rfl rfl (ltb rfl) rfl rfl ?_
  refine WL.call (oc_call (vs := [.slice none 0 0, vS e1_4_0 0 0 0]) (cap := []) rfl rfl rfl Try.call43 (c_eqFilterS_nil 0 e1_4_0 w38)) rfl rfl (ltb rfl) ?_
  rintro _ w39 ⟨rfl, m38⟩
  refine WL.yes rfl rfl rfl (ltb rfl) rfl rfl ?_
  refine WL.det (op_not rfl) rfl rfl rfl ?_
  refine WL.det (op_pick_f rfl rfl rfl) rfl rfl rfl ?_
  refine WL.det (op_move rfl) rfl rfl rfl ?_
  have r31 := ((((((r25.ext m33).ext m34).ext m35).ext m36).mod m37 (nC (lG (lL (lL r22.lt (lT m29.size m30.size)) lR)) nN)).ext m38)
  refine WL.yes rfl rfl rfl (ltb rfl) rfl rfl ?_
  refine WL.det (op_loadA (i := 0) (cs := fl (List.replicate 16 0)) rfl Try.isAgg77 Try.sizeOf77 r31.rng rfl (fl_whole List.length_replicate) (fl_len List.length_replicate)) rfl rfl rfl ?_
  have r32 := (((((r26.ext m34).ext m35).ext m36).mod m37 (nC (lE (lL rr1_2.lt ge9)) nN)).ext m38)
  refine WL.yes rfl rfl rfl (ltb rfl) rfl rfl ?_
  refine WL.det (op_loadA (i := 0) (cs := fl (List.replicate 16 0)) rfl Try.isAgg77 Try.sizeOf77 r32.rng rfl (fl_whole List.length_replicate) (fl_len List.length_replicate)) rfl rfl rfl ?_
  refine WL.yes rfl rfl rfl (ltb rfl) rfl rfl ?_
  refine WL.call (oc_call (vs := [.agg (fl (List.replicate 16 0)).toArray, .agg (fl (List.replicate 16 0)).toArray]) (cap := []) rfl rfl rfl Try.call44 (c_eqBlock_same (List.replicate 16 0) List.length_replicate w39)) rfl rfl (ltb rfl) ?_
  rintro _ w40 ⟨rfl, m39⟩
  refine WL.yes rfl rfl rfl (ltb rfl) rfl rfl ?_
  refine WL.det (op_not rfl) rfl rfl rfl ?_
  refine WL.det (op_pick_f rfl rfl rfl) rfl rfl rfl ?_
  refine WL.det (op_move rfl) rfl rfl rfl ?_
  refine WL.yes rfl rfl rfl (ltb rfl) rfl rfl ?_
  refine WL.det (op_move rfl) rfl rfl rfl ?_
  refine WL.yes rfl rfl rfl (ltb rfl) rfl rfl ?_
  refine WL.det (op_move rfl) rfl rfl rfl ?_
  refine WL.yes rfl rfl rfl (ltb rfl) rfl rfl ?_
  refine WL.det (op_nei rfl rfl) rfl rfl rfl ?_
  refine WL.det (op_pick_f rfl rfl rfl) rfl rfl rfl ?_
  refine WL.end (NE.code ?_)
  refine CE.cond_f rfl rfl ?_
  refine CE.skip' (NE.code (CE.seq (CE.region ?_)))
  refine WL.det (op_assign rfl) rfl rfl rfl ?_
  refine WL.end (NE.code (CE.seq (CE.region ?_)))
  iterate 2 refine WL.det (op_move rfl) rfl rfl rfl ?_
  refine WL.call (oc_call (vs := [.slice none 0 0, vI 1]) (cap := []) rfl rfl rfl Try.call45 (c_markFilterS_nil 1 (by omega) w40)) rfl rfl (ltb rfl) ?_
  rintro _ w41 ⟨rfl, m40⟩
  refine WL.det (op_assign rfl) rfl rfl rfl ?_
  refine WL.end (NE.code (CE.seq (CE.region ?_)))
  refine WL.det (op_assign rfl) rfl rfl rfl ?_
  refine WL.end (NE.code (CE.seq (CE.region ?_)))
  iterate 2 refine WL.det (op_move rfl) rfl rfl rfl ?_
  refine WL.call (oc_call (vs := [.slice none 0 0, vI 1]) (cap := []) rfl rfl rfl Try.call46 (c_heldFilterS_nil 1 (by omega) w41)) rfl rfl (ltb rfl) ?_
  rintro _ w42 ⟨rfl, m41⟩
  refine WL.det (op_assign rfl) rfl rfl rfl ?_
  refine WL.end (NE.code (CE.seq (CE.seq (CE.region ?_))))
  refine WL.det (op_move rfl) rfl rfl rfl ?_
  refine WL.det (op_lti rfl rfl) rfl rfl rfl ?_
  refine WL.end (NE.code ?_)
  refine CE.cond_f rfl rfl ?_
  refine CE.skip' (NE.code (CE.seq (CE.seq (CE.region ?_))))
  iterate 2 refine WL.det (op_move rfl) rfl rfl rfl ?_
  refine WL.det (op_nei rfl rfl) rfl rfl rfl ?_
  refine WL.end (NE.code ?_)
  refine CE.cond_f rfl rfl ?_
  refine CE.skip' (NE.code (CE.seq ?_))
  refine CE.drawF (fun | 1 => some (fun _ wA uA wB => ∃ (b' : Nat), uA = vS b' 0 n n ∧ Row wB b' 0 (cat FiR.cells es) ∧ wA.heap.size ≤ b' ∧ Mod [] wA wB) | 3 => some (fun _ wA uA wB => uA = .agg (fl bs).toArray ∧ Mod [] wA wB) | 4 => some (fun _ wA uA wB => uA = .tuple #[.slice none 0 0, .agg (fl (List.replicate 16 0)).toArray, vI 3] ∧ Mod [] wA wB) | _ => none) [0, 1, 2, 3, 4, 5, 6, 7, 8, 9, 10, 11] [12] [] (fun ρ W => ∃ (e2_1_0 : Nat) (e2_9_0 : Nat), ρ = [(4, .bool false), (6, vS e1_4_0 0 0 0), (7, vP e1_9_0 0), (8, vI 3), (10, .slice none 0 0), (14, vI 1), (15, vI 1), (16, .slice none 0 0), (17, vP e2_9_0 0), (104, vI 3)] ∧ Row W e2_1_0 0 (cat FiR.cells es) ∧ Row W e2_9_0 0 (fl (List.replicate 16 0)) ∧ w42.heap.size ≤ e2_1_0 ∧ w42.heap.size ≤ e2_9_0 ∧ e2_1_0 ≠ e2_9_0 ∧ Mod [] w42 W) (by kernel_rfl) (by kernel_rfl) ?_ ?_
  have md2 : Mod [] w42 w42.drew := (Mod.refl _ _).drew
  generalize w42.drew = w43 at md2 ⊢
  ·refine DR.det (i := 0) rfl rfl (by kernel_rfl) (.free rfl) rfl rfl (fun wD mD => op_move rfl) ?_
   refine DR.det (i := 2) rfl rfl (by kernel_rfl) (.free rfl) rfl rfl (fun wD mD => op_loadA (i := 0) (cs := fl bs) rfl Try.isAgg74 Try.sizeOf74 (((((((((((((((((r1.ext m27).ext m28).ext m29).ext m30).ext m31).mod m32 (nC (lE (lL (lL r1.lt (lT (lT (lT m27.size m28.size) m29.size) m30.size)) lR)) nN)).ext m33).ext m34).ext m35).ext m36).mod m37 (nC (lE (lL (lL r1.lt m27.size) ge9)) nN)).ext m38).ext m39).ext m40).ext m41).ext md2).ext mD).rng rfl (fl_whole lb) (fl_len lb)) ?_
   refine DR.fork (is := [1, 9]) (by kernel_rfl) (by decide) (all2 ?_ ?_)
   ·refine DP.call (i := 1) rfl rfl (.free rfl) rfl (ltb rfl) (vs := [.func (.func 40) #[] #[], .slice A n c]) rfl ?_
    intro w44 m42
    refine ⟨oc_call (vs := [.slice A n c]) (cap := []) rfl rfl rfl Try.call40 (c_toFilterS n c A b o es ln hA hn w44 (((((((Rng.youngS r ((r27.ext m35).ext m36) m37 (allge_cons (lT (lT m1.size m27.size) ge9) allge_nil)).ext m38).ext m39).ext m40).ext m41).ext md2).ext m42)), ?_⟩
    rintro _ w45 ⟨b'5, rfl, r33, ge11, m43⟩
    refine ⟨(((Mod.refl [] w43).nt m42).nt m43), ?_⟩
    refine DR.call (i := 3) (fun uA => uA = .agg (fl bs).toArray) rfl rfl (by kernel_rfl) (.free rfl) rfl (ltb rfl) ⟨_, rfl⟩ (vs := [.func (.func 41) #[] #[], .agg (fl bs).toArray]) rfl (fun wD mD => oc_call (vs := [.agg (fl bs).toArray]) (cap := []) rfl rfl rfl Try.call41 (c_toBlock bs lb wD)) ?_ ?_
    ·rintro w1 _ w2 m1 ⟨rfl, m2⟩; exact ⟨rfl, m2⟩
    rintro _ rfl
    refine DR.fork (is := [4, 9]) (by kernel_rfl) (by decide) (all2 ?_ ?_)
    ·refine DP.call (i := 4) rfl rfl (.free rfl) rfl (ltb rfl) (vs := [.func (.func 42) #[] #[], vS b'5 0 n n, .agg (fl bs).toArray]) rfl ?_
     intro w46 m44
     refine ⟨oc_call (vs := [vS b'5 0 n n, .agg (fl bs).toArray]) (cap := []) rfl rfl rfl Try.call42 (c_iChain_lim n n b'5 es bs ln hn lb (by first | assumption | exact W32.set (by assumption) (by first | assumption | exact wid_lt (by assumption)) | exact W32.zeros _ | exact W32.nil) hv (by first | assumption | omega) w46 (r33.ext m44).rng), ?_⟩
     rintro _ w47 ⟨rfl, m45⟩
     refine ⟨(((((Mod.refl [] w43).nt m42).nt m43).nt m44).nt m45), ?_⟩
     refine DR.det (i := 5) rfl rfl (by kernel_rfl) (.free rfl) rfl rfl (fun wD mD => op_move rfl) ?_
     refine DR.det (i := 6) rfl rfl (by kernel_rfl) (.free rfl) rfl rfl (fun wD mD => op_extract rfl rfl) ?_
     refine DR.det (i := 7) rfl rfl (by kernel_rfl) (.free rfl) rfl rfl (fun wD mD => op_extract rfl rfl) ?_
     refine DR.det (i := 8) rfl rfl (by kernel_rfl) (.free rfl) rfl rfl (fun wD mD => op_extract rfl rfl) ?_
     refine DR.one1 (i := 9) rfl rfl (by kernel_rfl) (.free rfl) rfl (ltb rfl) ?_
     intro w48 m46
     refine Op1.mono (op_alloc (cs := fl (List.replicate 16 0)) Try.zeroValue77 rfl) ?_
     rintro _ w49 ⟨rfl, r34, m47, z10⟩
     refine ⟨(((((((Mod.refl [] w43).nt m42).nt m43).nt m44).nt m45).nt m46).nt m47), ?_⟩
     refine DR.det (i := 10) rfl rfl (by kernel_rfl) (.free rfl) rfl rfl (fun wD mD => op_assign rfl) ?_
     refine DR.st1 (i := 11) rfl rfl (by kernel_rfl) (.free rfl) rfl ?_
     intro w50 m48
     refine Op1.mono (op_store (i := 0) (cs := fl (List.replicate 16 0)) rfl rfl rfl Try.sizeOf77 (fl_len List.length_replicate) (r34.ext m48) rfl (by rw [fl_length, List.length_replicate]; decide) (fl_one _)) ?_
     rintro _ w51 ⟨r35, m49, z11⟩
     have r36 : Row w51 w48.heap.size 0 (fl (List.replicate 16 0)) := Row.congr r35 (splice_all ((fl_len (List.length_replicate)).trans (fl_len (List.length_replicate)).symm))
     have sz14 := (lT (lT (lT (lT m42.size m43.size) m44.size) m45.size) m46.size)
     refine ⟨(((((((((Mod.refl [] w43).nt m42).nt m43).nt m44).nt m45).nt m46).nt m47).nt m48).then m49 ((aC (.inr (lT sz14 lR)) aN))), ?_⟩
     refine DR.sub [(4, .bool false), (6, vS e1_4_0 0 0 0), (7, vP e1_9_0 0), (8, vI 3), (10, .slice none 0 0), (14, vI 1), (15, vI 1), (16, .slice none 0 0), (17, vP w48.heap.size 0), (104, vI 3)] ⟨rfl, rfl, rfl, rfl, rfl, rfl, rfl, rfl, rfl, rfl, trivial⟩ ?_
     refine DR.meet rfl ?_
     intro w52 m50
     have sz15 := (lT (lT m44.size m45.size) m46.size)
     have r37 := (((((((r33.ext m44).ext m45).ext m46).ext m47).ext m48).mod m49 (nC (lE (lL (lL r33.lt sz15) lR)) nN)).ext m50)
     have sz16 := (lT (lT (lT (lT (lT md2.size m42.size) m43.size) m44.size) m45.size) m46.size)
     exact ⟨b'5, w48.heap.size, rfl, r37, (r36.ext m50), (lT (lT md2.size m42.size) ge11), (lT sz16 lR), (lE (lL (lL r33.lt sz15) lR)), (((((((((((Mod.refl [] w42).nt md2).nt m42).nt m43).nt m44).nt m45).nt m46).nt m47).nt m48).then m49 ((aC (.inr (lT sz16 lR)) aN))).nt m50)⟩
    ·refine DP.op (i := 9) rfl rfl (.free rfl) rfl (ltb rfl) ?_
     intro w53 m51
     refine Op1.mono (op_alloc (cs := fl (List.replicate 16 0)) Try.zeroValue77 rfl) ?_
     rintro _ w54 ⟨rfl, r38, m52, z12⟩
     refine ⟨(((((Mod.refl [] w43).nt m42).nt m43).nt m51).nt m52), ?_⟩
     refine DR.one (i := 4) rfl rfl (by kernel_rfl) (.free rfl) rfl (ltb rfl) (vs := [.func (.func 42) #[] #[], vS b'5 0 n n, .agg (fl bs).toArray]) rfl ?_
     intro w55 m53
     refine ⟨oc_call (vs := [vS b'5 0 n n, .agg (fl bs).toArray]) (cap := []) rfl rfl rfl Try.call42 (c_iChain_lim n n b'5 es bs ln hn lb (by first | assumption | exact W32.set (by assumption) (by first | assumption | exact wid_lt (by assumption)) | exact W32.zeros _ | exact W32.nil) hv (by first | assumption | omega) w55 (((r33.ext m51).ext m52).ext m53).rng), ?_⟩
     rintro _ w56 ⟨rfl, m54⟩
     refine ⟨(((((((Mod.refl [] w43).nt m42).nt m43).nt m51).nt m52).nt m53).nt m54), ?_⟩
     refine DR.det (i := 5) rfl rfl (by kernel_rfl) (.free rfl) rfl rfl (fun wD mD => op_move rfl) ?_
     refine DR.det (i := 6) rfl rfl (by kernel_rfl) (.free rfl) rfl rfl (fun wD mD => op_extract rfl rfl) ?_
     refine DR.det (i := 7) rfl rfl (by kernel_rfl) (.free rfl) rfl rfl (fun wD mD => op_extract rfl rfl) ?_
     refine DR.det (i := 8) rfl rfl (by kernel_rfl) (.free rfl) rfl rfl (fun wD mD => op_extract rfl rfl) ?_
     refine DR.det (i := 10) rfl rfl (by kernel_rfl) (.free rfl) rfl rfl (fun wD mD => op_assign rfl) ?_
     refine DR.st1 (i := 11) rfl rfl (by kernel_rfl) (.free rfl) rfl ?_
     intro w57 m55
     refine Op1.mono (op_store (i := 0) (cs := fl (List.replicate 16 0)) rfl rfl rfl Try.sizeOf77 (fl_len List.length_replicate) (((r38.ext m53).ext m54).ext m55) rfl (by rw [fl_length, List.length_replicate]; decide) (fl_one _)) ?_
     rintro _ w58 ⟨r39, m56, z13⟩
     have r40 : Row w58 w53.heap.size 0 (fl (List.replicate 16 0)) := Row.congr r39 (splice_all ((fl_len (List.length_replicate)).trans (fl_len (List.length_replicate)).symm))
     have sz17 := (lT (lT m42.size m43.size) m51.size)
     refine ⟨(((((((((Mod.refl [] w43).nt m42).nt m43).nt m51).nt m52).nt m53).nt m54).nt m55).then m56 ((aC (.inr (lT sz17 lR)) aN))), ?_⟩
     refine DR.sub [(4, .bool false), (6, vS e1_4_0 0 0 0), (7, vP e1_9_0 0), (8, vI 3), (10, .slice none 0 0), (14, vI 1), (15, vI 1), (16, .slice none 0 0), (17, vP w53.heap.size 0), (104, vI 3)] ⟨rfl, rfl, rfl, rfl, rfl, rfl, rfl, rfl, rfl, rfl, trivial⟩ ?_
     refine DR.meet rfl ?_
     intro w59 m57
     have r41 := (((((((r33.ext m51).ext m52).ext m53).ext m54).ext m55).mod m56 (nC (lE (lL (lL r33.lt m51.size) lR)) nN)).ext m57)
     have sz18 := (lT (lT (lT md2.size m42.size) m43.size) m51.size)
     exact ⟨b'5, w53.heap.size, rfl, r41, (r40.ext m57), (lT (lT md2.size m42.size) ge11), (lT sz18 lR), (lE (lL (lL r33.lt m51.size) lR)), (((((((((((Mod.refl [] w42).nt md2).nt m42).nt m43).nt m51).nt m52).nt m53).nt m54).nt m55).then m56 ((aC (.inr (lT sz18 lR)) aN))).nt m57)⟩
   ·refine DP.op (i := 9) rfl rfl (.free rfl) rfl (ltb rfl) ?_
    intro w60 m58
    refine Op1.mono (op_alloc (cs := fl (List.replicate 16 0)) Try.zeroValue77 rfl) ?_
    rintro _ w61 ⟨rfl, r42, m59, z14⟩
    refine ⟨(((Mod.refl [] w43).nt m58).nt m59), ?_⟩
    refine DR.one (i := 1) rfl rfl (by kernel_rfl) (.free rfl) rfl (ltb rfl) (vs := [.func (.func 40) #[] #[], .slice A n c]) rfl ?_
    intro w62 m60
    refine ⟨oc_call (vs := [.slice A n c]) (cap := []) rfl rfl rfl Try.call40 (c_toFilterS n c A b o es ln hA hn w62 (((((((((Rng.youngS r ((r27.ext m35).ext m36) m37 (allge_cons (lT (lT m1.size m27.size) ge9) allge_nil)).ext m38).ext m39).ext m40).ext m41).ext md2).ext m58).ext m59).ext m60)), ?_⟩
    rintro _ w63 ⟨b'6, rfl, r43, ge12, m61⟩
    refine ⟨(((((Mod.refl [] w43).nt m58).nt m59).nt m60).nt m61), ?_⟩
    refine DR.call (i := 3) (fun uA => uA = .agg (fl bs).toArray) rfl rfl (by kernel_rfl) (.free rfl) rfl (ltb rfl) ⟨_, rfl⟩ (vs := [.func (.func 41) #[] #[], .agg (fl bs).toArray]) rfl (fun wD mD => oc_call (vs := [.agg (fl bs).toArray]) (cap := []) rfl rfl rfl Try.call41 (c_toBlock bs lb wD)) ?_ ?_
    ·rintro w1 _ w2 m1 ⟨rfl, m2⟩; exact ⟨rfl, m2⟩
    rintro _ rfl
    refine DR.one (i := 4) rfl rfl (by kernel_rfl) (.free rfl) rfl (ltb rfl) (vs := [.func (.func 42) #[] #[], vS b'6 0 n n, .agg (fl bs).toArray]) rfl ?_
    intro w64 m62
    refine ⟨oc_call (vs := [vS b'6 0 n n, .agg (fl bs).toArray]) (cap := []) rfl rfl rfl Try.call42 (c_iChain_lim n n b'6 es bs ln hn lb (by first | assumption | exact W32.set (by assumption) (by first | assumption | exact wid_lt (by assumption)) | exact W32.zeros _ | exact W32.nil) hv (by first | assumption | omega) w64 (r43.ext m62).rng), ?_⟩
    rintro _ w65 ⟨rfl, m63⟩
    refine ⟨(((((((Mod.refl [] w43).nt m58).nt m59).nt m60).nt m61).nt m62).nt m63), ?_⟩
    refine DR.det (i := 5) rfl rfl (by kernel_rfl) (.free rfl) rfl rfl (fun wD mD => op_move rfl) ?_
    refine DR.det (i := 6) rfl rfl (by kernel_rfl) (.free rfl) rfl rfl (fun wD mD => op_extract rfl rfl) ?_
    refine DR.det (i := 7) rfl rfl (by kernel_rfl) (.free rfl) rfl rfl (fun wD mD => op_extract rfl rfl) ?_
    refine DR.det (i := 8) rfl rfl (by kernel_rfl) (.free rfl) rfl rfl (fun wD mD => op_extract rfl rfl) ?_
    refine DR.det (i := 10) rfl rfl (by kernel_rfl) (.free rfl) rfl rfl (fun wD mD => op_assign rfl) ?_
    refine DR.st1 (i := 11) rfl rfl (by kernel_rfl) (.free rfl) rfl ?_
    intro w66 m64
    refine Op1.mono (op_store (i := 0) (cs := fl (List.replicate 16 0)) rfl rfl rfl Try.sizeOf77 (fl_len List.length_replicate) (((((r42.ext m60).ext m61).ext m62).ext m63).ext m64) rfl (by rw [fl_length, List.length_replicate]; decide) (fl_one _)) ?_
    rintro _ w67 ⟨r44, m65, z15⟩
    have r45 : Row w67 w60.heap.size 0 (fl (List.replicate 16 0)) := Row.congr r44 (splice_all ((fl_len (List.length_replicate)).trans (fl_len (List.length_replicate)).symm))
    refine ⟨(((((((((Mod.refl [] w43).nt m58).nt m59).nt m60).nt m61).nt m62).nt m63).nt m64).then m65 ((aC (.inr (lT m58.size lR)) aN))), ?_⟩
    refine DR.sub [(4, .bool false), (6, vS e1_4_0 0 0 0), (7, vP e1_9_0 0), (8, vI 3), (10, .slice none 0 0), (14, vI 1), (15, vI 1), (16, .slice none 0 0), (17, vP w60.heap.size 0), (104, vI 3)] ⟨rfl, rfl, rfl, rfl, rfl, rfl, rfl, rfl, rfl, rfl, trivial⟩ ?_
    refine DR.meet rfl ?_
    intro w68 m66
    have r46 := (((((r43.ext m62).ext m63).ext m64).mod m65 (nC (lG (lL (lL r42.lt m60.size) ge12)) nN)).ext m66)
    have sz19 := (lT (lT (lT md2.size m58.size) m59.size) m60.size)
    exact ⟨b'6, w60.heap.size, rfl, r46, (r45.ext m66), (lT sz19 ge12), (lT (lT md2.size m58.size) lR), (lG (lL (lL r42.lt m60.size) ge12)), (((((((((((Mod.refl [] w42).nt md2).nt m58).nt m59).nt m60).nt m61).nt m62).nt m63).nt m64).then m65 ((aC (.inr (lT (lT md2.size m58.size) lR)) aN))).nt m66)⟩
  ·rintro _ w69 ⟨e2_1_0, e2_9_0, rfl, rr2_0, rr2_1, ge13, ge14, ne4, m67⟩
   refine WO.det (op_assign rfl) rfl (.free rfl) rfl rfl ?_
   refine WO.end (NE.code (CE.seq (CE.seq (CE.region ?_))))
   iterate 2 refine WL.det (op_move rfl) rfl rfl rfl ?_
   refine WL.call (oc_call (vs := [.slice none 0 0, vS e1_4_0 0 0 0]) (cap := []) rfl rfl rfl Try.call43 (c_eqFilterS_nil 0 e1_4_0 w69)) rfl rfl (ltb rfl) ?_
   rintro _ w70 ⟨rfl, m68⟩
   refine WL.det (op_not rfl) rfl rfl rfl ?_
   refine WL.det (op_move rfl) rfl rfl rfl ?_
   refine WL.yes rfl rfl rfl (ltb rfl) rfl rfl ?_
   refine WL.det (op_loadA (i := 0) (cs := fl (List.replicate 16 0)) rfl Try.isAgg77 Try.sizeOf77 (rr2_1.ext m68).rng rfl (fl_whole List.length_replicate) (fl_len List.length_replicate)) rfl rfl rfl ?_
   have r47 := (((((r32.ext m39).ext m40).ext m41).ext m67).ext m68)
   refine WL.yes rfl rfl rfl (ltb rfl) rfl rfl ?_
   refine WL.det (op_loadA (i := 0) (cs := fl (List.replicate 16 0)) rfl Try.isAgg77 Try.sizeOf77 r47.rng rfl (fl_whole List.length_replicate) (fl_len List.length_replicate)) rfl rfl rfl ?_
   refine WL.yes rfl rfl rfl (ltb rfl) rfl rfl ?_
   refine WL.call (oc_call (vs := [.agg (fl (List.replicate 16 0)).toArray, .agg (fl (List.replicate 16 0)).toArray]) (cap := []) rfl rfl rfl Try.call44 (c_eqBlock_same (List.replicate 16 0) List.length_replicate w70)) rfl rfl (ltb rfl) ?_
   rintro _ w71 ⟨rfl, m69⟩
   refine WL.yes rfl rfl rfl (ltb rfl) rfl rfl ?_
   refine WL.det (op_not rfl) rfl rfl rfl ?_
   refine WL.det (op_pick_f rfl rfl rfl) rfl rfl rfl ?_
   refine WL.det (op_move rfl) rfl rfl rfl ?_
   refine WL.yes rfl rfl rfl (ltb rfl) rfl rfl ?_
   refine WL.det (op_move rfl) rfl rfl rfl ?_
   refine WL.yes rfl rfl rfl (ltb rfl) rfl rfl ?_
   refine WL.det (op_move rfl) rfl rfl rfl ?_
   refine WL.yes rfl rfl rfl (ltb rfl) rfl rfl ?_
   refine WL.det (op_nei rfl rfl) rfl rfl rfl ?_
   refine WL.det (op_pick_f rfl rfl rfl) rfl rfl rfl ?_
   refine WL.end (NE.code ?_)
   refine CE.cond_f rfl rfl ?_
   refine CE.skip' (NE.code (CE.seq (CE.region ?_)))
   refine WL.det (op_assign rfl) rfl rfl rfl ?_
   refine WL.end (NE.code (CE.seq (CE.region ?_)))
   iterate 2 refine WL.det (op_move rfl) rfl rfl rfl ?_
   refine WL.call (oc_call (vs := [.slice none 0 0, vI 1]) (cap := []) rfl rfl rfl Try.call46 (c_heldFilterS_nil 1 (by omega) w71)) rfl rfl (ltb rfl) ?_
   rintro _ w72 ⟨rfl, m70⟩
   refine WL.det (op_assign rfl) rfl rfl rfl ?_
   refine WL.end (NE.code (CE.seq (CE.seq (CE.region ?_))))
   refine WL.det (op_move rfl) rfl rfl rfl ?_
   refine WL.det (op_lti rfl rfl) rfl rfl rfl ?_
   refine WL.end (NE.code ?_)
   refine CE.cond_f rfl rfl ?_
   refine CE.skip' (NE.code (CE.seq (CE.seq (CE.region ?_))))
   iterate 2 refine WL.det (op_move rfl) rfl rfl rfl ?_
   refine WL.det (op_nei rfl rfl) rfl rfl rfl ?_
   refine WL.end (NE.code ?_)
   refine CE.cond_f rfl rfl ?_
   refine CE.skip' (NE.code (CE.seq (CE.region ?_)))
   refine WL.det (op_assign rfl) rfl rfl rfl ?_
   refine WL.end (NE.code (CE.ret' ?_))
   refine XE.leave1 Try.results6 rfl ?_
   refine ⟨rfl, (((((((((((((((((((((Mod.refl [] w).nt m1).nt m27).nt m28).nt m29).nt m30).nt m31).then m32 ((aC (.inr (lT sz13 lR)) aN))).nt m33).nt m34).nt m35).nt m36).then m37 ((aC (.inr (lT (lT m1.size m27.size) ge9)) aN))).nt m38).nt m39).nt m40).nt m41).nt m67).nt m68).nt m69).nt m70)⟩

theorem law_chain0 (c : Nat) (A : Option Addr) (b : Nat) (o : Nat) (es : List FiR) (bs : List Nat) (ln : es.length = 0) (hA : 0 < 0 → A = some ⟨b, o, none⟩) (lb : bs.length = 16) (wb : W32 bs) (w : World) (r : Rng w b o (cat FiR.cells es)) : Cl Try.prog 6 #[.slice A 0 c, .agg (fl bs).toArray] w fun v w' => v = .bool true ∧ Mod [] w w' := by
 refine Cl.of Try.func6 Try.ntmps6 rfl rfl (ρ := [(0, .slice A 0 c), (1, .agg (fl bs).toArray)]) rfl ?_
 refine CE.seq (CE.region ?_)
 refine WL.op (op_box (cs := fl bs) rfl rfl) rfl rfl (ltb rfl) ?_
 rintro _ w1 ⟨rfl, r1, m1, z1⟩
 refine WL.det (op_assign rfl) rfl rfl rfl ?_
 refine WL.end (NE.code (CE.seq (CE.region ?_)))
 refine WL.det (op_assign rfl) rfl rfl rfl ?_
 refine WL.end (NE.code (CE.seq (CE.region ?_)))
 iterate 2 refine WL.det (op_move rfl) rfl rfl rfl ?_
 refine WL.call (oc_call (vs := [.slice A 0 c, vI 1048576]) (cap := []) rfl rfl rfl Try.call38 (c_szFilterS 1048576 0 c A (by omega) (by omega) w1)) rfl rfl (ltb rfl) ?_
 rintro _ _ ⟨rfl, rfl⟩
 refine WL.det (op_assign rfl) rfl rfl rfl ?_
 refine WL.end (NE.code (CE.seq (CE.seq (CE.region ?_))))
 refine WL.det (op_move rfl) rfl rfl rfl ?_
 refine WL.det (op_lti_f rfl rfl (Int.not_lt.2 (Int.natCast_nonneg _))) rfl rfl rfl ?_
 refine WL.end (NE.code ?_)
 refine CE.cond_f rfl rfl ?_
 refine CE.skip' (NE.code (CE.seq ?_))
 refine CE.drawF (fun | 1 => some (fun _ wA uA wB => ∃ (b' : Nat), uA = vS b' 0 0 0 ∧ Row wB b' 0 (cat FiR.cells es) ∧ wA.heap.size ≤ b' ∧ Mod [] wA wB) | 3 => some (fun _ wA uA wB => uA = .agg (fl bs).toArray ∧ Mod [] wA wB) | 4 => some (fun _ wA uA wB => ∃ (b' : Nat) (c' : Nat), uA = .tuple #[vS b' 0 0 c', .agg (fl bs).toArray, vI 0] ∧ Row wB b' 0 [] ∧ wA.heap.size ≤ b' ∧ Mod [] wA wB) | _ => none) [0, 1, 2, 3, 4, 5, 6, 7, 8, 9, 10, 11] [12] [] (fun ρ W => ∃ (e1_1_0 : Nat) (e1_4_0 : Nat) (e1_4_1 : Nat) (e1_9_0 : Nat), ρ = [(0, .slice A 0 c), (3, vP w.heap.size 0), (4, .bool false), (6, vS e1_4_0 0 0 e1_4_1), (7, vP e1_9_0 0), (32, vI 0)] ∧ Row W e1_1_0 0 (cat FiR.cells es) ∧ Row W e1_4_0 0 [] ∧ Row W e1_9_0 0 (fl bs) ∧ w1.heap.size ≤ e1_1_0 ∧ w1.heap.size ≤ e1_4_0 ∧ w1.heap.size ≤ e1_9_0 ∧ e1_1_0 ≠ e1_4_0 ∧ e1_1_0 ≠ e1_9_0 ∧ e1_4_0 ≠ e1_9_0 ∧ Mod [] w1 W) (by kernel_rfl) (by kernel_rfl) ?_ ?_
 have md1 : Mod [] w1 w1.drew := (Mod.refl _ _).drew
 generalize w1.drew = w2 at md1 ⊢
 ·refine DR.det (i := 0) rfl rfl (by kernel_rfl) (.free rfl) rfl rfl (fun wD mD => op_move rfl) ?_
  refine DR.det (i := 2) rfl rfl (by kernel_rfl) (.free rfl) rfl rfl (fun wD mD => op_loadA (i := 0) (cs := fl bs) rfl Try.isAgg74 Try.sizeOf74 ((r1.ext md1).ext mD).rng rfl (fl_whole lb) (fl_len lb)) ?_
  refine DR.fork (is := [1, 9]) (by kernel_rfl) (by decide) (all2 ?_ ?_)
  ·refine DP.call (i := 1) rfl rfl (.free rfl) rfl (ltb rfl) (vs := [.func (.func 40) #[] #[], .slice A 0 c]) rfl ?_
   intro w3 m2
   refine ⟨oc_call (vs := [.slice A 0 c]) (cap := []) rfl rfl rfl Try.call40 (c_toFilterS 0 c A b o es ln hA (by omega) w3 (((r.ext m1).ext md1).ext m2)), ?_⟩
   rintro _ w4 ⟨b'1, rfl, r2, ge1, m3⟩
   refine ⟨(((Mod.refl [] w2).nt m2).nt m3), ?_⟩
   refine DR.call (i := 3) (fun uA => uA = .agg (fl bs).toArray) rfl rfl (by kernel_rfl) (.free rfl) rfl (ltb rfl) ⟨_, rfl⟩ (vs := [.func (.func 41) #[] #[], .agg (fl bs).toArray]) rfl (fun wD mD => oc_call (vs := [.agg (fl bs).toArray]) (cap := []) rfl rfl rfl Try.call41 (c_toBlock bs lb wD)) ?_ ?_
   ·rintro w1 _ w2 m1 ⟨rfl, m2⟩; exact ⟨rfl, m2⟩
   rintro _ rfl
   refine DR.fork (is := [4, 9]) (by kernel_rfl) (by decide) (all2 ?_ ?_)
   ·refine DP.call (i := 4) rfl rfl (.free rfl) rfl (ltb rfl) (vs := [.func (.func 39) #[] #[], vS b'1 0 0 0, .agg (fl bs).toArray]) rfl ?_
    intro w5 m4
    refine ⟨oc_call (vs := [vS b'1 0 0 0, .agg (fl bs).toArray]) (cap := []) rfl rfl rfl Try.call39 (c_sChain0 0 b'1 es bs ln lb (by first | assumption | exact W32.set (by assumption) (by first | assumption | exact wid_lt (by assumption)) | exact W32.zeros _ | exact W32.nil) w5 (r2.ext m4).rng), ?_⟩
    rintro _ w6 ⟨b'2, c'1, rfl, r3, ge2, m5⟩
    refine ⟨(((((Mod.refl [] w2).nt m2).nt m3).nt m4).nt m5), ?_⟩
    refine DR.det (i := 5) rfl rfl (by kernel_rfl) (.free rfl) rfl rfl (fun wD mD => op_move rfl) ?_
    refine DR.det (i := 6) rfl rfl (by kernel_rfl) (.free rfl) rfl rfl (fun wD mD => op_extract rfl rfl) ?_
    refine DR.det (i := 7) rfl rfl (by kernel_rfl) (.free rfl) rfl rfl (fun wD mD => op_extract rfl rfl) ?_
    refine DR.det (i := 8) rfl rfl (by kernel_rfl) (.free rfl) rfl rfl (fun wD mD => op_extract rfl rfl) ?_
    refine DR.one1 (i := 9) rfl rfl (by kernel_rfl) (.free rfl) rfl (ltb rfl) ?_
    intro w7 m6
    refine Op1.mono (op_alloc (cs := fl (List.replicate 16 0)) Try.zeroValue77 rfl) ?_
    rintro _ w8 ⟨rfl, r4, m7, z2⟩
    refine ⟨(((((((Mod.refl [] w2).nt m2).nt m3).nt m4).nt m5).nt m6).nt m7), ?_⟩
    refine DR.det (i := 10) rfl rfl (by kernel_rfl) (.free rfl) rfl rfl (fun wD mD => op_assign rfl) ?_
    refine DR.st1 (i := 11) rfl rfl (by kernel_rfl) (.free rfl) rfl ?_
    intro w9 m8
    refine Op1.mono (op_store (i := 0) (cs := fl bs) rfl rfl rfl Try.sizeOf77 (fl_len lb) (r4.ext m8) rfl (by rw [fl_length, List.length_replicate]; decide) (fl_one _)) ?_
    rintro _ w10 ⟨r5, m9, z3⟩
    have r6 : Row w10 w7.heap.size 0 (fl bs) := Row.congr r5 (splice_all ((fl_len (List.length_replicate)).trans (fl_len (lb)).symm))
    have sz1 := (lT (lT (lT (lT m2.size m3.size) m4.size) m5.size) m6.size)
    refine ⟨(((((((((Mod.refl [] w2).nt m2).nt m3).nt m4).nt m5).nt m6).nt m7).nt m8).then m9 ((aC (.inr (lT sz1 lR)) aN))), ?_⟩
    refine DR.sub [(0, .slice A 0 c), (3, vP w.heap.size 0), (4, .bool false), (6, vS b'2 0 0 c'1), (7, vP w7.heap.size 0), (32, vI 0)] ⟨rfl, rfl, rfl, rfl, rfl, rfl, trivial⟩ ?_
    refine DR.meet rfl ?_
    intro w11 m10
    have sz2 := (lT (lT m4.size m5.size) m6.size)
    have r7 := (((((((r2.ext m4).ext m5).ext m6).ext m7).ext m8).mod m9 (nC (lE (lL (lL r2.lt sz2) lR)) nN)).ext m10)
    have r8 := (((((r3.ext m6).ext m7).ext m8).mod m9 (nC (lE (lL (lL r3.lt m6.size) lR)) nN)).ext m10)
    have sz3 := (lT (lT (lT md1.size m2.size) m3.size) m4.size)
    have sz4 := (lT (lT sz3 m5.size) m6.size)
    exact ⟨b'1, b'2, c'1, w7.heap.size, rfl, r7, r8, (r6.ext m10), (lT (lT md1.size m2.size) ge1), (lT sz3 ge2), (lT sz4 lR), (lE (lL (lL r2.lt m4.size) ge2)), (lE (lL (lL r2.lt sz2) lR)), (lE (lL (lL r3.lt m6.size) lR)), (((((((((((Mod.refl [] w1).nt md1).nt m2).nt m3).nt m4).nt m5).nt m6).nt m7).nt m8).then m9 ((aC (.inr (lT sz4 lR)) aN))).nt m10)⟩
   ·refine DP.op (i := 9) rfl rfl (.free rfl) rfl (ltb rfl) ?_
    intro w12 m11
    refine Op1.mono (op_alloc (cs := fl (List.replicate 16 0)) Try.zeroValue77 rfl) ?_
    rintro _ w13 ⟨rfl, r9, m12, z4⟩
    refine ⟨(((((Mod.refl [] w2).nt m2).nt m3).nt m11).nt m12), ?_⟩
    refine DR.one (i := 4) rfl rfl (by kernel_rfl) (.free rfl) rfl (ltb rfl) (vs := [.func (.func 39) #[] #[], vS b'1 0 0 0, .agg (fl bs).toArray]) rfl ?_
    intro w14 m13
    refine ⟨oc_call (vs := [vS b'1 0 0 0, .agg (fl bs).toArray]) (cap := []) rfl rfl rfl Try.call39 (c_sChain0 0 b'1 es bs ln lb (by first | assumption | exact W32.set (by assumption) (by first | assumption | exact wid_lt (by assumption)) | exact W32.zeros _ | exact W32.nil) w14 (((r2.ext m11).ext m12).ext m13).rng), ?_⟩
    rintro _ w15 ⟨b'3, c'2, rfl, r10, ge3, m14⟩
    refine ⟨(((((((Mod.refl [] w2).nt m2).nt m3).nt m11).nt m12).nt m13).nt m14), ?_⟩
    refine DR.det (i := 5) rfl rfl (by kernel_rfl) (.free rfl) rfl rfl (fun wD mD => op_move rfl) ?_
    refine DR.det (i := 6) rfl rfl (by kernel_rfl) (.free rfl) rfl rfl (fun wD mD => op_extract rfl rfl) ?_
    refine DR.det (i := 7) rfl rfl (by kernel_rfl) (.free rfl) rfl rfl (fun wD mD => op_extract rfl rfl) ?_
    refine DR.det (i := 8) rfl rfl (by kernel_rfl) (.free rfl) rfl rfl (fun wD mD => op_extract rfl rfl) ?_
    refine DR.det (i := 10) rfl rfl (by kernel_rfl) (.free rfl) rfl rfl (fun wD mD => op_assign rfl) ?_
    refine DR.st1 (i := 11) rfl rfl (by kernel_rfl) (.free rfl) rfl ?_
    intro w16 m15
    refine Op1.mono (op_store (i := 0) (cs := fl bs) rfl rfl rfl Try.sizeOf77 (fl_len lb) (((r9.ext m13).ext m14).ext m15) rfl (by rw [fl_length, List.length_replicate]; decide) (fl_one _)) ?_
    rintro _ w17 ⟨r11, m16, z5⟩
    have r12 : Row w17 w12.heap.size 0 (fl bs) := Row.congr r11 (splice_all ((fl_len (List.length_replicate)).trans (fl_len (lb)).symm))
    have sz5 := (lT (lT m2.size m3.size) m11.size)
    refine ⟨(((((((((Mod.refl [] w2).nt m2).nt m3).nt m11).nt m12).nt m13).nt m14).nt m15).then m16 ((aC (.inr (lT sz5 lR)) aN))), ?_⟩
    refine DR.sub [(0, .slice A 0 c), (3, vP w.heap.size 0), (4, .bool false), (6, vS b'3 0 0 c'2), (7, vP w12.heap.size 0), (32, vI 0)] ⟨rfl, rfl, rfl, rfl, rfl, rfl, trivial⟩ ?_
    refine DR.meet rfl ?_
    intro w18 m17
    have r13 := (((((((r2.ext m11).ext m12).ext m13).ext m14).ext m15).mod m16 (nC (lE (lL (lL r2.lt m11.size) lR)) nN)).ext m17)
    have r14 := (((r10.ext m15).mod m16 (nC (lG (lL (lL r9.lt m13.size) ge3)) nN)).ext m17)
    have sz6 := (lT (lT (lT (lT (lT md1.size m2.size) m3.size) m11.size) m12.size) m13.size)
    have sz7 := (lT (lT (lT md1.size m2.size) m3.size) m11.size)
    have sz8 := (lT (lT m11.size m12.size) m13.size)
    exact ⟨b'1, b'3, c'2, w12.heap.size, rfl, r13, r14, (r12.ext m17), (lT (lT md1.size m2.size) ge1), (lT sz6 ge3), (lT sz7 lR), (lE (lL (lL r2.lt sz8) ge3)), (lE (lL (lL r2.lt m11.size) lR)), (lG (lL (lL r9.lt m13.size) ge3)), (((((((((((Mod.refl [] w1).nt md1).nt m2).nt m3).nt m11).nt m12).nt m13).nt m14).nt m15).then m16 ((aC (.inr (lT sz7 lR)) aN))).nt m17)⟩
  ·refine DP.op (i := 9) rfl rfl (.free rfl) rfl (ltb rfl) ?_
   intro w19 m18
   refine Op1.mono (op_alloc (cs := fl (List.replicate 16 0)) Try.zeroValue77 rfl) ?_
   rintro _ w20 ⟨rfl, r15, m19, z6⟩
   refine ⟨(((Mod.refl [] w2).nt m18).nt m19), ?_⟩
   refine DR.one (i := 1) rfl rfl (by kernel_rfl) (.free rfl) rfl (ltb rfl) (vs := [.func (.func 40) #[] #[], .slice A 0 c]) rfl ?_
   intro w21 m20
   refine ⟨oc_call (vs := [.slice A 0 c]) (cap := []) rfl rfl rfl Try.call40 (c_toFilterS 0 c A b o es ln hA (by omega) w21 (((((r.ext m1).ext md1).ext m18).ext m19).ext m20)), ?_⟩
   rintro _ w22 ⟨b'4, rfl, r16, ge4, m21⟩
   refine ⟨(((((Mod.refl [] w2).nt m18).nt m19).nt m20).nt m21), ?_⟩
   refine DR.call (i := 3) (fun uA => uA = .agg (fl bs).toArray) rfl rfl (by kernel_rfl) (.free rfl) rfl (ltb rfl) ⟨_, rfl⟩ (vs := [.func (.func 41) #[] #[], .agg (fl bs).toArray]) rfl (fun wD mD => oc_call (vs := [.agg (fl bs).toArray]) (cap := []) rfl rfl rfl Try.call41 (c_toBlock bs lb wD)) ?_ ?_
   ·rintro w1 _ w2 m1 ⟨rfl, m2⟩; exact ⟨rfl, m2⟩
   rintro _ rfl
   refine DR.one (i := 4) rfl rfl (by kernel_rfl) (.free rfl) rfl (ltb rfl) (vs := [.func (.func 39) #[] #[], vS b'4 0 0 0, .agg (fl bs).toArray]) rfl ?_
   intro w23 m22
   refine ⟨oc_call (vs := [vS b'4 0 0 0, .agg (fl bs).toArray]) (cap := []) rfl rfl rfl Try.call39 (c_sChain0 0 b'4 es bs ln lb (by first | assumption | exact W32.set (by assumption) (by first | assumption | exact wid_lt (by assumption)) | exact W32.zeros _ | exact W32.nil) w23 (r16.ext m22).rng), ?_⟩
   rintro _ w24 ⟨b'5, c'3, rfl, r17, ge5, m23⟩
   refine ⟨(((((((Mod.refl [] w2).nt m18).nt m19).nt m20).nt m21).nt m22).nt m23), ?_⟩
   refine DR.det (i := 5) rfl rfl (by kernel_rfl) (.free rfl) rfl rfl (fun wD mD => op_move rfl) ?_
   refine DR.det (i := 6) rfl rfl (by kernel_rfl) (.free rfl) rfl rfl (fun wD mD => op_extract rfl rfl) ?_
   refine DR.det (i := 7) rfl rfl (by kernel_rfl) (.free rfl) rfl rfl (fun wD mD => op_extract rfl rfl) ?_
   refine DR.det (i := 8) rfl rfl (by kernel_rfl) (.free rfl) rfl rfl (fun wD mD => op_extract rfl rfl) ?_
   refine DR.det (i := 10) rfl rfl (by kernel_rfl) (.free rfl) rfl rfl (fun wD mD => op_assign rfl) ?_
   refine DR.st1 (i := 11) rfl rfl (by kernel_rfl) (.free rfl) rfl ?_
   intro w25 m24
   refine Op1.mono (op_store (i := 0) (cs := fl bs) rfl rfl rfl Try.sizeOf77 (fl_len lb) (((((r15.ext m20).ext m21).ext m22).ext m23).ext m24) rfl (by rw [fl_length, List.length_replicate]; decide) (fl_one _)) ?_
   rintro _ w26 ⟨r18, m25, z7⟩
   have r19 : Row w26 w19.heap.size 0 (fl bs) := Row.congr r18 (splice_all ((fl_len (List.length_replicate)).trans (fl_len (lb)).symm))
   refine ⟨(((((((((Mod.refl [] w2).nt m18).nt m19).nt m20).nt m21).nt m22).nt m23).nt m24).then m25 ((aC (.inr (lT m18.size lR)) aN))), ?_⟩
   refine DR.sub [(0, .slice A 0 c), (3, vP w.heap.size 0), (4, .bool false), (6, vS b'5 0 0 c'3), (7, vP w19.heap.size 0), (32, vI 0)] ⟨rfl, rfl, rfl, rfl, rfl, rfl, trivial⟩ ?_
   refine DR.meet rfl ?_
   intro w27 m26
   have r20 := (((((r16.ext m22).ext m23).ext m24).mod m25 (nC (lG (lL (lL r15.lt m20.size) ge4)) nN)).ext m26)
   have sz9 := (lT (lT m20.size m21.size) m22.size)
   have r21 := (((r17.ext m24).mod m25 (nC (lG (lL (lL r15.lt sz9) ge5)) nN)).ext m26)
   have sz10 := (lT (lT (lT md1.size m18.size) m19.size) m20.size)
   have sz11 := (lT (lT sz10 m21.size) m22.size)
   exact ⟨b'4, b'5, c'3, w19.heap.size, rfl, r20, r21, (r19.ext m26), (lT sz10 ge4), (lT sz11 ge5), (lT (lT md1.size m18.size) lR), (lE (lL (lL r16.lt m22.size) ge5)), (lG (lL (lL r15.lt m20.size) ge4)), (lG (lL (lL r15.lt sz9) ge5)), (((((((((((Mod.refl [] w1).nt md1).nt m18).nt m19).nt m20).nt m21).nt m22).nt m23).nt m24).then m25 ((aC (.inr (lT (lT md1.size m18.size) lR)) aN))).nt m26)⟩
 ·rintro _ w28 ⟨e1_1_0, e1_4_0, e1_4_1, e1_9_0, rfl, rr1_0, rr1_1, rr1_2, ge6, ge7, ge8, ne1, ne2, ne3, m27⟩
  refine WO.det (op_assign rfl) rfl (.free rfl) rfl rfl ?_
  refine WO.end (NE.code (CE.seq (CE.region ?_)))
  refine WL.det (op_move rfl) rfl rfl rfl ?_
  refine WL.call (oc_call (vs := [.slice A 0 c]) (cap := []) rfl rfl rfl Try.call40 (c_toFilterS 0 c A b o es ln hA (by omega) w28 ((r.ext m1).ext m27))) rfl rfl (ltb rfl) ?_
  rintro _ w29 ⟨b'6, rfl, r22, ge9, m28⟩
  refine WL.det (op_assign rfl) rfl rfl rfl ?_
  refine WL.end (NE.code (CE.seq (CE.region ?_)))
  refine WL.det (op_move rfl) rfl rfl rfl ?_
  refine WL.det (op_loadA (i := 0) (cs := fl bs) rfl Try.isAgg74 Try.sizeOf74 ((r1.ext m27).ext m28).rng rfl (fl_whole lb) (fl_len lb)) rfl rfl rfl ?_
  refine WL.call (oc_call (vs := [.agg (fl bs).toArray]) (cap := []) rfl rfl rfl Try.call41 (c_toBlock bs lb w29)) rfl rfl (ltb rfl) ?_
  rintro _ w30 ⟨rfl, m29⟩
  refine WL.call (oc_call (vs := [vS b'6 0 0 0, .agg (fl bs).toArray]) (cap := []) rfl rfl rfl Try.call42 (c_iChain0 0 b'6 es bs ln lb (by first | assumption | exact W32.set (by assumption) (by first | assumption | exact wid_lt (by assumption)) | exact W32.zeros _ | exact W32.nil) w30 (r22.ext m29).rng)) rfl rfl (ltb rfl) ?_
  rintro _ w31 ⟨b'7, c'4, rfl, r23, ge10, m30⟩
  refine WL.det (op_move rfl) rfl rfl rfl ?_
  iterate 3 refine WL.det (op_extract rfl rfl) rfl rfl rfl ?_
  refine WL.op (op_alloc (cs := fl (List.replicate 16 0)) Try.zeroValue77 rfl) rfl rfl (ltb rfl) ?_
  rintro _ w32 ⟨rfl, r24, m31, z8⟩
  refine WL.det (op_assign rfl) rfl rfl rfl ?_
  refine WL.op0 (op_store (i := 0) (cs := fl bs) rfl rfl rfl Try.sizeOf77 (fl_len lb) r24 rfl (by rw [fl_length, List.length_replicate]; decide) (fl_one _)) rfl rfl ?_
  rintro _ w33 ⟨r25, m32, z9⟩
  have r26 : Row w33 w31.heap.size 0 (fl bs) := Row.congr r25 (splice_all ((fl_len (List.length_replicate)).trans (fl_len (lb)).symm))
  refine WL.det (op_assign rfl) rfl rfl rfl ?_
  refine WL.end (NE.code (CE.seq (CE.seq (CE.region ?_))))
  iterate 2 refine WL.det (op_move rfl) rfl rfl rfl ?_
  refine WL.call (oc_call (vs := [vS b'7 0 0 c'4, vS e1_4_0 0 0 e1_4_1]) (cap := []) rfl rfl rfl Try.call43 (c_eqFilterS_00 c'4 b'7 e1_4_1 e1_4_0 w33)) rfl rfl (ltb rfl) ?_
  rintro _ w34 ⟨rfl, m33⟩
  refine WL.det (op_not rfl) rfl rfl rfl ?_
  refine WL.det (op_move rfl) rfl rfl rfl ?_
  refine WL.yes rfl rfl rfl (ltb rfl) rfl rfl ?_
  refine WL.det (op_loadA (i := 0) (cs := fl bs) rfl Try.isAgg77 Try.sizeOf77 (r26.ext m33).rng rfl (fl_whole lb) (fl_len lb)) rfl rfl rfl ?_
  have sz12 := (lT (lT m28.size m29.size) m30.size)
  have r27 := ((((((rr1_2.ext m28).ext m29).ext m30).ext m31).mod m32 (nC (lE (lL (lL rr1_2.lt sz12) lR)) nN)).ext m33)
  refine WL.yes rfl rfl rfl (ltb rfl) rfl rfl ?_
  refine WL.det (op_loadA (i := 0) (cs := fl bs) rfl Try.isAgg77 Try.sizeOf77 r27.rng rfl (fl_whole lb) (fl_len lb)) rfl rfl rfl ?_
  refine WL.yes rfl rfl rfl (ltb rfl) rfl rfl ?_
  refine WL.call (oc_call (vs := [.agg (fl bs).toArray, .agg (fl bs).toArray]) (cap := []) rfl rfl rfl Try.call44 (c_eqBlock_same bs lb w34)) rfl rfl (ltb rfl) ?_
  rintro _ w35 ⟨rfl, m34⟩
  refine WL.yes rfl rfl rfl (ltb rfl) rfl rfl ?_
  refine WL.det (op_not rfl) rfl rfl rfl ?_
  refine WL.det (op_pick_f rfl rfl rfl) rfl rfl rfl ?_
  refine WL.det (op_move rfl) rfl rfl rfl ?_
  refine WL.yes rfl rfl rfl (ltb rfl) rfl rfl ?_
  refine WL.det (op_move rfl) rfl rfl rfl ?_
  refine WL.yes rfl rfl rfl (ltb rfl) rfl rfl ?_
  refine WL.det (op_move rfl) rfl rfl rfl ?_
  refine WL.yes rfl rfl rfl (ltb rfl) rfl rfl ?_
  refine WL.det (op_nei rfl rfl) rfl rfl rfl ?_
  refine WL.det (op_pick_f rfl rfl rfl) rfl rfl rfl ?_
  refine WL.end (NE.code ?_)
  refine CE.cond_f rfl rfl ?_
  refine CE.skip' (NE.code (CE.seq (CE.seq (CE.region ?_))))
  iterate 2 refine WL.det (op_move rfl) rfl rfl rfl ?_
  have sz13 := (lT (lT (lT (lT m1.size m27.size) m28.size) m29.size) m30.size)
  have r28 := (((Rng.youngS r ((((((r.ext m1).ext m27).ext m28).ext m29).ext m30).ext m31) m32 (allge_cons (lT sz13 lR) allge_nil)).ext m33).ext m34)
  refine WL.call (oc_call (vs := [.slice A 0 c]) (cap := []) rfl rfl rfl Try.call40 (c_toFilterS 0 c A b o es ln hA (by omega) w35 r28)) rfl rfl (ltb rfl) ?_
  rintro _ w36 ⟨b'8, rfl, r29, ge11, m35⟩
  refine WL.call (oc_call (vs := [vS b'6 0 0 0, vS b'8 0 0 0]) (cap := []) rfl rfl rfl Try.call43 (c_eqFilterS_00 0 b'6 0 b'8 w36)) rfl rfl (ltb rfl) ?_
  rintro _ w37 ⟨rfl, m36⟩
  refine WL.det (op_not rfl) rfl rfl rfl ?_
  refine WL.end (NE.code ?_)
  refine CE.cond_f rfl rfl ?_
  refine CE.skip' (NE.code (CE.seq (CE.region ?_)))
  refine WL.det (op_assign rfl) rfl rfl rfl ?_
  refine WL.end (NE.code (CE.seq (CE.region ?_)))
  iterate 2 refine WL.det (op_move rfl) rfl rfl rfl ?_
  refine WL.call (oc_call (vs := [vS b'6 0 0 0, vI 1]) (cap := []) rfl rfl rfl Try.call45 (c_markFilterS_0 1 0 b'6 (by omega) w37)) rfl rfl (ltb rfl) ?_
  rintro _ w38 ⟨rfl, m37⟩
  refine WL.det (op_assign rfl) rfl rfl rfl ?_
  refine WL.end (NE.code (CE.seq (CE.seq (CE.region ?_))))
  refine WL.det (op_move rfl) rfl rfl rfl ?_
  refine WL.det (op_lti rfl rfl) rfl rfl rfl ?_
  refine WL.det (op_move rfl) rfl rfl rfl ?_
  refine WL.yes rfl rfl rfl (ltb rfl) rfl rfl ?_
  refine WL.det (op_move rfl) rfl rfl rfl ?_
  refine WL.yes rfl rfl rfl (ltb rfl) rfl rfl ?_
  refine WL.det (op_move rfl) rfl rfl rfl ?_
  refine WL.yes rfl rfl rfl (ltb rfl) rfl rfl ?_
  refine WL.call (oc_call (vs := [vS b'7 0 0 c'4, vS e1_4_0 0 0 e1_4_1]) (cap := []) rfl rfl rfl Try.call43 (c_eqFilterS_00 c'4 b'7 e1_4_1 e1_4_0 w38)) rfl rfl (ltb rfl) ?_
  rintro _ w39 ⟨rfl, m38⟩
  refine WL.yes rfl rfl rfl (ltb rfl) rfl rfl ?_
  refine WL.det (op_not rfl) rfl rfl rfl ?_
  refine WL.det (op_pick_f rfl rfl rfl) rfl rfl rfl ?_
  refine WL.det (op_move rfl) rfl rfl rfl ?_
  have r30 := ((((((r26.ext m33).ext m34).ext m35).ext m36).ext m37).ext m38)
  refine WL.yes rfl rfl rfl (ltb rfl) rfl rfl ?_
  refine WL.det (op_loadA (i := 0) (cs := fl bs) rfl Try.isAgg77 Try.sizeOf77 r30.rng rfl (fl_whole lb) (fl_len lb)) rfl rfl rfl ?_
  have r31 := (((((r27.ext m34).ext m35).ext m36).ext m37).ext m38)
  refine WL.yes rfl rfl rfl (ltb rfl) rfl rfl ?_
  refine WL.det (op_loadA (i := 0) (cs := fl bs) rfl Try.isAgg77 Try.sizeOf77 r31.rng rfl (fl_whole lb) (fl_len lb)) rfl rfl rfl ?_
  refine WL.yes rfl rfl rfl (ltb rfl) rfl rfl ?_
  refine WL.call (oc_call (vs := [.agg (fl bs).toArray, .agg (fl bs).toArray]) (cap := []) rfl rfl rfl Try.call44 (c_eqBlock_same bs lb w39)) rfl rfl (ltb rfl) ?_
  rintro _ w40 ⟨rfl, m39⟩
  refine WL.yes rfl rfl rfl (ltb rfl) rfl rfl ?_
  refine WL.det (op_not rfl) rfl rfl rfl ?_
  refine WL.det (op_pick_f rfl rfl rfl) rfl rfl rfl ?_
  refine WL.det (op_move rfl) rfl rfl rfl ?_
  refine WL.yes rfl rfl rfl (ltb rfl) rfl rfl ?_
  refine WL.det (op_move rfl) rfl rfl rfl ?_
  refine WL.yes rfl rfl rfl (ltb rfl) rfl rfl ?_
  refine WL.det (op_move rfl) rfl rfl rfl ?_
  refine WL.yes rfl rfl rfl (ltb rfl) rfl rfl ?_
  refine WL.det (op_nei rfl rfl) rfl rfl rfl ?_
  refine WL.det (op_pick_f rfl rfl rfl) rfl rfl rfl ?_
  refine WL.end (NE.code ?_)
  refine CE.cond_f rfl rfl ?_
  refine CE.skip' (NE.code (CE.seq (CE.region ?_)))
  refine WL.det (op_assign rfl) rfl rfl rfl ?_
  refine WL.end (NE.code (CE.seq (CE.region ?_)))
  iterate 2 refine WL.det (op_move rfl) rfl rfl rfl ?_
  refine WL.call (oc_call (vs := [vS b'7 0 0 c'4, vI 1]) (cap := []) rfl rfl rfl Try.call45 (c_markFilterS_0 1 c'4 b'7 (by omega) w40)) rfl rfl (ltb rfl) ?_
  rintro _ w41 ⟨rfl, m40⟩
  refine WL.det (op_assign rfl) rfl rfl rfl ?_
  refine WL.end (NE.code (CE.seq (CE.region ?_)))
  refine WL.det (op_assign rfl) rfl rfl rfl ?_
  refine WL.end (NE.code (CE.seq (CE.region ?_)))
  iterate 2 refine WL.det (op_move rfl) rfl rfl rfl ?_
  refine WL.call (oc_call (vs := [vS b'7 0 0 c'4, vI 1]) (cap := []) rfl rfl rfl Try.call46 (c_heldFilterS_0 1 c'4 b'7 (by omega) w41)) rfl rfl (ltb rfl) ?_
  rintro _ w42 ⟨rfl, m41⟩
  refine WL.det (op_assign rfl) rfl rfl rfl ?_
  refine WL.end (NE.code (CE.seq (CE.seq (CE.region ?_))))
  refine WL.det (op_move rfl) rfl rfl rfl ?_
  refine WL.det (op_lti rfl rfl) rfl rfl rfl ?_
  refine WL.end (NE.code ?_)
  refine CE.cond_f rfl rfl ?_
  refine CE.skip' (NE.code (CE.seq (CE.seq (CE.region ?_))))
  iterate 2 refine WL.det (op_move rfl) rfl rfl rfl ?_
  refine WL.det (op_nei rfl rfl) rfl rfl rfl ?_
  refine WL.end (NE.code ?_)
  refine CE.cond_f rfl rfl ?_
  refine CE.skip' (NE.code (CE.seq ?_))
  refine CE.drawF (fun | 1 => some (fun _ wA uA wB => ∃ (b' : Nat), uA = vS b' 0 0 0 ∧ Row wB b' 0 (cat FiR.cells es) ∧ wA.heap.size ≤ b' ∧ Mod [] wA wB) | 3 => some (fun _ wA uA wB => uA = .agg (fl bs).toArray ∧ Mod [] wA wB) | 4 => some (fun _ wA uA wB => ∃ (b' : Nat) (c' : Nat), uA = .tuple #[vS b' 0 0 c', .agg (fl bs).toArray, vI 0] ∧ Row wB b' 0 [] ∧ wA.heap.size ≤ b' ∧ Mod [] wA wB) | _ => none) [0, 1, 2, 3, 4, 5, 6, 7, 8, 9, 10, 11] [12] [] (fun ρ W => ∃ (e2_1_0 : Nat) (e2_4_0 : Nat) (e2_4_1 : Nat) (e2_9_0 : Nat), ρ = [(4, .bool false), (6, vS e1_4_0 0 0 e1_4_1), (7, vP e1_9_0 0), (8, vI 0), (10, vS b'7 0 0 c'4), (14, vI 1), (15, vI 1), (16, vS e2_4_0 0 0 e2_4_1), (17, vP e2_9_0 0), (104, vI 0)] ∧ Row W e2_1_0 0 (cat FiR.cells es) ∧ Row W e2_4_0 0 [] ∧ Row W e2_9_0 0 (fl bs) ∧ w42.heap.size ≤ e2_1_0 ∧ w42.heap.size ≤ e2_4_0 ∧ w42.heap.size ≤ e2_9_0 ∧ e2_1_0 ≠ e2_4_0 ∧ e2_1_0 ≠ e2_9_0 ∧ e2_4_0 ≠ e2_9_0 ∧ Mod [] w42 W) (by kernel_rfl) (by kernel_rfl) ?_ ?_
  have md2 : Mod [] w42 w42.drew := (Mod.refl _ _).drew
  generalize w42.drew = w43 at md2 ⊢
  ·refine DR.det (i := 0) rfl rfl (by kernel_rfl) (.free rfl) rfl rfl (fun wD mD => op_move rfl) ?_
   refine DR.det (i := 2) rfl rfl (by kernel_rfl) (.free rfl) rfl rfl (fun wD mD => op_loadA (i := 0) (cs := fl bs) rfl Try.isAgg74 Try.sizeOf74 (((((((((((((((((r1.ext m27).ext m28).ext m29).ext m30).ext m31).mod m32 (nC (lE (lL (lL r1.lt (lT (lT (lT m27.size m28.size) m29.size) m30.size)) lR)) nN)).ext m33).ext m34).ext m35).ext m36).ext m37).ext m38).ext m39).ext m40).ext m41).ext md2).ext mD).rng rfl (fl_whole lb) (fl_len lb)) ?_
   refine DR.fork (is := [1, 9]) (by kernel_rfl) (by decide) (all2 ?_ ?_)
   ·refine DP.call (i := 1) rfl rfl (.free rfl) rfl (ltb rfl) (vs := [.func (.func 40) #[] #[], .slice A 0 c]) rfl ?_
    intro w44 m42
    refine ⟨oc_call (vs := [.slice A 0 c]) (cap := []) rfl rfl rfl Try.call40 (c_toFilterS 0 c A b o es ln hA (by omega) w44 (((((((((r28.ext m35).ext m36).ext m37).ext m38).ext m39).ext m40).ext m41).ext md2).ext m42)), ?_⟩
    rintro _ w45 ⟨b'9, rfl, r32, ge12, m43⟩
    refine ⟨(((Mod.refl [] w43).nt m42).nt m43), ?_⟩
    refine DR.call (i := 3) (fun uA => uA = .agg (fl bs).toArray) rfl rfl (by kernel_rfl) (.free rfl) rfl (ltb rfl) ⟨_, rfl⟩ (vs := [.func (.func 41) #[] #[], .agg (fl bs).toArray]) rfl (fun wD mD => oc_call (vs := [.agg (fl bs).toArray]) (cap := []) rfl rfl rfl Try.call41 (c_toBlock bs lb wD)) ?_ ?_
    ·rintro w1 _ w2 m1 ⟨rfl, m2⟩; exact ⟨rfl, m2⟩
    rintro _ rfl
    refine DR.fork (is := [4, 9]) (by kernel_rfl) (by decide) (all2 ?_ ?_)
    ·refine DP.call (i := 4) rfl rfl (.free rfl) rfl (ltb rfl) (vs := [.func (.func 42) #[] #[], vS b'9 0 0 0, .agg (fl bs).toArray]) rfl ?_
     intro w46 m44
     refine ⟨oc_call (vs := [vS b'9 0 0 0, .agg (fl bs).toArray]) (cap := []) rfl rfl rfl Try.call42 (c_iChain0 0 b'9 es bs ln lb (by first | assumption | exact W32.set (by assumption) (by first | assumption | exact wid_lt (by assumption)) | exact W32.zeros _ | exact W32.nil) w46 (r32.ext m44).rng), ?_⟩
     rintro _ w47 ⟨b'10, c'5, rfl, r33, ge13, m45⟩
     refine ⟨(((((Mod.refl [] w43).nt m42).nt m43).nt m44).nt m45), ?_⟩
     refine DR.det (i := 5) rfl rfl (by kernel_rfl) (.free rfl) rfl rfl (fun wD mD => op_move rfl) ?_
     refine DR.det (i := 6) rfl rfl (by kernel_rfl) (.free rfl) rfl rfl (fun wD mD => op_extract rfl rfl) ?_
     refine DR.det (i := 7) rfl rfl (by kernel_rfl) (.free rfl) rfl rfl (fun wD mD => op_extract rfl rfl) ?_
     refine DR.det (i := 8) rfl rfl (by kernel_rfl) (.free rfl) rfl rfl (fun wD mD => op_extract rfl rfl) ?_
     refine DR.one1 (i := 9) rfl rfl (by kernel_rfl) (.free rfl) rfl (ltb rfl) ?_
     intro w48 m46
     refine Op1.mono (op_alloc (cs := fl (List.replicate 16 0)) Try.zeroValue77 rfl) ?_
     rintro _ w49 ⟨rfl, r34, m47, z10⟩
     refine ⟨(((((((Mod.refl [] w43).nt m42).nt m43).nt m44).nt m45).nt m46).nt m47), ?_⟩
     refine DR.det (i := 10) rfl rfl (by kernel_rfl) (.free rfl) rfl rfl (fun wD mD => op_assign rfl) ?_
     refine DR.st1 (i := 11) rfl rfl (by kernel_rfl) (.free rfl) rfl ?_
     intro w50 m48
     refine Op1.mono (op_store (i := 0) (cs := fl bs) rfl rfl rfl Try.sizeOf77 (fl_len lb) (r34.ext m48) rfl (by rw [fl_length, List.length_replicate]; decide) (fl_one _)) ?_
     rintro _ w51 ⟨r35, m49, z11⟩
     have r36 : Row w51 w48.heap.size 0 (fl bs) := Row.congr r35 (splice_all ((fl_len (List.length_replicate)).trans (fl_len (lb)).symm))
     have sz14 := (lT (lT (lT (lT m42.size m43.size) m44.size) m45.size) m46.size)
     refine ⟨(((((((((Mod.refl [] w43).nt m42).nt m43).nt m44).nt m45).nt m46).nt m47).nt m48).then m49 ((aC (.inr (lT sz14 lR)) aN))), ?_⟩
     refine DR.sub [(4, .bool false), (6, vS e1_4_0 0 0 e1_4_1), (7, vP e1_9_0 0), (8, vI 0), (10, vS b'7 0 0 c'4), (14, vI 1), (15, vI 1), (16, vS b'10 0 0 c'5), (17, vP w48.heap.size 0), (104, vI 0)] ⟨rfl, rfl, rfl, rfl, rfl, rfl, rfl, rfl, rfl, rfl, trivial⟩ ?_
     refine DR.meet rfl ?_
     intro w52 m50
     have sz15 := (lT (lT m44.size m45.size) m46.size)
     have r37 := (((((((r32.ext m44).ext m45).ext m46).ext m47).ext m48).mod m49 (nC (lE (lL (lL r32.lt sz15) lR)) nN)).ext m50)
     have r38 := (((((r33.ext m46).ext m47).ext m48).mod m49 (nC (lE (lL (lL r33.lt m46.size) lR)) nN)).ext m50)
     have sz16 := (lT (lT (lT md2.size m42.size) m43.size) m44.size)
     have sz17 := (lT (lT sz16 m45.size) m46.size)
     exact ⟨b'9, b'10, c'5, w48.heap.size, rfl, r37, r38, (r36.ext m50), (lT (lT md2.size m42.size) ge12), (lT sz16 ge13), (lT sz17 lR), (lE (lL (lL r32.lt m44.size) ge13)), (lE (lL (lL r32.lt sz15) lR)), (lE (lL (lL r33.lt m46.size) lR)), (((((((((((Mod.refl [] w42).nt md2).nt m42).nt m43).nt m44).nt m45).nt m46).nt m47).nt m48).then m49 ((aC (.inr (lT sz17 lR)) aN))).nt m50)⟩
    ·refine DP.op (i := 9) rfl rfl (.free rfl) rfl (ltb rfl) ?_
     intro w53 m51
     refine Op1.mono (op_alloc (cs := fl (List.replicate 16 0)) Try.zeroValue77 rfl) ?_
     rintro _ w54 ⟨rfl, r39, m52, z12⟩
     refine ⟨(((((Mod.refl [] w43).nt m42).nt m43).nt m51).nt m52), ?_⟩
     refine DR.one (i := 4) rfl rfl (by kernel_rfl) (.free rfl) rfl (ltb rfl) (vs := [.func (.func 42) #[] #[], vS b'9 0 0 0, .agg (fl bs).toArray]) rfl ?_
     intro w55 m53
     refine ⟨oc_call (vs := [vS b'9 0 0 0, .agg (fl bs).toArray]) (cap := []) rfl rfl rfl Try.call42 (c_iChain0 0 b'9 es bs ln lb (by first | assumption | exact W32.set (by assumption) (by first | assumption | exact wid_lt (by assumption)) | exact W32.zeros _ | exact W32.nil) w55 (((r32.ext m51).ext m52).ext m53).rng), ?_⟩
     rintro _ w56 ⟨b'11, c'6, rfl, r40, ge14, m54⟩
     refine ⟨(((((((Mod.refl [] w43).nt m42).nt m43).nt m51).nt m52).nt m53).nt m54), ?_⟩
     refine DR.det (i := 5) rfl rfl (by kernel_rfl) (.free rfl) rfl rfl (fun wD mD => op_move rfl) ?_
     refine DR.det (i := 6) rfl rfl (by kernel_rfl) (.free rfl) rfl rfl (fun wD mD => op_extract rfl rfl) ?_
     refine DR.det (i := 7) rfl rfl (by kernel_rfl) (.free rfl) rfl rfl (fun wD mD => op_extract rfl rfl) ?_
     refine DR.det (i := 8) rfl rfl (by kernel_rfl) (.free rfl) rfl rfl (fun wD mD => op_extract rfl rfl) ?_
     refine DR.det (i := 10) rfl rfl (by kernel_rfl) (.free rfl) rfl rfl (fun wD mD => op_assign rfl) ?_
     refine DR.st1 (i := 11) rfl rfl (by kernel_rfl) (.free rfl) rfl ?_
     intro w57 m55
     refine Op1.mono (op_store (i := 0) (cs := fl bs) rfl rfl rfl Try.sizeOf77 (fl_len lb) (((r39.ext m53).ext m54).ext m55) rfl (by rw [fl_length, List.length_replicate]; decide) (fl_one _)) ?_
     rintro _ w58 ⟨r41, m56, z13⟩
     have r42 : Row w58 w53.heap.size 0 (fl bs) := Row.congr r41 (splice_all ((fl_len (List.length_replicate)).trans (fl_len (lb)).symm))
     have sz18 := (lT (lT m42.size m43.size) m51.size)
     refine ⟨(((((((((Mod.refl [] w43).nt m42).nt m43).nt m51).nt m52).nt m53).nt m54).nt m55).then m56 ((aC (.inr (lT sz18 lR)) aN))), ?_⟩
     refine DR.sub [(4, .bool false), (6, vS e1_4_0 0 0 e1_4_1), (7, vP e1_9_0 0), (8, vI 0), (10, vS b'7 0 0 c'4), (14, vI 1), (15, vI 1), (16, vS b'11 0 0 c'6), (17, vP w53.heap.size 0), (104, vI 0)] ⟨rfl, rfl, rfl, rfl, rfl, rfl, rfl, rfl, rfl, rfl, trivial⟩ ?_
     refine DR.meet rfl ?_
     intro w59 m57
     have r43 := (((((((r32.ext m51).ext m52).ext m53).ext m54).ext m55).mod m56 (nC (lE (lL (lL r32.lt m51.size) lR)) nN)).ext m57)
     have r44 := (((r40.ext m55).mod m56 (nC (lG (lL (lL r39.lt m53.size) ge14)) nN)).ext m57)
     have sz19 := (lT (lT (lT (lT (lT md2.size m42.size) m43.size) m51.size) m52.size) m53.size)
     have sz20 := (lT (lT (lT md2.size m42.size) m43.size) m51.size)
     have sz21 := (lT (lT m51.size m52.size) m53.size)
     exact ⟨b'9, b'11, c'6, w53.heap.size, rfl, r43, r44, (r42.ext m57), (lT (lT md2.size m42.size) ge12), (lT sz19 ge14), (lT sz20 lR), (lE (lL (lL r32.lt sz21) ge14)), (lE (lL (lL r32.lt m51.size) lR)), (lG (lL (lL r39.lt m53.size) ge14)), (((((((((((Mod.refl [] w42).nt md2).nt m42).nt m43).nt m51).nt m52).nt m53).nt m54).nt m55).then m56 ((aC (.inr (lT sz20 lR)) aN))).nt m57)⟩
   ·refine DP.op (i := 9) rfl rfl (.free rfl) rfl (ltb rfl) ?_
    intro w60 m58
    refine Op1.mono (op_alloc (cs := fl (List.replicate 16 0)) Try.zeroValue77 rfl) ?_
    rintro _ w61 ⟨rfl, r45, m59, z14⟩
    refine ⟨(((Mod.refl [] w43).nt m58).nt m59), ?_⟩
    refine DR.one (i := 1) rfl rfl (by kernel_rfl) (.free rfl) rfl (ltb rfl) (vs := [.func (.func 40) #[] #[], .slice A 0 c]) rfl ?_
    intro w62 m60
    refine ⟨oc_call (vs := [.slice A 0 c]) (cap := []) rfl rfl rfl Try.call40 (c_toFilterS 0 c A b o es ln hA (by omega) w62 (((((((((((r28.ext m35).ext m36).ext m37).ext m38).ext m39).ext m40).ext m41).ext md2).ext m58).ext m59).ext m60)), ?_⟩
    rintro _ w63 ⟨b'12, rfl, r46, ge15, m61⟩
    refine ⟨(((((Mod.refl [] w43).nt m58).nt m59).nt m60).nt m61), ?_⟩
    refine DR.call (i := 3) (fun uA => uA = .agg (fl bs).toArray) rfl rfl (by kernel_rfl) (.free rfl) rfl (ltb rfl) ⟨_, rfl⟩ (vs := [.func (.func 41) #[] #[], .agg (fl bs).toArray]) rfl (fun wD mD => oc_call (vs := [.agg (fl bs).toArray]) (cap := []) rfl rfl rfl Try.call41 (c_toBlock bs lb wD)) ?_ ?_
    ·rintro w1 _ w2 m1 ⟨rfl, m2⟩; exact ⟨rfl, m2⟩
    rintro _ rfl
    refine DR.one (i := 4) rfl rfl (by kernel_rfl) (.free rfl) rfl (ltb rfl) (vs := [.func (.func 42) #[] #[], vS b'12 0 0 0, .agg (fl bs).toArray]) rfl ?_
    intro w64 m62
    refine ⟨oc_call (vs := [vS b'12 0 0 0, .agg (fl bs).toArray]) (cap := []) rfl rfl rfl Try.call42 (c_iChain0 0 b'12 es bs ln lb (by first | assumption | exact W32.set (by assumption) (by first | assumption | exact wid_lt (by assumption)) | exact W32.zeros _ | exact W32.nil) w64 (r46.ext m62).rng), ?_⟩
    rintro _ w65 ⟨b'13, c'7, rfl, r47, ge16, m63⟩
    refine ⟨(((((((Mod.refl [] w43).nt m58).nt m59).nt m60).nt m61).nt m62).nt m63), ?_⟩
    refine DR.det (i := 5) rfl rfl (by kernel_rfl) (.free rfl) rfl rfl (fun wD mD => op_move rfl) ?_
    refine DR.det (i := 6) rfl rfl (by kernel_rfl) (.free rfl) rfl rfl (fun wD mD => op_extract rfl rfl) ?_
    refine DR.det (i := 7) rfl rfl (by kernel_rfl) (.free rfl) rfl rfl (fun wD mD => op_extract rfl rfl) ?_
    refine DR.det (i := 8) rfl rfl (by kernel_rfl) (.free rfl) rfl rfl (fun wD mD => op_extract rfl rfl) ?_
    refine DR.det (i := 10) rfl rfl (by kernel_rfl) (.free rfl) rfl rfl (fun wD mD => op_assign rfl) ?_
    refine DR.st1 (i := 11) rfl rfl (by kernel_rfl) (.free rfl) rfl ?_
    intro w66 m64
    refine Op1.mono (op_store (i := 0) (cs := fl bs) rfl rfl rfl Try.sizeOf77 (fl_len lb) (((((r45.ext m60).ext m61).ext m62).ext m63).ext m64) rfl (by rw [fl_length, List.length_replicate]; decide) (fl_one _)) ?_
    rintro _ w67 ⟨r48, m65, z15⟩
    have r49 : Row w67 w60.heap.size 0 (fl bs) := Row.congr r48 (splice_all ((fl_len (List.length_replicate)).trans (fl_len (lb)).symm))
    refine ⟨(((((((((Mod.refl [] w43).nt m58).nt m59).nt m60).nt m61).nt m62).nt m63).nt m64).then m65 ((aC (.inr (lT m58.size lR)) aN))), ?_⟩
    refine DR.sub [(4, .bool false), (6, vS e1_4_0 0 0 e1_4_1), (7, vP e1_9_0 0), (8, vI 0), (10, vS b'7 0 0 c'4), (14, vI 1), (15, vI 1), (16, vS b'13 0 0 c'7), (17, vP w60.heap.size 0), (104, vI 0)] ⟨rfl, rfl, rfl, rfl, rfl, rfl, rfl, rfl, rfl, rfl, trivial⟩ ?_
    refine DR.meet rfl ?_
    intro w68 m66
    have r50 := (((((r46.ext m62).ext m63).ext m64).mod m65 (nC (lG (lL (lL r45.lt m60.size) ge15)) nN)).ext m66)
    have sz22 := (lT (lT m60.size m61.size) m62.size)
    have r51 := (((r47.ext m64).mod m65 (nC (lG (lL (lL r45.lt sz22) ge16)) nN)).ext m66)
    have sz23 := (lT (lT (lT md2.size m58.size) m59.size) m60.size)
    have sz24 := (lT (lT sz23 m61.size) m62.size)
    exact ⟨b'12, b'13, c'7, w60.heap.size, rfl, r50, r51, (r49.ext m66), (lT sz23 ge15), (lT sz24 ge16), (lT (lT md2.size m58.size) lR), (lE (lL (lL r46.lt m62.size) ge16)), (lG (lL (lL r45.lt m60.size) ge15)), (lG (lL (lL r45.lt sz22) ge16)), (((((((((((Mod.refl [] w42).nt md2).nt m58).nt m59).nt m60).nt m61).nt m62).nt m63).nt m64).then m65 ((aC (.inr (lT (lT md2.size m58.size) lR)) aN))).nt m66)⟩
  ·rintro _ w69 ⟨e2_1_0, e2_4_0, e2_4_1, e2_9_0, rfl, rr2_0, rr2_1, rr2_2, ge17, ge18, ge19, ne4, ne5, ne6, m67⟩
   refine WO.det (op_assign rfl) rfl (.free rfl) rfl rfl ?_
   refine WO.end (NE.code (CE.seq (CE.seq (CE.region ?_))))
   iterate 2 refine WL.det (op_move rfl) rfl rfl rfl ?_
   refine WL.call (oc_call (vs := [vS e2_4_0 0 0 e2_4_1, vS e1_4_0 0 0 e1_4_1]) (cap := []) rfl rfl rfl Try.call43 (c_eqFilterS_00 e2_4_1 e2_4_0 e1_4_1 e1_4_0 w69)) rfl rfl (ltb rfl) ?_
   rintro _ w70 ⟨rfl, m68⟩
   refine WL.det (op_not rfl) rfl rfl rfl ?_
   refine WL.det (op_move rfl) rfl rfl rfl ?_
   refine WL.yes rfl rfl rfl (ltb rfl) rfl rfl ?_
   refine WL.det (op_loadA (i := 0) (cs := fl bs) rfl Try.isAgg77 Try.sizeOf77 (rr2_2.ext m68).rng rfl (fl_whole lb) (fl_len lb)) rfl rfl rfl ?_
   have r52 := (((((r31.ext m39).ext m40).ext m41).ext m67).ext m68)
   refine WL.yes rfl rfl rfl (ltb rfl) rfl rfl ?_
   refine WL.det (op_loadA (i := 0) (cs := fl bs) rfl Try.isAgg77 Try.sizeOf77 r52.rng rfl (fl_whole lb) (fl_len lb)) rfl rfl rfl ?_
   refine WL.yes rfl rfl rfl (ltb rfl) rfl rfl ?_
   refine WL.call (oc_call (vs := [.agg (fl bs).toArray, .agg (fl bs).toArray]) (cap := []) rfl rfl rfl Try.call44 (c_eqBlock_same bs lb w70)) rfl rfl (ltb rfl) ?_
   rintro _ w71 ⟨rfl, m69⟩
   refine WL.yes rfl rfl rfl (ltb rfl) rfl rfl ?_
   refine WL.det (op_not rfl) rfl rfl rfl ?_
   refine WL.det (op_pick_f rfl rfl rfl) rfl rfl rfl ?_
   refine WL.det (op_move rfl) rfl rfl rfl ?_
   refine WL.yes rfl rfl rfl (ltb rfl) rfl rfl ?_
   refine WL.det (op_move rfl) rfl rfl rfl ?_
   refine WL.yes rfl rfl rfl (ltb rfl) rfl rfl ?_
   refine WL.det (op_move rfl) rfl rfl rfl ?_
   refine WL.yes rfl rfl rfl (ltb rfl) rfl rfl ?_
   refine WL.det (op_nei rfl rfl) rfl rfl rfl ?_
   refine WL.det (op_pick_f rfl rfl rfl) rfl rfl rfl ?_
   refine WL.end (NE.code ?_)
   refine CE.cond_f rfl rfl ?_
   refine CE.skip' (NE.code (CE.seq (CE.region ?_)))
   refine WL.det (op_assign rfl) rfl rfl rfl ?_
   refine WL.end (NE.code (CE.seq (CE.region ?_)))
   iterate 2 refine WL.det (op_move rfl) rfl rfl rfl ?_
   refine WL.call (oc_call (vs := [vS b'7 0 0 c'4, vI 1]) (cap := []) rfl rfl rfl Try.call46 (c_heldFilterS_0 1 c'4 b'7 (by omega) w71)) rfl rfl (ltb rfl) ?_
   rintro _ w72 ⟨rfl, m70⟩
   refine WL.det (op_assign rfl) rfl rfl rfl ?_
   refine WL.end (NE.code (CE.seq (CE.seq (CE.region ?_))))
   refine WL.det (op_move rfl) rfl rfl rfl ?_
   refine WL.det (op_lti rfl rfl) rfl rfl rfl ?_
   refine WL.end (NE.code ?_)
   refine CE.cond_f rfl rfl ?_
   refine CE.skip' (NE.code (CE.seq (CE.seq (CE.region ?_))))
   iterate 2 refine WL.det (op_move rfl) rfl rfl rfl ?_
   refine WL.det (op_nei rfl rfl) rfl rfl rfl ?_
   refine WL.end (NE.code ?_)
   refine CE.cond_f rfl rfl ?_
   refine CE.skip' (NE.code (CE.seq (CE.region ?_)))
   refine WL.det (op_assign rfl) rfl rfl rfl ?_
   refine WL.end (NE.code (CE.ret' ?_))
   refine XE.leave1 Try.results6 rfl ?_
   refine ⟨rfl, (((((((((((((((((((((Mod.refl [] w).nt m1).nt m27).nt m28).nt m29).nt m30).nt m31).then m32 ((aC (.inr (lT sz13 lR)) aN))).nt m33).nt m34).nt m35).nt m36).nt m37).nt m38).nt m39).nt m40).nt m41).nt m67).nt m68).nt m69).nt m70)⟩

end Go.Proofs.Ytnpkhjafnjpnmaa
