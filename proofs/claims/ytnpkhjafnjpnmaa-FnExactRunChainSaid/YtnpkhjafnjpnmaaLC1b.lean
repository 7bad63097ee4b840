/- The law on chains, walked (good). -/
import Derived.Test.YtnpkhjafnjpnmaaC2
import Derived.Test.YtnpkhjafnjpnmaaE8
import Derived.Test.YtnpkhjafnjpnmaaE13
set_option linter.unusedVariables false
set_option linter.unusedSimpArgs false
set_option maxRecDepth 100000
set_option maxHeartbeats 8000000
namespace Go.Proofs.Ytnpkhjafnjpnmaa

theorem law_chain (n : Nat) (c : Nat) (A : Option Addr) (b : Nat) (o : Nat) (es : List FiR) (bs : List Nat) (fs : List FiR) (ob : List Nat) (ln : es.length = n) (hA : 0 < n → A = some ⟨b, o, none⟩) (lb : bs.length = 16) (wb : W32 bs) (hn : n ≤ 1048576) (h0 : 0 < n) (h6 : n ≤ 6) (hv : vFils es n = true) (hW : ∀ i, (es.getD i FiR.d).s0 < wid .f32 ∧ (es.getD i FiR.d).s1 < wid .f32) (efs : fs = chF es bs n) (eob : ob = chB es bs n) (lfs : fs.length = n) (w : World) (r : Rng w b o (cat FiR.cells es)) : Cl Try.prog 6 #[.slice A n c, .agg (fl bs).toArray] w fun v w' => v = .bool true ∧ Mod [] w w' := by
 refine Cl.of Try.func6 Try.ntmps6 rfl rfl (ρ := [(0, .slice A n c), (1, .agg (fl bs).toArray)]) rfl ?_
 refine CE.seq (CE.region ?_)
 refine WL.op (op_box (cs := fl bs) rfl rfl) rfl rfl (ltb rfl) ?_
 rintro _ w1 ⟨rfl, r1, m1, z1⟩
 refine WL.det (op_assign rfl) rfl rfl rfl ?_
 refine WL.end (NE.code (CE.seq (CE.region ?_)))
 refine WL.det (op_assign rfl) rfl rfl rfl ?_
 refine WL.end (NE.code (CE.seq (CE.region ?_)))
 iterate 2 refine WL.det (op_move rfl) rfl rfl rfl ?_
 refine WL.call (oc_call (vs := [.slice A n c, vI 1048576]) (cap := []) rfl rfl rfl Try.call38 (c_szFilterS 1048576 n c A hn (by omega) w1)) rfl rfl (ltb rfl) ?_
 rintro _ _ ⟨rfl, rfl⟩
 refine WL.det (op_assign rfl) rfl rfl rfl ?_
 refine WL.end (NE.code (CE.seq (CE.seq (CE.region ?_))))
 refine WL.det (op_move rfl) rfl rfl rfl ?_
 refine WL.det (op_lti_f rfl rfl (Int.not_lt.2 (Int.natCast_nonneg _))) rfl rfl rfl ?_
 refine WL.end (NE.code ?_)
 refine CE.cond_f rfl rfl ?_
 refine CE.skip' (NE.code (CE.seq ?_))
 refine CE.drawF (fun | 1 => some (fun _ wA uA wB => ∃ (b' : Nat), uA = vS b' 0 n n ∧ Row wB b' 0 (cat FiR.cells es) ∧ wA.heap.size ≤ b' ∧ Mod [] wA wB) | 3 => some (fun _ wA uA wB => uA = .agg (fl bs).toArray ∧ Mod [] wA wB) | 4 => some (fun _ wA uA wB => ∃ (b' : Nat) (c' : Nat) (ys : List Nat), uA = .tuple #[vS b' 0 n c', .agg (fl ys).toArray, vI 0] ∧ (ys.length = 16) ∧ (W32 ys) ∧ (CnB ys ob) ∧ Row wB b' 0 (cat FiR.cells fs) ∧ wA.heap.size ≤ b' ∧ Mod [] wA wB) | _ => none) [0, 1, 2, 3, 4, 5, 6, 7, 8, 9, 10, 11] [12] [] (fun ρ W => ∃ (e1_1_0 : Nat) (e1_4_0 : Nat) (e1_4_1 : Nat) (e1_4_2 : List Nat) (e1_9_0 : Nat), ρ = [(0, .slice A n c), (3, vP w.heap.size 0), (4, .bool false), (6, vS e1_4_0 0 n e1_4_1), (7, vP e1_9_0 0), (32, vI 0)] ∧ Row W e1_1_0 0 (cat FiR.cells es) ∧ Row W e1_4_0 0 (cat FiR.cells fs) ∧ Row W e1_9_0 0 (fl e1_4_2) ∧ w1.heap.size ≤ e1_1_0 ∧ w1.heap.size ≤ e1_4_0 ∧ w1.heap.size ≤ e1_9_0 ∧ e1_1_0 ≠ e1_4_0 ∧ e1_1_0 ≠ e1_9_0 ∧ e1_4_0 ≠ e1_9_0 ∧ (e1_4_2.length = 16) ∧ (W32 e1_4_2) ∧ (CnB e1_4_2 ob) ∧ Mod [] w1 W) (by kernel_rfl) (by kernel_rfl) ?_ ?_
 have md1 : Mod [] w1 w1.drew := (Mod.refl _ _).drew
 generalize w1.drew = w2 at md1 ⊢
 ·refine DR.det (i := 0) rfl rfl (by kernel_rfl) (.free rfl) rfl rfl (fun wD mD => op_move rfl) ?_
  refine DR.det (i := 2) rfl rfl (by kernel_rfl) (.free rfl) rfl rfl (fun wD mD => op_loadA (i := 0) (cs := fl bs) rfl Try.isAgg74 Try.sizeOf74 ((r1.ext md1).ext mD).rng rfl (fl_whole lb) (fl_len lb)) ?_
  refine DR.fork (is := [1, 9]) (by kernel_rfl) (by decide) (all2 ?_ ?_)
  ·refine DP.call (i := 1) rfl rfl (.free rfl) rfl (ltb rfl) (vs := [.func (.func 40) #[] #[], .slice A n c]) rfl ?_
   intro w3 m2
   refine ⟨oc_call (vs := [.slice A n c]) (cap := []) rfl rfl rfl Try.call40 (c_toFilterS n c A b o es ln hA hn w3 (((r.ext m1).ext md1).ext m2)), ?_⟩
   rintro _ w4 ⟨b'1, rfl, r2, ge1, m3⟩
   refine ⟨(((Mod.refl [] w2).nt m2).nt m3), ?_⟩
   refine DR.call (i := 3) (fun uA => uA = .agg (fl bs).toArray) rfl rfl (by kernel_rfl) (.free rfl) rfl (ltb rfl) ⟨_, rfl⟩ (vs := [.func (.func 41) #[] #[], .agg (fl bs).toArray]) rfl (fun wD mD => oc_call (vs := [.agg (fl bs).toArray]) (cap := []) rfl rfl rfl Try.call41 (c_toBlock bs lb wD)) ?_ ?_
   ·rintro w1 _ w2 m1 ⟨rfl, m2⟩; exact ⟨rfl, m2⟩
   rintro _ rfl
   refine DR.fork (is := [4, 9]) (by kernel_rfl) (by decide) (all2 ?_ ?_)
   ·refine DP.call (i := 4) rfl rfl (.free rfl) rfl (ltb rfl) (vs := [.func (.func 39) #[] #[], vS b'1 0 n n, .agg (fl bs).toArray]) rfl ?_
    intro w5 m4
    refine ⟨oc_call (vs := [vS b'1 0 n n, .agg (fl bs).toArray]) (cap := []) rfl rfl rfl Try.call39 (c_sChain n n b'1 es bs fs ob ln hn hW lb (by first | assumption | exact W32.set (by assumption) (by first | assumption | exact wid_lt (by assumption)) | exact W32.zeros _ | exact W32.nil) (by first | assumption | omega) (by first | assumption | omega) hv efs eob lfs w5 (r2.ext m4).rng), ?_⟩
    rintro _ w6 ⟨b'2, c'1, ys1, rfl, h1, h2, h3, r3, ge2, m5⟩
    refine ⟨(((((Mod.refl [] w2).nt m2).nt m3).nt m4).nt m5), ?_⟩
    refine DR.det (i := 5) rfl rfl (by kernel_rfl) (.free rfl) rfl rfl (fun wD mD => op_move rfl) ?_
    refine DR.det (i := 6) rfl rfl (by kernel_rfl) (.free rfl) rfl rfl (fun wD mD => op_extract rfl rfl) ?_
    refine DR.det (i := 7) rfl rfl (by kernel_rfl) (.free rfl) rfl rfl (fun wD mD => op_extract rfl rfl) ?_
    refine DR.det (i := 8) rfl rfl (by kernel_rfl) (.free rfl) rfl rfl (fun wD mD => op_extract rfl rfl) ?_
    refine DR.one1 (i := 9) rfl rfl (by kernel_rfl) (.free rfl) rfl (ltb rfl) ?_
    intro w7 m6
    refine Op1.mono (op_alloc (cs := fl (List.replicate 16 0)) Try.zeroValue77 rfl) ?_
    rintro _ w8 ⟨rfl, r4, m7, z2⟩
    refine ⟨(((((((Mod.refl [] w2).nt m2).nt m3).nt m4).nt m5).nt m6).nt m7), ?_⟩
    refine DR.det (i := 10) rfl rfl (by kernel_rfl) (.free rfl) rfl rfl (fun wD mD => op_assign rfl) ?_
    refine DR.st1 (i := 11) rfl rfl (by kernel_rfl) (.free rfl) rfl ?_
    intro w9 m8
    refine Op1.mono (op_store (i := 0) (cs := fl ys1) rfl rfl rfl Try.sizeOf77 (fl_len h1) (r4.ext m8) rfl (by rw [fl_length, List.length_replicate]; decide) (fl_one _)) ?_
    rintro _ w10 ⟨r5, m9, z3⟩
    have r6 : Row w10 w7.heap.size 0 (fl ys1) := Row.congr r5 (splice_all ((fl_len (List.length_replicate)).trans (fl_len (h1)).symm))
    have sz1 := (lT (lT (lT (lT m2.size m3.size) m4.size) m5.size) m6.size)
    refine ⟨(((((((((Mod.refl [] w2).nt m2).nt m3).nt m4).nt m5).nt m6).nt m7).nt m8).then m9 ((aC (.inr (lT sz1 lR)) aN))), ?_⟩
    refine DR.sub [(0, .slice A n c), (3, vP w.heap.size 0), (4, .bool false), (6, vS b'2 0 n c'1), (7, vP w7.heap.size 0), (32, vI 0)] ⟨rfl, rfl, rfl, rfl, rfl, rfl, trivial⟩ ?_
    refine DR.meet rfl ?_
    intro w11 m10
    have sz2 := (lT (lT m4.size m5.size) m6.size)
    have r7 := (((((((r2.ext m4).ext m5).ext m6).ext m7).ext m8).mod m9 (nC (lE (lL (lL r2.lt sz2) lR)) nN)).ext m10)
    have r8 := (((((r3.ext m6).ext m7).ext m8).mod m9 (nC (lE (lL (lL r3.lt m6.size) lR)) nN)).ext m10)
    have sz3 := (lT (lT (lT md1.size m2.size) m3.size) m4.size)
    have sz4 := (lT (lT sz3 m5.size) m6.size)
    exact ⟨b'1, b'2, c'1, ys1, w7.heap.size, rfl, r7, r8, (r6.ext m10), (lT (lT md1.size m2.size) ge1), (lT sz3 ge2), (lT sz4 lR), (lE (lL (lL r2.lt m4.size) ge2)), (lE (lL (lL r2.lt sz2) lR)), (lE (lL (lL r3.lt m6.size) lR)), h1, h2, h3, (((((((((((Mod.refl [] w1).nt md1).nt m2).nt m3).nt m4).nt m5).nt m6).nt m7).nt m8).then m9 ((aC (.inr (lT sz4 lR)) aN))).nt m10)⟩
   ·refine DP.op (i := 9) rfl rfl (.free rfl) rfl (ltb rfl) ?_
    intro w12 m11
    refine Op1.mono (op_alloc (cs := fl (List.replicate 16 0)) Try.zeroValue77 rfl) ?_
    rintro _ w13 ⟨rfl, r9, m12, z4⟩
    refine ⟨(((((Mod.refl [] w2).nt m2).nt m3).nt m11).nt m12), ?_⟩
    refine DR.one (i := 4) rfl rfl (by kernel_rfl) (.free rfl) rfl (ltb rfl) (vs := [.func (.func 39) #[] #[], vS b'1 0 n n, .agg (fl bs).toArray]) rfl ?_
    intro w14 m13
    refine ⟨oc_call (vs := [vS b'1 0 n n, .agg (fl bs).toArray]) (cap := []) rfl rfl rfl Try.call39 (c_sChain n n b'1 es bs fs ob ln hn hW lb (by first | assumption | exact W32.set (by assumption) (by first | assumption | exact wid_lt (by assumption)) | exact W32.zeros _ | exact W32.nil) (by first | assumption | omega) (by first | assumption | omega) hv efs eob lfs w14 (((r2.ext m11).ext m12).ext m13).rng), ?_⟩
    rintro _ w15 ⟨b'3, c'2, ys2, rfl, h4, h5, h6, r10, ge3, m14⟩
    refine ⟨(((((((Mod.refl [] w2).nt m2).nt m3).nt m11).nt m12).nt m13).nt m14), ?_⟩
    refine DR.det (i := 5) rfl rfl (by kernel_rfl) (.free rfl) rfl rfl (fun wD mD => op_move rfl) ?_
    refine DR.det (i := 6) rfl rfl (by kernel_rfl) (.free rfl) rfl rfl (fun wD mD => op_extract rfl rfl) ?_
    refine DR.det (i := 7) rfl rfl (by kernel_rfl) (.free rfl) rfl rfl (fun wD mD => op_extract rfl rfl) ?_
    refine DR.det (i := 8) rfl rfl (by kernel_rfl) (.free rfl) rfl rfl (fun wD mD => op_extract rfl rfl) ?_
    refine DR.det (i := 10) rfl rfl (by kernel_rfl) (.free rfl) rfl rfl (fun wD mD => op_assign rfl) ?_
    refine DR.st1 (i := 11) rfl rfl (by kernel_rfl) (.free rfl) rfl ?_
    intro w16 m15
    refine Op1.mono (op_store (i := 0) (cs := fl ys2) rfl rfl rfl Try.sizeOf77 (fl_len h4) (((r9.ext m13).ext m14).ext m15) rfl (by rw [fl_length, List.length_replicate]; decide) (fl_one _)) ?_
    rintro _ w17 ⟨r11, m16, z5⟩
    have r12 : Row w17 w12.heap.size 0 (fl ys2) := Row.congr r11 (splice_all ((fl_len (List.length_replicate)).trans (fl_len (h4)).symm))
    have sz5 := (lT (lT m2.size m3.size) m11.size)
    refine ⟨(((((((((Mod.refl [] w2).nt m2).nt m3).nt m11).nt m12).nt m13).nt m14).nt m15).then m16 ((aC (.inr (lT sz5 lR)) aN))), ?_⟩
    refine DR.sub [(0, .slice A n c), (3, vP w.heap.size 0), (4, .bool false), (6, vS b'3 0 n c'2), (7, vP w12.heap.size 0), (32, vI 0)] ⟨rfl, rfl, rfl, rfl, rfl, rfl, trivial⟩ ?_
    refine DR.meet rfl ?_
    intro w18 m17
    have r13 := (((((((r2.ext m11).ext m12).ext m13).ext m14).ext m15).mod m16 (nC (lE (lL (lL r2.lt m11.size) lR)) nN)).ext m17)
    have r14 := (((r10.ext m15).mod m16 (nC (lG (lL (lL r9.lt m13.size) ge3)) nN)).ext m17)
    have sz6 := (lT (lT (lT (lT (lT md1.size m2.size) m3.size) m11.size) m12.size) m13.size)
    have sz7 := (lT (lT (lT md1.size m2.size) m3.size) m11.size)
    have sz8 := (lT (lT m11.size m12.size) m13.size)
    exact ⟨b'1, b'3, c'2, ys2, w12.heap.size, rfl, r13, r14, (r12.ext m17), (lT (lT md1.size m2.size) ge1), (lT sz6 ge3), (lT sz7 lR), (lE (lL (lL r2.lt sz8) ge3)), (lE (lL (lL r2.lt m11.size) lR)), (lG (lL (lL r9.lt m13.size) ge3)), h4, h5, h6, (((((((((((Mod.refl [] w1).nt md1).nt m2).nt m3).nt m11).nt m12).nt m13).nt m14).nt m15).then m16 ((aC (.inr (lT sz7 lR)) aN))).nt m17)⟩
  ·refine DP.op (i := 9) rfl rfl (.free rfl) rfl (ltb rfl) ?_
   intro w19 m18
   refine Op1.mono (op_alloc (cs := fl (List.replicate 16 0)) Try.zeroValue77 rfl) ?_
   rintro _ w20 ⟨rfl, r15, m19, z6⟩
   refine ⟨(((Mod.refl [] w2).nt m18).nt m19), ?_⟩
   refine DR.one (i := 1) rfl rfl (by kernel_rfl) (.free rfl) rfl (ltb rfl) (vs := [.func (.func 40) #[] #[], .slice A n c]) rfl ?_
   intro w21 m20
   refine ⟨oc_call (vs := [.slice A n c]) (cap := []) rfl rfl rfl Try.call40 (c_toFilterS n c A b o es ln hA hn w21 (((((r.ext m1).ext md1).ext m18).ext m19).ext m20)), ?_⟩
   rintro _ w22 ⟨b'4, rfl, r16, ge4, m21⟩
   refine ⟨(((((Mod.refl [] w2).nt m18).nt m19).nt m20).nt m21), ?_⟩
   refine DR.call (i := 3) (fun uA => uA = .agg (fl bs).toArray) rfl rfl (by kernel_rfl) (.free rfl) rfl (ltb rfl) ⟨_, rfl⟩ (vs := [.func (.func 41) #[] #[], .agg (fl bs).toArray]) rfl (fun wD mD => oc_call (vs := [.agg (fl bs).toArray]) (cap := []) rfl rfl rfl Try.call41 (c_toBlock bs lb wD)) ?_ ?_
   ·rintro w1 _ w2 m1 ⟨rfl, m2⟩; exact ⟨rfl, m2⟩
   rintro _ rfl
   refine DR.one (i := 4) rfl rfl (by kernel_rfl) (.free rfl) rfl (ltb rfl) (vs := [.func (.func 39) #[] #[], vS b'4 0 n n, .agg (fl bs).toArray]) rfl ?_
   intro w23 m22
   refine ⟨oc_call (vs := [vS b'4 0 n n, .agg (fl bs).toArray]) (cap := []) rfl rfl rfl Try.call39 (c_sChain n n b'4 es bs fs ob ln hn hW lb (by first | assumption | exact W32.set (by assumption) (by first | assumption | exact wid_lt (by assumption)) | exact W32.zeros _ | exact W32.nil) (by first | assumption | omega) (by first | assumption | omega) hv efs eob lfs w23 (r16.ext m22).rng), ?_⟩
   rintro _ w24 ⟨b'5, c'3, ys3, rfl, h7, h8, h9, r17, ge5, m23⟩
   refine ⟨(((((((Mod.refl [] w2).nt m18).nt m19).nt m20).nt m21).nt m22).nt m23), ?_⟩
   refine DR.det (i := 5) rfl rfl (by kernel_rfl) (.free rfl) rfl rfl (fun wD mD => op_move rfl) ?_
   refine DR.det (i := 6) rfl rfl (by kernel_rfl) (.free rfl) rfl rfl (fun wD mD => op_extract rfl rfl) ?_
   refine DR.det (i := 7) rfl rfl (by kernel_rfl) (.free rfl) rfl rfl (fun wD mD => op_extract rfl rfl) ?_
   refine DR.det (i := 8) rfl rfl (by kernel_rfl) (.free rfl) rfl rfl (fun wD mD => op_extract rfl rfl) ?_
   refine DR.det (i := 10) rfl rfl (by kernel_rfl) (.free rfl) rfl rfl (fun wD mD => op_assign rfl) ?_
   refine DR.st1 (i := 11) rfl rfl (by kernel_rfl) (.free rfl) rfl ?_
   intro w25 m24
   refine Op1.mono (op_store (i := 0) (cs := fl ys3) rfl rfl rfl Try.sizeOf77 (fl_len h7) (((((r15.ext m20).ext m21).ext m22).ext m23).ext m24) rfl (by rw [fl_length, List.length_replicate]; decide) (fl_one _)) ?_
   rintro _ w26 ⟨r18, m25, z7⟩
   have r19 : Row w26 w19.heap.size 0 (fl ys3) := Row.congr r18 (splice_all ((fl_len (List.length_replicate)).trans (fl_len (h7)).symm))
   refine ⟨(((((((((Mod.refl [] w2).nt m18).nt m19).nt m20).nt m21).nt m22).nt m23).nt m24).then m25 ((aC (.inr (lT m18.size lR)) aN))), ?_⟩
   refine DR.sub [(0, .slice A n c), (3, vP w.heap.size 0), (4, .bool false), (6, vS b'5 0 n c'3), (7, vP w19.heap.size 0), (32, vI 0)] ⟨rfl, rfl, rfl, rfl, rfl, rfl, trivial⟩ ?_
   refine DR.meet rfl ?_
   intro w27 m26
   have r20 := (((((r16.ext m22).ext m23).ext m24).mod m25 (nC (lG (lL (lL r15.lt m20.size) ge4)) nN)).ext m26)
   have sz9 := (lT (lT m20.size m21.size) m22.size)
   have r21 := (((r17.ext m24).mod m25 (nC (lG (lL (lL r15.lt sz9) ge5)) nN)).ext m26)
   have sz10 := (lT (lT (lT md1.size m18.size) m19.size) m20.size)
   have sz11 := (lT (lT sz10 m21.size) m22.size)
   exact ⟨b'4, b'5, c'3, ys3, w19.heap.size, rfl, r20, r21, (r19.ext m26), (lT sz10 ge4), (lT sz11 ge5), (lT (lT md1.size m18.size) lR), (lE (lL (lL r16.lt m22.size) ge5)), (lG (lL (lL r15.lt m20.size) ge4)), (lG (lL (lL r15.lt sz9) ge5)), h7, h8, h9, (((((((((((Mod.refl [] w1).nt md1).nt m18).nt m19).nt m20).nt m21).nt m22).nt m23).nt m24).then m25 ((aC (.inr (lT (lT md1.size m18.size) lR)) aN))).nt m26)⟩
 ·rintro _ w28 ⟨e1_1_0, e1_4_0, e1_4_1, e1_4_2, e1_9_0, rfl, rr1_0, rr1_1, rr1_2, ge6, ge7, ge8, ne1, ne2, ne3, hp1_4_0, hp1_4_1, hp1_4_2, m27⟩
  refine WO.det (op_assign rfl) rfl (.free rfl) rfl rfl ?_
  refine WO.end (NE.code (CE.seq (CE.region ?_)))
  refine WL.det (op_move rfl) rfl rfl rfl ?_
  refine WL.call (oc_call (vs := [.slice A n c]) (cap := []) rfl rfl rfl Try.call40 (c_toFilterS n c A b o es ln hA hn w28 ((r.ext m1).ext m27))) rfl rfl (ltb rfl) ?_
  rintro _ w29 ⟨b'6, rfl, r22, ge9, m28⟩
  refine WL.det (op_assign rfl) rfl rfl rfl ?_
  refine WL.end (NE.code (CE.seq (CE.region ?_)))
  refine WL.det (op_move rfl) rfl rfl rfl ?_
  refine WL.det (op_loadA (i := 0) (cs := fl bs) rfl Try.isAgg74 Try.sizeOf74 ((r1.ext m27).ext m28).rng rfl (fl_whole lb) (fl_len lb)) rfl rfl rfl ?_
  refine WL.call (oc_call (vs := [.agg (fl bs).toArray]) (cap := []) rfl rfl rfl Try.call41 (c_toBlock bs lb w29)) rfl rfl (ltb rfl) ?_
  rintro _ w30 ⟨rfl, m29⟩
  refine WL.call (oc_call (vs := [vS b'6 0 n n, .agg (fl bs).toArray]) (cap := []) rfl rfl rfl Try.call42 (c_iChain n n b'6 es bs fs ob ln hn hW lb (by first | assumption | exact W32.set (by assumption) (by first | assumption | exact wid_lt (by assumption)) | exact W32.zeros _ | exact W32.nil) (by first | assumption | omega) (by first | assumption | omega) hv efs eob lfs w30 (r22.ext m29).rng)) rfl rfl (ltb rfl) ?_
  rintro _ w31 ⟨b'7, c'4, ys4, rfl, h10, h11, h12, r23, ge10, m30⟩
  refine WL.det (op_move rfl) rfl rfl rfl ?_
  iterate 3 refine WL.det (op_extract rfl rfl) rfl rfl rfl ?_
  refine WL.op (op_alloc (cs := fl (List.replicate 16 0)) Try.zeroValue77 rfl) rfl rfl (ltb rfl) ?_
  rintro _ w32 ⟨rfl, r24, m31, z8⟩
  refine WL.det (op_assign rfl) rfl rfl rfl ?_
  refine WL.op0 (op_store (i := 0) (cs := fl ys4) rfl rfl rfl Try.sizeOf77 (fl_len h10) r24 rfl (by rw [fl_length, List.length_replicate]; decide) (fl_one _)) rfl rfl ?_
  rintro _ w33 ⟨r25, m32, z9⟩
  have r26 : Row w33 w31.heap.size 0 (fl ys4) := Row.congr r25 (splice_all ((fl_len (List.length_replicate)).trans (fl_len (h10)).symm))
  refine WL.det (op_assign rfl) rfl rfl rfl ?_
  refine WL.end (NE.code (CE.seq (CE.seq (CE.region ?_))))
  iterate 2 refine WL.det (op_move rfl) rfl rfl rfl ?_
  have sz12 := (lT (lT m28.size m29.size) m30.size)
  have r27 := (((((rr1_1.ext m28).ext m29).ext m30).ext m31).mod m32 (nC (lE (lL (lL rr1_1.lt sz12) lR)) nN))
  refine WL.call (oc_call (vs := [vS b'7 0 n c'4, vS e1_4_0 0 n e1_4_1]) (cap := []) rfl rfl rfl Try.call43 (c_eqFilterS n c'4 b'7 fs e1_4_1 e1_4_0 lfs (by omega) w33 ((r23.ext m31).mod m32 (nC (lE (lL r23.lt lR)) nN)).rng r27.rng)) rfl rfl (ltb rfl) ?_
  rintro _ w34 ⟨rfl, m33⟩
  refine WL.det (op_not rfl) rfl rfl rfl ?_
  refine WL.det (op_move rfl) rfl rfl rfl ?_
  refine WL.yes rfl rfl rfl (ltb rfl) rfl rfl ?_
  refine WL.det (op_loadA (i := 0) (cs := fl ys4) rfl Try.isAgg77 Try.sizeOf77 (r26.ext m33).rng rfl (fl_whole h10) (fl_len h10)) rfl rfl rfl ?_
  have r28 := ((((((rr1_2.ext m28).ext m29).ext m30).ext m31).mod m32 (nC (lE (lL (lL rr1_2.lt sz12) lR)) nN)).ext m33)
  refine WL.yes rfl rfl rfl (ltb rfl) rfl rfl ?_
  refine WL.det (op_loadA (i := 0) (cs := fl e1_4_2) rfl Try.isAgg77 Try.sizeOf77 r28.rng rfl (fl_whole hp1_4_0) (fl_len hp1_4_0)) rfl rfl rfl ?_
  refine WL.yes rfl rfl rfl (ltb rfl) rfl rfl ?_
  refine WL.call (oc_call (vs := [.agg (fl ys4).toArray, .agg (fl e1_4_2).toArray]) (cap := []) rfl rfl rfl Try.call44 (c_eqBlock ys4 e1_4_2 h10 hp1_4_0 h11 hp1_4_1 (by first | exact Outs.same (by assumption) (by assumption) | exact CnB.eq2 (by assumption) (by assumption)) w34)) rfl rfl (ltb rfl) ?_
  rintro _ w35 ⟨rfl, m34⟩
  refine WL.yes rfl rfl rfl (ltb rfl) rfl rfl ?_
  refine WL.det (op_not rfl) rfl rfl rfl ?_
  refine WL.det (op_pick_f rfl rfl rfl) rfl rfl rfl ?_
  refine WL.det (op_move rfl) rfl rfl rfl ?_
  refine WL.yes rfl rfl rfl (ltb rfl) rfl rfl ?_
  refine WL.det (op_move rfl) rfl rfl rfl ?_
  refine WL.yes rfl rfl rfl (ltb rfl) rfl rfl ?_
  refine WL.det (op_move rfl) rfl rfl rfl ?_
  refine WL.yes rfl rfl rfl (ltb rfl) rfl rfl ?_
  refine WL.det (op_nei rfl rfl) rfl rfl rfl ?_
  refine WL.det (op_pick_f rfl rfl rfl) rfl rfl rfl ?_
  refine WL.end (NE.code ?_)
  refine CE.cond_f rfl rfl ?_
  refine CE.skip' (NE.code (CE.seq (CE.seq (CE.region ?_))))
  iterate 2 refine WL.det (op_move rfl) rfl rfl rfl ?_
  have sz13 := (lT (lT (lT (lT m1.size m27.size) m28.size) m29.size) m30.size)
  have r29 := (((Rng.youngS r ((((((r.ext m1).ext m27).ext m28).ext m29).ext m30).ext m31) m32 (allge_cons (lT sz13 lR) allge_nil)).ext m33).ext m34)
  refine WL.call (oc_call (vs := [.slice A n c]) (cap := []) rfl rfl rfl Try.call40 (c_toFilterS n c A b o es ln hA hn w35 r29)) rfl rfl (ltb rfl) ?_
  rintro _ w36 ⟨b'8, rfl, r30, ge11, m35⟩
  have r31 := (((((((r22.ext m29).ext m30).ext m31).mod m32 (nC (lE (lL (lL r22.lt (lT m29.size m30.size)) lR)) nN)).ext m33).ext m34).ext m35)
  refine WL.call (oc_call (vs := [vS b'6 0 n n, vS b'8 0 n n]) (cap := []) rfl rfl rfl Try.call43 (c_eqFilterS n n b'6 es n b'8 ln (by omega) w36 r31.rng r30.rng)) rfl rfl (ltb rfl) ?_
  rintro _ w37 ⟨rfl, m36⟩
  refine WL.det (op_not rfl) rfl rfl rfl ?_
  refine WL.end (NE.code ?_)
  refine CE.cond_f rfl rfl ?_
  refine CE.skip' (NE.code (CE.seq (CE.region ?_)))
  refine WL.det (op_assign rfl) rfl rfl rfl ?_
  refine WL.end (NE.code (CE.seq (CE.region ?_)))
  iterate 2 refine WL.det (op_move rfl) rfl rfl rfl ?_
  refine WL.call (oc_call (vs := [vS b'6 0 n n, vI 1]) (cap := []) rfl rfl rfl Try.call45 (c_markFilterS n n b'6 es 1 ln hn (by omega) w37 (r31.ext m36))) rfl rfl (ltb rfl) ?_
  rintro _ w38 ⟨rfl, r32, m37⟩
  refine WL.det (op_assign rfl) rfl rfl rfl ?_
  refine WL.end (NE.code (CE.seq (CE.seq (CE.region ?_))))
  refine WL.det (op_move rfl) rfl rfl rfl ?_
  refine WL.det (op_lti_f rfl rfl (Int.not_lt.2 (Int.natCast_nonneg _))) rfl rfl rfl ?_
  refine WL.det (op_move rfl) rfl rfl rfl ?_
  refine WL.yes rfl rfl rfl (ltb rfl) rfl rfl ?_
  refine WL.det (op_move rfl) rfl rfl rfl ?_
  refine WL.yes rfl rfl rfl (ltb rfl) rfl rfl ?_
  refine WL.det (op_move rfl) rfl rfl rfl ?_
  have r33 := (((((((r23.ext m31).mod m32 (nC (lE (lL r23.lt lR)) nN)).ext m33).ext m34).ext m35).ext m36).mod m37 (nC (lG (lL (lL r22.lt m29.size) ge10)) nN))
  have r34 := (((((r27.ext m33).ext m34).ext m35).ext m36).mod m37 (nC (lE (lL rr1_1.lt ge9)) nN))
  refine WL.yes rfl rfl rfl (ltb rfl) rfl rfl ?_
  refine WL.call (oc_call (vs := [vS b'7 0 n c'4, vS e1_4_0 0 n e1_4_1]) (cap := []) rfl rfl rfl Try.call43 (c_eqFilterS n c'4 b'7 fs e1_4_1 e1_4_0 lfs (by omega) w38 r33.rng r34.rng)) rfl rfl (ltb rfl) ?_
  rintro _ w39 ⟨rfl, m38⟩
  refine WL.yes rfl rfl rfl (ltb rfl) rfl rfl ?_
  refine WL.det (op_not rfl) rfl rfl rfl ?_
  refine WL.det (op_pick_f rfl rfl rfl) rfl rfl rfl ?_
  refine WL.det (op_move rfl) rfl rfl rfl ?_
  have r35 := ((((((r26.ext m33).ext m34).ext m35).ext m36).mod m37 (nC (lG (lL (lL r22.lt (lT m29.size m30.size)) lR)) nN)).ext m38)
  refine WL.yes rfl rfl rfl (ltb rfl) rfl rfl ?_
  refine WL.det (op_loadA (i := 0) (cs := fl ys4) rfl Try.isAgg77 Try.sizeOf77 r35.rng rfl (fl_whole h10) (fl_len h10)) rfl rfl rfl ?_
  have r36 := (((((r28.ext m34).ext m35).ext m36).mod m37 (nC (lE (lL rr1_2.lt ge9)) nN)).ext m38)
  refine WL.yes rfl rfl rfl (ltb rfl) rfl rfl ?_
  refine WL.det (op_loadA (i := 0) (cs := fl e1_4_2) rfl Try.isAgg77 Try.sizeOf77 r36.rng rfl (fl_whole hp1_4_0) (fl_len hp1_4_0)) rfl rfl rfl ?_
  refine WL.yes rfl rfl rfl (ltb rfl) rfl rfl ?_
  refine WL.call (oc_call (vs := [.agg (fl ys4).toArray, .agg (fl e1_4_2).toArray]) (cap := []) rfl rfl rfl Try.call44 (c_eqBlock ys4 e1_4_2 h10 hp1_4_0 h11 hp1_4_1 (by first | exact Outs.same (by assumption) (by assumption) | exact CnB.eq2 (by assumption) (by assumption)) w39)) rfl rfl (ltb rfl) ?_
  rintro _ w40 ⟨rfl, m39⟩
  refine WL.yes rfl rfl rfl (ltb rfl) rfl rfl ?_
  refine WL.det (op_not rfl) rfl rfl rfl ?_
  refine WL.det (op_pick_f rfl rfl rfl) rfl rfl rfl ?_
  refine WL.det (op_move rfl) rfl rfl rfl ?_
  refine WL.yes rfl rfl rfl (ltb rfl) rfl rfl ?_
  refine WL.det (op_move rfl) rfl rfl rfl ?_
  refine WL.yes rfl rfl rfl (ltb rfl) rfl rfl ?_
  refine WL.det (op_move rfl) rfl rfl rfl ?_
  refine WL.yes rfl rfl rfl (ltb rfl) rfl rfl ?_
  refine WL.det (op_nei rfl rfl) rfl rfl rfl ?_
  refine WL.det (op_pick_f rfl rfl rfl) rfl rfl rfl ?_
  refine WL.end (NE.code ?_)
  refine CE.cond_f rfl rfl ?_
  refine CE.skip' (NE.code (CE.seq (CE.region ?_)))
  refine WL.det (op_assign rfl) rfl rfl rfl ?_
  refine WL.end (NE.code (CE.seq (CE.region ?_)))
  iterate 2 refine WL.det (op_move rfl) rfl rfl rfl ?_
  refine WL.call (oc_call (vs := [vS b'7 0 n c'4, vI 1]) (cap := []) rfl rfl rfl Try.call45 (c_markFilterS n c'4 b'7 fs 1 lfs hn (by omega) w40 ((r33.ext m38).ext m39))) rfl rfl (ltb rfl) ?_
  rintro _ w41 ⟨rfl, r37, m40⟩
  refine WL.det (op_assign rfl) rfl rfl rfl ?_
  refine WL.end (NE.code (CE.seq (CE.region ?_)))
  refine WL.det (op_assign rfl) rfl rfl rfl ?_
  refine WL.end (NE.code (CE.seq (CE.region ?_)))
  iterate 2 refine WL.det (op_move rfl) rfl rfl rfl ?_
  refine WL.call (oc_call (vs := [vS b'7 0 n c'4, vI 1]) (cap := []) rfl rfl rfl Try.call46 (c_heldFilterS n c'4 b'7 (markFs fs 1 n) 1 (markFs_len lfs (Nat.le_refl _)) hn (by omega) (by first | assumption | exact fun i hi => markFs_get (by assumption) hi | exact fun i hi => markFs_get (chF_len (by assumption) (Nat.le_refl _)) hi) w41 r37.rng)) rfl rfl (ltb rfl) ?_
  rintro _ w42 ⟨rfl, m41⟩
  refine WL.det (op_assign rfl) rfl rfl rfl ?_
  refine WL.end (NE.code (CE.seq (CE.seq (CE.region ?_))))
  refine WL.det (op_move rfl) rfl rfl rfl ?_
  refine WL.det (op_lti_f rfl rfl (Int.not_lt.2 (Int.natCast_nonneg _))) rfl rfl rfl ?_
  refine WL.end (NE.code ?_)
  refine CE.cond_f rfl rfl ?_
  refine CE.skip' (NE.code (CE.seq (CE.seq (CE.region ?_))))
  iterate 2 refine WL.det (op_move rfl) rfl rfl rfl ?_
  refine WL.det (op_nei_f rfl rfl rfl) rfl rfl rfl ?_
  refine WL.end (NE.code ?_)
  refine CE.cond_f rfl rfl ?_
  refine CE.skip' (NE.code (CE.seq ?_))
  refine CE.drawF (fun | 1 => some (fun _ wA uA wB => ∃ (b' : Nat), uA = vS b' 0 n n ∧ Row wB b' 0 (cat FiR.cells es) ∧ wA.heap.size ≤ b' ∧ Mod [] wA wB) | 3 => some (fun _ wA uA wB => uA = .agg (fl bs).toArray ∧ Mod [] wA wB) | 4 => some (fun _ wA uA wB => ∃ (b' : Nat) (c' : Nat) (ys : List Nat), uA = .tuple #[vS b' 0 n c', .agg (fl ys).toArray, vI 0] ∧ (ys.length = 16) ∧ (W32 ys) ∧ (CnB ys ob) ∧ Row wB b' 0 (cat FiR.cells fs) ∧ wA.heap.size ≤ b' ∧ Mod [] wA wB) | _ => none) [0, 1, 2, 3, 4, 5, 6, 7, 8, 9, 10, 11] [12] [] (fun ρ W => ∃ (e2_1_0 : Nat) (e2_4_0 : Nat) (e2_4_1 : Nat) (e2_4_2 : List Nat) (e2_9_0 : Nat), ρ = [(4, .bool false), (6, vS e1_4_0 0 n e1_4_1), (7, vP e1_9_0 0), (8, vI 0), (10, vS b'7 0 n c'4), (14, vI (((1 + 6 * n) : Nat) : Int)), (15, vI (((1 + 6 * n) : Nat) : Int)), (16, vS e2_4_0 0 n e2_4_1), (17, vP e2_9_0 0), (104, vI 0)] ∧ Row W e2_1_0 0 (cat FiR.cells es) ∧ Row W e2_4_0 0 (cat FiR.cells fs) ∧ Row W e2_9_0 0 (fl e2_4_2) ∧ w42.heap.size ≤ e2_1_0 ∧ w42.heap.size ≤ e2_4_0 ∧ w42.heap.size ≤ e2_9_0 ∧ e2_1_0 ≠ e2_4_0 ∧ e2_1_0 ≠ e2_9_0 ∧ e2_4_0 ≠ e2_9_0 ∧ (e2_4_2.length = 16) ∧ (W32 e2_4_2) ∧ (CnB e2_4_2 ob) ∧ Mod [] w42 W) (by kernel_rfl) (by kernel_rfl) ?_ ?_
  have md2 : Mod [] w42 w42.drew := (Mod.refl _ _).drew
  generalize w42.drew = w43 at md2 ⊢
  ·refine DR.det (i := 0) rfl rfl (by kernel_rfl) (.free rfl) rfl rfl (fun wD mD => op_move rfl) ?_
   refine DR.det (i := 2) rfl rfl (by kernel_rfl) (.free rfl) rfl rfl (fun wD mD => op_loadA (i := 0) (cs := fl bs) rfl Try.isAgg74 Try.sizeOf74 (((((((((((((((((r1.ext m27).ext m28).ext m29).ext m30).ext m31).mod m32 (nC (lE (lL (lL r1.lt (lT (lT (lT m27.size m28.size) m29.size) m30.size)) lR)) nN)).ext m33).ext m34).ext m35).ext m36).mod m37 (nC (lE (lL (lL r1.lt m27.size) ge9)) nN)).ext m38).ext m39).mod m40 (nC (lE (lL (lL r1.lt (lT (lT m27.size m28.size) m29.size)) ge10)) nN)).ext m41).ext md2).ext mD).rng rfl (fl_whole lb) (fl_len lb)) ?_
   refine DR.fork (is := [1, 9]) (by kernel_rfl) (by decide) (all2 ?_ ?_)
   ·refine DP.call (i := 1) rfl rfl (.free rfl) rfl (ltb rfl) (vs := [.func (.func 40) #[] #[], .slice A n c]) rfl ?_
    intro w44 m42
    refine ⟨oc_call (vs := [.slice A n c]) (cap := []) rfl rfl rfl Try.call40 (c_toFilterS n c A b o es ln hA hn w44 ((((Rng.youngS r (((Rng.youngS r ((r29.ext m35).ext m36) m37 (allge_cons (lT (lT m1.size m27.size) ge9) allge_nil)).ext m38).ext m39) m40 (allge_cons (lT (lT (lT (lT m1.size m27.size) m28.size) m29.size) ge10) allge_nil)).ext m41).ext md2).ext m42)), ?_⟩
    rintro _ w45 ⟨b'9, rfl, r38, ge12, m43⟩
    refine ⟨(((Mod.refl [] w43).nt m42).nt m43), ?_⟩
    refine DR.call (i := 3) (fun uA => uA = .agg (fl bs).toArray) rfl rfl (by kernel_rfl) (.free rfl) rfl (ltb rfl) ⟨_, rfl⟩ (vs := [.func (.func 41) #[] #[], .agg (fl bs).toArray]) rfl (fun wD mD => oc_call (vs := [.agg (fl bs).toArray]) (cap := []) rfl rfl rfl Try.call41 (c_toBlock bs lb wD)) ?_ ?_
    ·rintro w1 _ w2 m1 ⟨rfl, m2⟩; exact ⟨rfl, m2⟩
    rintro _ rfl
    refine DR.fork (is := [4, 9]) (by kernel_rfl) (by decide) (all2 ?_ ?_)
    ·refine DP.call (i := 4) rfl rfl (.free rfl) rfl (ltb rfl) (vs := [.func (.func 42) #[] #[], vS b'9 0 n n, .agg (fl bs).toArray]) rfl ?_
     intro w46 m44
     refine ⟨oc_call (vs := [vS b'9 0 n n, .agg (fl bs).toArray]) (cap := []) rfl rfl rfl Try.call42 (c_iChain n n b'9 es bs fs ob ln hn hW lb (by first | assumption | exact W32.set (by assumption) (by first | assumption | exact wid_lt (by assumption)) | exact W32.zeros _ | exact W32.nil) (by first | assumption | omega) (by first | assumption | omega) hv efs eob lfs w46 (r38.ext m44).rng), ?_⟩
     rintro _ w47 ⟨b'10, c'5, ys5, rfl, h13, h14, h15, r39, ge13, m45⟩
     refine ⟨(((((Mod.refl [] w43).nt m42).nt m43).nt m44).nt m45), ?_⟩
     refine DR.det (i := 5) rfl rfl (by kernel_rfl) (.free rfl) rfl rfl (fun wD mD => op_move rfl) ?_
     refine DR.det (i := 6) rfl rfl (by kernel_rfl) (.free rfl) rfl rfl (fun wD mD => op_extract rfl rfl) ?_
     refine DR.det (i := 7) rfl rfl (by kernel_rfl) (.free rfl) rfl rfl (fun wD mD => op_extract rfl rfl) ?_
     refine DR.det (i := 8) rfl rfl (by kernel_rfl) (.free rfl) rfl rfl (fun wD mD => op_extract rfl rfl) ?_
     refine DR.one1 (i := 9) rfl rfl (by kernel_rfl) (.free rfl) rfl (ltb rfl) ?_
     intro w48 m46
     refine Op1.mono (op_alloc (cs := fl (List.replicate 16 0)) Try.zeroValue77 rfl) ?_
     rintro _ w49 ⟨rfl, r40, m47, z10⟩
     refine ⟨(((((((Mod.refl [] w43).nt m42).nt m43).nt m44).nt m45).nt m46).nt m47), ?_⟩
     refine DR.det (i := 10) rfl rfl (by kernel_rfl) (.free rfl) rfl rfl (fun wD mD => op_assign rfl) ?_
     refine DR.st1 (i := 11) rfl rfl (by kernel_rfl) (.free rfl) rfl ?_
     intro w50 m48
     refine Op1.mono (op_store (i := 0) (cs := fl ys5) rfl rfl rfl Try.sizeOf77 (fl_len h13) (r40.ext m48) rfl (by rw [fl_length, List.length_replicate]; decide) (fl_one _)) ?_
     rintro _ w51 ⟨r41, m49, z11⟩
     have r42 : Row w51 w48.heap.size 0 (fl ys5) := Row.congr r41 (splice_all ((fl_len (List.length_replicate)).trans (fl_len (h13)).symm))
     have sz14 := (lT (lT (lT (lT m42.size m43.size) m44.size) m45.size) m46.size)
     refine ⟨(((((((((Mod.refl [] w43).nt m42).nt m43).nt m44).nt m45).nt m46).nt m47).nt m48).then m49 ((aC (.inr (lT sz14 lR)) aN))), ?_⟩
     refine DR.sub [(4, .bool false), (6, vS e1_4_0 0 n e1_4_1), (7, vP e1_9_0 0), (8, vI 0), (10, vS b'7 0 n c'4), (14, vI (((1 + 6 * n) : Nat) : Int)), (15, vI (((1 + 6 * n) : Nat) : Int)), (16, vS b'10 0 n c'5), (17, vP w48.heap.size 0), (104, vI 0)] ⟨rfl, rfl, rfl, rfl, rfl, rfl, rfl, rfl, rfl, rfl, trivial⟩ ?_
     refine DR.meet rfl ?_
     intro w52 m50
     have sz15 := (lT (lT m44.size m45.size) m46.size)
     have r43 := (((((((r38.ext m44).ext m45).ext m46).ext m47).ext m48).mod m49 (nC (lE (lL (lL r38.lt sz15) lR)) nN)).ext m50)
     have r44 := (((((r39.ext m46).ext m47).ext m48).mod m49 (nC (lE (lL (lL r39.lt m46.size) lR)) nN)).ext m50)
     have sz16 := (lT (lT (lT md2.size m42.size) m43.size) m44.size)
     have sz17 := (lT (lT sz16 m45.size) m46.size)
     exact ⟨b'9, b'10, c'5, ys5, w48.heap.size, rfl, r43, r44, (r42.ext m50), (lT (lT md2.size m42.size) ge12), (lT sz16 ge13), (lT sz17 lR), (lE (lL (lL r38.lt m44.size) ge13)), (lE (lL (lL r38.lt sz15) lR)), (lE (lL (lL r39.lt m46.size) lR)), h13, h14, h15, (((((((((((Mod.refl [] w42).nt md2).nt m42).nt m43).nt m44).nt m45).nt m46).nt m47).nt m48).then m49 ((aC (.inr (lT sz17 lR)) aN))).nt m50)⟩
    ·refine DP.op (i := 9) rfl rfl (.free rfl) rfl (ltb rfl) ?_
     intro w53 m51
     refine Op1.mono (op_alloc (cs := fl (List.replicate 16 0)) Try.zeroValue77 rfl) ?_
     rintro _ w54 ⟨rfl, r45, m52, z12⟩
     refine ⟨(((((Mod.refl [] w43).nt m42).nt m43).nt m51).nt m52), ?_⟩
     refine DR.one (i := 4) rfl rfl (by kernel_rfl) (.free rfl) rfl (ltb rfl) (vs := [.func (.func 42) #[] #[], vS b'9 0 n n, .agg (fl bs).toArray]) rfl ?_
     intro w55 m53
     refine ⟨oc_call (vs := [vS b'9 0 n n, .agg (fl bs).toArray]) (cap := []) rfl rfl rfl Try.call42 (c_iChain n n b'9 es bs fs ob ln hn hW lb (by first | assumption | exact W32.set (by assumption) (by first | assumption | exact wid_lt (by assumption)) | exact W32.zeros _ | exact W32.nil) (by first | assumption | omega) (by first | assumption | omega) hv efs eob lfs w55 (((r38.ext m51).ext m52).ext m53).rng), ?_⟩
     rintro _ w56 ⟨b'11, c'6, ys6, rfl, h16, h17, h18, r46, ge14, m54⟩
     refine ⟨(((((((Mod.refl [] w43).nt m42).nt m43).nt m51).nt m52).nt m53).nt m54), ?_⟩
     refine DR.det (i := 5) rfl rfl (by kernel_rfl) (.free rfl) rfl rfl (fun wD mD => op_move rfl) ?_
     refine DR.det (i := 6) rfl rfl (by kernel_rfl) (.free rfl) rfl rfl (fun wD mD => op_extract rfl rfl) ?_
     refine DR.det (i := 7) rfl rfl (by kernel_rfl) (.free rfl) rfl rfl (fun wD mD => op_extract rfl rfl) ?_
     refine DR.det (i := 8) rfl rfl (by kernel_rfl) (.free rfl) rfl rfl (fun wD mD => op_extract rfl rfl) ?_
     refine DR.det (i := 10) rfl rfl (by kernel_rfl) (.free rfl) rfl rfl (fun wD mD => op_assign rfl) ?_
     refine DR.st1 (i := 11) rfl rfl (by kernel_rfl) (.free rfl) rfl ?_
     intro w57 m55
     refine Op1.mono (op_store (i := 0) (cs := fl ys6) rfl rfl rfl Try.sizeOf77 (fl_len h16) (((r45.ext m53).ext m54).ext m55) rfl (by rw [fl_length, List.length_replicate]; decide) (fl_one _)) ?_
     rintro _ w58 ⟨r47, m56, z13⟩
     have r48 : Row w58 w53.heap.size 0 (fl ys6) := Row.congr r47 (splice_all ((fl_len (List.length_replicate)).trans (fl_len (h16)).symm))
     have sz18 := (lT (lT m42.size m43.size) m51.size)
     refine ⟨(((((((((Mod.refl [] w43).nt m42).nt m43).nt m51).nt m52).nt m53).nt m54).nt m55).then m56 ((aC (.inr (lT sz18 lR)) aN))), ?_⟩
     refine DR.sub [(4, .bool false), (6, vS e1_4_0 0 n e1_4_1), (7, vP e1_9_0 0), (8, vI 0), (10, vS b'7 0 n c'4), (14, vI (((1 + 6 * n) : Nat) : Int)), (15, vI (((1 + 6 * n) : Nat) : Int)), (16, vS b'11 0 n c'6), (17, vP w53.heap.size 0), (104, vI 0)] ⟨rfl, rfl, rfl, rfl, rfl, rfl, rfl, rfl, rfl, rfl, trivial⟩ ?_
     refine DR.meet rfl ?_
     intro w59 m57
     have r49 := (((((((r38.ext m51).ext m52).ext m53).ext m54).ext m55).mod m56 (nC (lE (lL (lL r38.lt m51.size) lR)) nN)).ext m57)
     have r50 := (((r46.ext m55).mod m56 (nC (lG (lL (lL r45.lt m53.size) ge14)) nN)).ext m57)
     have sz19 := (lT (lT (lT (lT (lT md2.size m42.size) m43.size) m51.size) m52.size) m53.size)
     have sz20 := (lT (lT (lT md2.size m42.size) m43.size) m51.size)
     have sz21 := (lT (lT m51.size m52.size) m53.size)
     exact ⟨b'9, b'11, c'6, ys6, w53.heap.size, rfl, r49, r50, (r48.ext m57), (lT (lT md2.size m42.size) ge12), (lT sz19 ge14), (lT sz20 lR), (lE (lL (lL r38.lt sz21) ge14)), (lE (lL (lL r38.lt m51.size) lR)), (lG (lL (lL r45.lt m53.size) ge14)), h16, h17, h18, (((((((((((Mod.refl [] w42).nt md2).nt m42).nt m43).nt m51).nt m52).nt m53).nt m54).nt m55).then m56 ((aC (.inr (lT sz20 lR)) aN))).nt m57)⟩
   ·refine DP.op (i := 9) rfl rfl (.free rfl) rfl (ltb rfl) ?_
    intro w60 m58
    refine Op1.mono (op_alloc (cs := fl (List.replicate 16 0)) Try.zeroValue77 rfl) ?_
    rintro _ w61 ⟨rfl, r51, m59, z14⟩
    refine ⟨(((Mod.refl [] w43).nt m58).nt m59), ?_⟩
    refine DR.one (i := 1) rfl rfl (by kernel_rfl) (.free rfl) rfl (ltb rfl) (vs := [.func (.func 40) #[] #[], .slice A n c]) rfl ?_
    intro w62 m60
    refine ⟨oc_call (vs := [.slice A n c]) (cap := []) rfl rfl rfl Try.call40 (c_toFilterS n c A b o es ln hA hn w62 ((((((Rng.youngS r (((Rng.youngS r ((r29.ext m35).ext m36) m37 (allge_cons (lT (lT m1.size m27.size) ge9) allge_nil)).ext m38).ext m39) m40 (allge_cons (lT (lT (lT (lT m1.size m27.size) m28.size) m29.size) ge10) allge_nil)).ext m41).ext md2).ext m58).ext m59).ext m60)), ?_⟩
    rintro _ w63 ⟨b'12, rfl, r52, ge15, m61⟩
    refine ⟨(((((Mod.refl [] w43).nt m58).nt m59).nt m60).nt m61), ?_⟩
    refine DR.call (i := 3) (fun uA => uA = .agg (fl bs).toArray) rfl rfl (by kernel_rfl) (.free rfl) rfl (ltb rfl) ⟨_, rfl⟩ (vs := [.func (.func 41) #[] #[], .agg (fl bs).toArray]) rfl (fun wD mD => oc_call (vs := [.agg (fl bs).toArray]) (cap := []) rfl rfl rfl Try.call41 (c_toBlock bs lb wD)) ?_ ?_
    ·rintro w1 _ w2 m1 ⟨rfl, m2⟩; exact ⟨rfl, m2⟩
    rintro _ rfl
    refine DR.one (i := 4) rfl rfl (by kernel_rfl) (.free rfl) rfl (ltb rfl) (vs := [.func (.func 42) #[] #[], vS b'12 0 n n, .agg (fl bs).toArray]) rfl ?_
    intro w64 m62
    refine ⟨oc_call (vs := [vS b'12 0 n n, .agg (fl bs).toArray]) (cap := []) rfl rfl rfl Try.call42 (c_iChain n n b'12 es bs fs ob ln hn hW lb (by first | assumption | exact W32.set (by assumption) (by first | assumption | exact wid_lt (by assumption)) | exact W32.zeros _ | exact W32.nil) (by first | assumption | omega) (by first | assumption | omega) hv efs eob lfs w64 (r52.ext m62).rng), ?_⟩
    rintro _ w65 ⟨b'13, c'7, ys7, rfl, h19, h20, h21, r53, ge16, m63⟩
    refine ⟨(((((((Mod.refl [] w43).nt m58).nt m59).nt m60).nt m61).nt m62).nt m63), ?_⟩
    refine DR.det (i := 5) rfl rfl (by kernel_rfl) (.free rfl) rfl rfl (fun wD mD => op_move rfl) ?_
    refine DR.det (i := 6) rfl rfl (by kernel_rfl) (.free rfl) rfl rfl (fun wD mD => op_extract rfl rfl) ?_
    refine DR.det (i := 7) rfl rfl (by kernel_rfl) (.free rfl) rfl rfl (fun wD mD => op_extract rfl rfl) ?_
    refine DR.det (i := 8) rfl rfl (by kernel_rfl) (.free rfl) rfl rfl (fun wD mD => op_extract rfl rfl) ?_
    refine DR.det (i := 10) rfl rfl (by kernel_rfl) (.free rfl) rfl rfl (fun wD mD => op_assign rfl) ?_
    refine DR.st1 (i := 11) rfl rfl (by kernel_rfl) (.free rfl) rfl ?_
    intro w66 m64
    refine Op1.mono (op_store (i := 0) (cs := fl ys7) rfl rfl rfl Try.sizeOf77 (fl_len h19) (((((r51.ext m60).ext m61).ext m62).ext m63).ext m64) rfl (by rw [fl_length, List.length_replicate]; decide) (fl_one _)) ?_
    rintro _ w67 ⟨r54, m65, z15⟩
    have r55 : Row w67 w60.heap.size 0 (fl ys7) := Row.congr r54 (splice_all ((fl_len (List.length_replicate)).trans (fl_len (h19)).symm))
    refine ⟨(((((((((Mod.refl [] w43).nt m58).nt m59).nt m60).nt m61).nt m62).nt m63).nt m64).then m65 ((aC (.inr (lT m58.size lR)) aN))), ?_⟩
    refine DR.sub [(4, .bool false), (6, vS e1_4_0 0 n e1_4_1), (7, vP e1_9_0 0), (8, vI 0), (10, vS b'7 0 n c'4), (14, vI (((1 + 6 * n) : Nat) : Int)), (15, vI (((1 + 6 * n) : Nat) : Int)), (16, vS b'13 0 n c'7), (17, vP w60.heap.size 0), (104, vI 0)] ⟨rfl, rfl, rfl, rfl, rfl, rfl, rfl, rfl, rfl, rfl, trivial⟩ ?_
    refine DR.meet rfl ?_
    intro w68 m66
    have r56 := (((((r52.ext m62).ext m63).ext m64).mod m65 (nC (lG (lL (lL r51.lt m60.size) ge15)) nN)).ext m66)
    have sz22 := (lT (lT m60.size m61.size) m62.size)
    have r57 := (((r53.ext m64).mod m65 (nC (lG (lL (lL r51.lt sz22) ge16)) nN)).ext m66)
    have sz23 := (lT (lT (lT md2.size m58.size) m59.size) m60.size)
    have sz24 := (lT (lT sz23 m61.size) m62.size)
    exact ⟨b'12, b'13, c'7, ys7, w60.heap.size, rfl, r56, r57, (r55.ext m66), (lT sz23 ge15), (lT sz24 ge16), (lT (lT md2.size m58.size) lR), (lE (lL (lL r52.lt m62.size) ge16)), (lG (lL (lL r51.lt m60.size) ge15)), (lG (lL (lL r51.lt sz22) ge16)), h19, h20, h21, (((((((((((Mod.refl [] w42).nt md2).nt m58).nt m59).nt m60).nt m61).nt m62).nt m63).nt m64).then m65 ((aC (.inr (lT (lT md2.size m58.size) lR)) aN))).nt m66)⟩
  ·rintro _ w69 ⟨e2_1_0, e2_4_0, e2_4_1, e2_4_2, e2_9_0, rfl, rr2_0, rr2_1, rr2_2, ge17, ge18, ge19, ne4, ne5, ne6, hp2_4_0, hp2_4_1, hp2_4_2, m67⟩
   refine WO.det (op_assign rfl) rfl (.free rfl) rfl rfl ?_
   refine WO.end (NE.code (CE.seq (CE.seq (CE.region ?_))))
   iterate 2 refine WL.det (op_move rfl) rfl rfl rfl ?_
   have r58 := (((((r34.ext m38).ext m39).mod m40 (nC (lE (lL (lL rr1_1.lt (lT m28.size m29.size)) ge10)) nN)).ext m41).ext m67)
   refine WL.call (oc_call (vs := [vS e2_4_0 0 n e2_4_1, vS e1_4_0 0 n e1_4_1]) (cap := []) rfl rfl rfl Try.call43 (c_eqFilterS n e2_4_1 e2_4_0 fs e1_4_1 e1_4_0 lfs (by omega) w69 rr2_1.rng r58.rng)) rfl rfl (ltb rfl) ?_
   rintro _ w70 ⟨rfl, m68⟩
   refine WL.det (op_not rfl) rfl rfl rfl ?_
   refine WL.det (op_move rfl) rfl rfl rfl ?_
   refine WL.yes rfl rfl rfl (ltb rfl) rfl rfl ?_
   refine WL.det (op_loadA (i := 0) (cs := fl e2_4_2) rfl Try.isAgg77 Try.sizeOf77 (rr2_2.ext m68).rng rfl (fl_whole hp2_4_0) (fl_len hp2_4_0)) rfl rfl rfl ?_
   have r59 := (((((r36.ext m39).mod m40 (nC (lE (lL (lL rr1_2.lt (lT m28.size m29.size)) ge10)) nN)).ext m41).ext m67).ext m68)
   refine WL.yes rfl rfl rfl (ltb rfl) rfl rfl ?_
   refine WL.det (op_loadA (i := 0) (cs := fl e1_4_2) rfl Try.isAgg77 Try.sizeOf77 r59.rng rfl (fl_whole hp1_4_0) (fl_len hp1_4_0)) rfl rfl rfl ?_
   refine WL.yes rfl rfl rfl (ltb rfl) rfl rfl ?_
   refine WL.call (oc_call (vs := [.agg (fl e2_4_2).toArray, .agg (fl e1_4_2).toArray]) (cap := []) rfl rfl rfl Try.call44 (c_eqBlock e2_4_2 e1_4_2 hp2_4_0 hp1_4_0 hp2_4_1 hp1_4_1 (by first | exact Outs.same (by assumption) (by assumption) | exact CnB.eq2 (by assumption) (by assumption)) w70)) rfl rfl (ltb rfl) ?_
   rintro _ w71 ⟨rfl, m69⟩
   refine WL.yes rfl rfl rfl (ltb rfl) rfl rfl ?_
   refine WL.det (op_not rfl) rfl rfl rfl ?_
   refine WL.det (op_pick_f rfl rfl rfl) rfl rfl rfl ?_
   refine WL.det (op_move rfl) rfl rfl rfl ?_
   refine WL.yes rfl rfl rfl (ltb rfl) rfl rfl ?_
   refine WL.det (op_move rfl) rfl rfl rfl ?_
   refine WL.yes rfl rfl rfl (ltb rfl) rfl rfl ?_
   refine WL.det (op_move rfl) rfl rfl rfl ?_
   refine WL.yes rfl rfl rfl (ltb rfl) rfl rfl ?_
   refine WL.det (op_nei rfl rfl) rfl rfl rfl ?_
   refine WL.det (op_pick_f rfl rfl rfl) rfl rfl rfl ?_
   refine WL.end (NE.code ?_)
   refine CE.cond_f rfl rfl ?_
   refine CE.skip' (NE.code (CE.seq (CE.region ?_)))
   refine WL.det (op_assign rfl) rfl rfl rfl ?_
   refine WL.end (NE.code (CE.seq (CE.region ?_)))
   iterate 2 refine WL.det (op_move rfl) rfl rfl rfl ?_
   have r60 := ((((r37.ext m41).ext m67).ext m68).ext m69)
   refine WL.call (oc_call (vs := [vS b'7 0 n c'4, vI 1]) (cap := []) rfl rfl rfl Try.call46 (c_heldFilterS n c'4 b'7 (markFs fs 1 n) 1 (markFs_len lfs (Nat.le_refl _)) hn (by omega) (by first | assumption | exact fun i hi => markFs_get (by assumption) hi | exact fun i hi => markFs_get (chF_len (by assumption) (Nat.le_refl _)) hi) w71 r60.rng)) rfl rfl (ltb rfl) ?_
   rintro _ w72 ⟨rfl, m70⟩
   refine WL.det (op_assign rfl) rfl rfl rfl ?_
   refine WL.end (NE.code (CE.seq (CE.seq (CE.region ?_))))
   refine WL.det (op_move rfl) rfl rfl rfl ?_
   refine WL.det (op_lti_f rfl rfl (Int.not_lt.2 (Int.natCast_nonneg _))) rfl rfl rfl ?_
   refine WL.end (NE.code ?_)
   refine CE.cond_f rfl rfl ?_
   refine CE.skip' (NE.code (CE.seq (CE.seq (CE.region ?_))))
   iterate 2 refine WL.det (op_move rfl) rfl rfl rfl ?_
   refine WL.det (op_nei_f rfl rfl rfl) rfl rfl rfl ?_
   refine WL.end (NE.code ?_)
   refine CE.cond_f rfl rfl ?_
   refine CE.skip' (NE.code (CE.seq (CE.region ?_)))
   refine WL.det (op_assign rfl) rfl rfl rfl ?_
   refine WL.end (NE.code (CE.ret' ?_))
   refine XE.leave1 Try.results6 rfl ?_
   have sz25 := (lT (lT (lT m1.size m27.size) m28.size) m29.size)
   refine ⟨rfl, (((((((((((((((((((((Mod.refl [] w).nt m1).nt m27).nt m28).nt m29).nt m30).nt m31).then m32 ((aC (.inr (lT sz13 lR)) aN))).nt m33).nt m34).nt m35).nt m36).then m37 ((aC (.inr (lT (lT m1.size m27.size) ge9)) aN))).nt m38).nt m39).then m40 ((aC (.inr (lT sz25 ge10)) aN))).nt m41).nt m67).nt m68).nt m69).nt m70)⟩

end Go.Proofs.Ytnpkhjafnjpnmaa
