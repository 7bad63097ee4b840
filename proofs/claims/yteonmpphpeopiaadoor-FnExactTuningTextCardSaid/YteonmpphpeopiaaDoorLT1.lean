/- The law on texts of tunings, walked. -/
import Derived.Test.YteonmpphpeopiaaDoorT3
import Derived.Test.YteonmpphpeopiaaDoorE8
import Derived.Test.YteonmpphpeopiaaDoorE13
set_option linter.unusedVariables false
set_option linter.unusedSimpArgs false
namespace Go.Proofs.YteonmpphpeopiaaDoor

set_option maxRecDepth 100000 in
set_option maxHeartbeats 8000000 in
theorem law_tun (ba : Nat) (oc : Nat) (nD : Nat) (cD : Nat) (AD : Option Addr) (bD : Nat) (oD : Nat) (xD : List Nat) (lnD : xD.length = nD) (hAD : 0 < nD → AD = some ⟨bD, oD, none⟩) (wD : W32 xD) (lba : ba < wid .f32) (loc : oc < wid .f32) (hn : nD ≤ 1048576) (hv : tunF ba oc xD nD = true) (w : World) (rD : Rng w bD oD (fl xD)) (T : LibT w LB 0 []) : Cl Tryd.prog 3 #[.agg #[vF ba, vF oc, .slice AD nD cD]] w fun v w' => v = .bool true ∧ Mod [] w w' := by
  refine Cl.of Tryd.func3 Tryd.ntmps3 rfl rfl (ρ := [(0, .agg #[vF ba, vF oc, .slice AD nD cD])]) rfl ?_
  refine CE.seq ?_
  refine CE.region ?_
  refine WL.op (op_box (cs := [vF ba, vF oc, .slice AD nD cD]) rfl rfl) rfl rfl (ltb rfl) ?_
  rintro _ w1 ⟨rfl, r1, m1, z1⟩
  refine WL.det (op_assign rfl) rfl rfl rfl ?_
  refine WL.end ?_
  refine NE.code ?_
  refine CE.seq ?_
  refine CE.region ?_
  refine WL.det (op_assign rfl) rfl rfl rfl ?_
  refine WL.end ?_
  refine NE.code ?_
  refine CE.seq ?_
  refine CE.region ?_
  refine WL.det (op_loadA (i := 0) (cs := [vF ba, vF oc, .slice AD nD cD]) rfl Tryd.isAgg25 Tryd.sizeOf25 r1.rng rfl rfl rfl) rfl rfl rfl ?_
  refine WL.det (op_move rfl) rfl rfl rfl ?_
  refine WL.call (oc_call (vs := [.agg #[vF ba, vF oc, .slice AD nD cD], vI 1048576]) (cap := []) rfl rfl rfl Tryd.call5 (c_szTuning 1048576 ba oc nD cD AD hn (by omega) w1)) rfl rfl (ltb rfl) ?_
  rintro _ w2 ⟨rfl, m2⟩
  refine WL.det (op_assign rfl) rfl rfl rfl ?_
  refine WL.end ?_
  refine NE.code ?_
  iterate 2 refine CE.seq ?_
  refine CE.region ?_
  refine WL.det (op_move rfl) rfl rfl rfl ?_
  refine WL.det (op_lti_f rfl rfl (Int.not_lt.2 (Int.natCast_nonneg _))) rfl rfl rfl ?_
  refine WL.end ?_
  refine NE.code ?_
  refine CE.cond_f rfl rfl ?_
  refine CE.skip' ?_
  refine NE.code ?_
  refine CE.seq ?_
  refine CE.region ?_
  refine WL.det (op_loadA (i := 0) (cs := [vF ba, vF oc, .slice AD nD cD]) rfl Tryd.isAgg25 Tryd.sizeOf25 (r1.ext m2).rng rfl rfl rfl) rfl rfl rfl ?_
  refine WL.call (oc_call (vs := [.agg #[vF ba, vF oc, .slice AD nD cD]]) (cap := []) rfl rfl rfl Tryd.call7 (c_toTuning ba oc nD cD AD bD oD xD lnD hAD hn w2 ((rD.ext m1).ext m2))) rfl rfl (ltb rfl) ?_
  rintro _ w3 ⟨bD'1, rfl, r2, ge1, m3⟩
  refine WL.call (oc_call (vs := [.agg #[vF ba, vF oc, vS bD'1 0 nD nD]]) (cap := []) rfl rfl rfl Tryd.call6 (c_sTunText ba oc nD nD bD'1 xD lnD hn lba loc (by first | assumption | exact W32.set (by assumption) (by first | assumption | exact wid_lt (by assumption)) | exact W32.zeros _ | exact W32.nil) hv w3 r2.rng)) rfl rfl (ltb rfl) ?_
  rintro _ w4 ⟨rfl, m4⟩
  refine WL.det (op_assign rfl) rfl rfl rfl ?_
  refine WL.end ?_
  refine NE.code ?_
  refine CE.seq ?_
  refine CE.region ?_
  have r3 := (((r1.ext m2).ext m3).ext m4)
  refine WL.det (op_loadA (i := 0) (cs := [vF ba, vF oc, .slice AD nD cD]) rfl Tryd.isAgg25 Tryd.sizeOf25 r3.rng rfl rfl rfl) rfl rfl rfl ?_
  have r4 := ((((rD.ext m1).ext m2).ext m3).ext m4)
  refine WL.call (oc_call (vs := [.agg #[vF ba, vF oc, .slice AD nD cD]]) (cap := []) rfl rfl rfl Tryd.call7 (c_toTuning ba oc nD cD AD bD oD xD lnD hAD hn w4 r4)) rfl rfl (ltb rfl) ?_
  rintro _ w5 ⟨bD'2, rfl, r5, ge2, m5⟩
  refine WL.op (op_alloc (cs := [vF 0, vF 0, .slice none 0 0]) Tryd.zeroValue28 rfl) rfl rfl (ltb rfl) ?_
  rintro _ w6 ⟨rfl, r6, m6, z2⟩
  refine WL.op0 (op_store (i := 0) (cs := [vF ba, vF oc, vS bD'2 0 nD nD]) rfl rfl rfl Tryd.sizeOf28 rfl r6 rfl (lB rfl) rfl) rfl rfl ?_
  rintro _ w7 ⟨r7, m7, z3⟩
  have r8 : Row w7 w5.heap.size 0 [vF ba, vF oc, vS bD'2 0 nD nD] := Row.congr r7 rfl
  refine WL.end ?_
  refine NE.code ?_
  refine CE.seq ?_
  refine CE.region ?_
  refine WL.det (op_loadA (i := 0) (cs := [vF ba, vF oc, vS bD'2 0 nD nD]) rfl Tryd.isAgg28 Tryd.sizeOf28 r8.rng rfl rfl rfl) rfl rfl rfl ?_
  have sz1 := (lT (lT (lT (lT m1.size m2.size) m3.size) m4.size) m5.size)
  have r9 := (LibT.youngS T ((((((T.ext m1).ext m2).ext m3).ext m4).ext m5).ext m6) m7 (allge_cons (lT sz1 lR) allge_nil))
  refine WL.call (oc_call (vs := [.agg #[vF ba, vF oc, vS bD'2 0 nD nD]]) (cap := []) rfl rfl rfl Tryd.call8 (c_iTunText ba oc nD nD bD'2 xD lnD hn lba loc (by first | assumption | exact W32.set (by assumption) (by first | assumption | exact wid_lt (by assumption)) | exact W32.zeros _ | exact W32.nil) hv w7 ((r5.ext m6).mod m7 (nC (lE (lL r5.lt lR)) nN)).rng r9)) rfl rfl (ltb rfl) ?_
  rintro _ w8 ⟨rfl, m8⟩
  refine WL.det (op_assign rfl) rfl rfl rfl ?_
  refine WL.end ?_
  refine NE.code ?_
  iterate 2 refine CE.seq ?_
  refine CE.region ?_
  iterate 2 refine WL.det (op_move rfl) rfl rfl rfl ?_
  refine WL.det (op_nes rfl rfl) rfl rfl rfl ?_
  refine WL.end ?_
  refine NE.code ?_
  refine CE.cond_f rfl (bnot_t (sEq_self _)) ?_
  refine CE.skip' ?_
  refine NE.code ?_
  iterate 2 refine CE.seq ?_
  refine CE.draw (fun | 2 => some (fun _ wA uA wB => ∃ (bD' : Nat), uA = .agg #[vF ba, vF oc, vS bD' 0 nD nD] ∧ Row wB bD' 0 (fl xD) ∧ wA.heap.size ≤ bD' ∧ Mod [] wA wB) | _ => none) [0, 1, 2] [3, 4] [] (by kernel_rfl) (by kernel_rfl) ?_
  have md1 : Mod [] w8 w8.drew := (Mod.refl _ _).drew
  generalize w8.drew = w9 at md1 ⊢
  refine DR.det (i := 0) rfl rfl (by kernel_rfl) (.free rfl) rfl rfl (fun wD mD => op_loadA (i := 0) (cs := [vF ba, vF oc, vS bD'2 0 nD nD]) rfl Tryd.isAgg28 Tryd.sizeOf28 (((r8.ext m8).ext md1).ext mD).rng rfl rfl rfl) ?_
  refine DR.det (i := 1) rfl rfl (by kernel_rfl) (.free rfl) rfl rfl (fun wD mD => op_loadA (i := 0) (cs := [vF ba, vF oc, .slice AD nD cD]) rfl Tryd.isAgg25 Tryd.sizeOf25 ((((((r3.ext m5).ext m6).mod m7 (nC (lE (lL (lL r1.lt (lT (lT (lT m2.size m3.size) m4.size) m5.size)) lR)) nN)).ext m8).ext md1).ext mD).rng rfl rfl rfl) ?_
  refine DR.one (i := 2) rfl rfl (by kernel_rfl) (.free rfl) rfl (ltb rfl) (vs := [.func (.func 7) #[] #[], .agg #[vF ba, vF oc, .slice AD nD cD]]) rfl ?_
  intro w10 m9
  refine ⟨oc_call (vs := [.agg #[vF ba, vF oc, .slice AD nD cD]]) (cap := []) rfl rfl rfl Tryd.call7 (c_toTuning ba oc nD cD AD bD oD xD lnD hAD hn w10 ((((Rng.youngS rD ((r4.ext m5).ext m6) m7 (allge_cons (lT sz1 lR) allge_nil)).ext m8).ext md1).ext m9)), ?_⟩
  rintro _ w11 ⟨bD'3, rfl, r10, ge3, m10⟩
  refine ⟨(((Mod.refl [] w9).nt m9).nt m10), ?_⟩
  refine DR.done rfl ?_
  intro w12 m11
  have r11 := (((((((r5.ext m6).mod m7 (nC (lE (lL r5.lt lR)) nN)).ext m8).ext md1).ext m9).ext m10).ext m11)
  refine WO.call rfl (.free rfl) rfl (ltb rfl) (oc_call (vs := [.agg #[vF ba, vF oc, vS bD'2 0 nD nD], .agg #[vF ba, vF oc, vS bD'3 0 nD nD]]) (cap := []) rfl rfl rfl Tryd.call9 (c_eqTuning ba ba oc oc nD nD (some ⟨bD'2, 0, none⟩) bD'2 0 xD ba oc nD (some ⟨bD'3, 0, none⟩) bD'3 0 lnD (fun _ => rfl) rfl rfl rfl rfl (fun _ => rfl) (by omega) w12 r11.rng (r10.ext m11).rng)) ?_
  rintro _ w13 ⟨rfl, m12⟩
  refine WO.det (op_not rfl) rfl (.free rfl) rfl rfl ?_
  refine WO.end ?_
  refine NE.code ?_
  refine CE.cond_f rfl rfl ?_
  refine CE.skip' ?_
  refine NE.code ?_
  refine CE.seq ?_
  refine CE.region ?_
  refine WL.det (op_assign rfl) rfl rfl rfl ?_
  refine WL.end ?_
  refine NE.code ?_
  refine CE.ret' ?_
  refine XE.leave1 Tryd.results3 rfl ?_
  refine ⟨rfl, ((((((((((((((Mod.refl [] w).nt m1).nt m2).nt m3).nt m4).nt m5).nt m6).then m7 ((aC (.inr (lT sz1 lR)) aN))).nt m8).nt md1).nt m9).nt m10).nt m11).nt m12)⟩

set_option maxRecDepth 100000 in
set_option maxHeartbeats 8000000 in
theorem law_tun_bad (ba : Nat) (oc : Nat) (nD : Nat) (cD : Nat) (AD : Option Addr) (bD : Nat) (oD : Nat) (xD : List Nat) (lnD : xD.length = nD) (hAD : 0 < nD → AD = some ⟨bD, oD, none⟩) (wD : W32 xD) (lba : ba < wid .f32) (loc : oc < wid .f32) (hn : nD ≤ 1048576) (hv : tunF ba oc xD nD = false) (w : World) (rD : Rng w bD oD (fl xD)) (T : LibT w LB 0 []) : Cl Tryd.prog 3 #[.agg #[vF ba, vF oc, .slice AD nD cD]] w fun v w' => v = .bool true ∧ Mod [] w w' := by
  refine Cl.of Tryd.func3 Tryd.ntmps3 rfl rfl (ρ := [(0, .agg #[vF ba, vF oc, .slice AD nD cD])]) rfl ?_
  refine CE.seq ?_
  refine CE.region ?_
  refine WL.op (op_box (cs := [vF ba, vF oc, .slice AD nD cD]) rfl rfl) rfl rfl (ltb rfl) ?_
  rintro _ w1 ⟨rfl, r1, m1, z1⟩
  refine WL.det (op_assign rfl) rfl rfl rfl ?_
  refine WL.end ?_
  refine NE.code ?_
  refine CE.seq ?_
  refine CE.region ?_
  refine WL.det (op_assign rfl) rfl rfl rfl ?_
  refine WL.end ?_
  refine NE.code ?_
  refine CE.seq ?_
  refine CE.region ?_
  refine WL.det (op_loadA (i := 0) (cs := [vF ba, vF oc, .slice AD nD cD]) rfl Tryd.isAgg25 Tryd.sizeOf25 r1.rng rfl rfl rfl) rfl rfl rfl ?_
  refine WL.det (op_move rfl) rfl rfl rfl ?_
  refine WL.call (oc_call (vs := [.agg #[vF ba, vF oc, .slice AD nD cD], vI 1048576]) (cap := []) rfl rfl rfl Tryd.call5 (c_szTuning 1048576 ba oc nD cD AD hn (by omega) w1)) rfl rfl (ltb rfl) ?_
  rintro _ w2 ⟨rfl, m2⟩
  refine WL.det (op_assign rfl) rfl rfl rfl ?_
  refine WL.end ?_
  refine NE.code ?_
  iterate 2 refine CE.seq ?_
  refine CE.region ?_
  refine WL.det (op_move rfl) rfl rfl rfl ?_
  refine WL.det (op_lti_f rfl rfl (Int.not_lt.2 (Int.natCast_nonneg _))) rfl rfl rfl ?_
  refine WL.end ?_
  refine NE.code ?_
  refine CE.cond_f rfl rfl ?_
  refine CE.skip' ?_
  refine NE.code ?_
  refine CE.seq ?_
  refine CE.region ?_
  refine WL.det (op_loadA (i := 0) (cs := [vF ba, vF oc, .slice AD nD cD]) rfl Tryd.isAgg25 Tryd.sizeOf25 (r1.ext m2).rng rfl rfl rfl) rfl rfl rfl ?_
  refine WL.call (oc_call (vs := [.agg #[vF ba, vF oc, .slice AD nD cD]]) (cap := []) rfl rfl rfl Tryd.call7 (c_toTuning ba oc nD cD AD bD oD xD lnD hAD hn w2 ((rD.ext m1).ext m2))) rfl rfl (ltb rfl) ?_
  rintro _ w3 ⟨bD'1, rfl, r2, ge1, m3⟩
  refine WL.call (oc_call (vs := [.agg #[vF ba, vF oc, vS bD'1 0 nD nD]]) (cap := []) rfl rfl rfl Tryd.call6 (c_sTunText_bad ba oc nD nD bD'1 xD lnD hn lba loc (by first | assumption | exact W32.set (by assumption) (by first | assumption | exact wid_lt (by assumption)) | exact W32.zeros _ | exact W32.nil) hv w3 r2.rng)) rfl rfl (ltb rfl) ?_
  rintro _ w4 ⟨rfl, m4⟩
  refine WL.det (op_assign rfl) rfl rfl rfl ?_
  refine WL.end ?_
  refine NE.code ?_
  refine CE.seq ?_
  refine CE.region ?_
  have r3 := (((r1.ext m2).ext m3).ext m4)
  refine WL.det (op_loadA (i := 0) (cs := [vF ba, vF oc, .slice AD nD cD]) rfl Tryd.isAgg25 Tryd.sizeOf25 r3.rng rfl rfl rfl) rfl rfl rfl ?_
  have r4 := ((((rD.ext m1).ext m2).ext m3).ext m4)
  refine WL.call (oc_call (vs := [.agg #[vF ba, vF oc, .slice AD nD cD]]) (cap := []) rfl rfl rfl Tryd.call7 (c_toTuning ba oc nD cD AD bD oD xD lnD hAD hn w4 r4)) rfl rfl (ltb rfl) ?_
  rintro _ w5 ⟨bD'2, rfl, r5, ge2, m5⟩
  refine WL.op (op_alloc (cs := [vF 0, vF 0, .slice none 0 0]) Tryd.zeroValue28 rfl) rfl rfl (ltb rfl) ?_
  rintro _ w6 ⟨rfl, r6, m6, z2⟩
  refine WL.op0 (op_store (i := 0) (cs := [vF ba, vF oc, vS bD'2 0 nD nD]) rfl rfl rfl Tryd.sizeOf28 rfl r6 rfl (lB rfl) rfl) rfl rfl ?_
  rintro _ w7 ⟨r7, m7, z3⟩
  have r8 : Row w7 w5.heap.size 0 [vF ba, vF oc, vS bD'2 0 nD nD] := Row.congr r7 rfl
  refine WL.end ?_
  refine NE.code ?_
  refine CE.seq ?_
  refine CE.region ?_
  refine WL.det (op_loadA (i := 0) (cs := [vF ba, vF oc, vS bD'2 0 nD nD]) rfl Tryd.isAgg28 Tryd.sizeOf28 r8.rng rfl rfl rfl) rfl rfl rfl ?_
  have sz1 := (lT (lT (lT (lT m1.size m2.size) m3.size) m4.size) m5.size)
  have r9 := (LibT.youngS T ((((((T.ext m1).ext m2).ext m3).ext m4).ext m5).ext m6) m7 (allge_cons (lT sz1 lR) allge_nil))
  refine WL.call (oc_call (vs := [.agg #[vF ba, vF oc, vS bD'2 0 nD nD]]) (cap := []) rfl rfl rfl Tryd.call8 (c_iTunText_bad ba oc nD nD bD'2 xD lnD hn lba loc (by first | assumption | exact W32.set (by assumption) (by first | assumption | exact wid_lt (by assumption)) | exact W32.zeros _ | exact W32.nil) hv w7 ((r5.ext m6).mod m7 (nC (lE (lL r5.lt lR)) nN)).rng r9)) rfl rfl (ltb rfl) ?_
  rintro _ w8 ⟨rfl, m8⟩
  refine WL.det (op_assign rfl) rfl rfl rfl ?_
  refine WL.end ?_
  refine NE.code ?_
  iterate 2 refine CE.seq ?_
  refine CE.region ?_
  iterate 2 refine WL.det (op_move rfl) rfl rfl rfl ?_
  refine WL.det (op_nes rfl rfl) rfl rfl rfl ?_
  refine WL.end ?_
  refine NE.code ?_
  refine CE.cond_f rfl (bnot_t (sEq_self _)) ?_
  refine CE.skip' ?_
  refine NE.code ?_
  iterate 2 refine CE.seq ?_
  refine CE.draw (fun | 2 => some (fun _ wA uA wB => ∃ (bD' : Nat), uA = .agg #[vF ba, vF oc, vS bD' 0 nD nD] ∧ Row wB bD' 0 (fl xD) ∧ wA.heap.size ≤ bD' ∧ Mod [] wA wB) | _ => none) [0, 1, 2] [3, 4] [] (by kernel_rfl) (by kernel_rfl) ?_
  have md1 : Mod [] w8 w8.drew := (Mod.refl _ _).drew
  generalize w8.drew = w9 at md1 ⊢
  refine DR.det (i := 0) rfl rfl (by kernel_rfl) (.free rfl) rfl rfl (fun wD mD => op_loadA (i := 0) (cs := [vF ba, vF oc, vS bD'2 0 nD nD]) rfl Tryd.isAgg28 Tryd.sizeOf28 (((r8.ext m8).ext md1).ext mD).rng rfl rfl rfl) ?_
  refine DR.det (i := 1) rfl rfl (by kernel_rfl) (.free rfl) rfl rfl (fun wD mD => op_loadA (i := 0) (cs := [vF ba, vF oc, .slice AD nD cD]) rfl Tryd.isAgg25 Tryd.sizeOf25 ((((((r3.ext m5).ext m6).mod m7 (nC (lE (lL (lL r1.lt (lT (lT (lT m2.size m3.size) m4.size) m5.size)) lR)) nN)).ext m8).ext md1).ext mD).rng rfl rfl rfl) ?_
  refine DR.one (i := 2) rfl rfl (by kernel_rfl) (.free rfl) rfl (ltb rfl) (vs := [.func (.func 7) #[] #[], .agg #[vF ba, vF oc, .slice AD nD cD]]) rfl ?_
  intro w10 m9
  refine ⟨oc_call (vs := [.agg #[vF ba, vF oc, .slice AD nD cD]]) (cap := []) rfl rfl rfl Tryd.call7 (c_toTuning ba oc nD cD AD bD oD xD lnD hAD hn w10 ((((Rng.youngS rD ((r4.ext m5).ext m6) m7 (allge_cons (lT sz1 lR) allge_nil)).ext m8).ext md1).ext m9)), ?_⟩
  rintro _ w11 ⟨bD'3, rfl, r10, ge3, m10⟩
  refine ⟨(((Mod.refl [] w9).nt m9).nt m10), ?_⟩
  refine DR.done rfl ?_
  intro w12 m11
  have r11 := (((((((r5.ext m6).mod m7 (nC (lE (lL r5.lt lR)) nN)).ext m8).ext md1).ext m9).ext m10).ext m11)
  refine WO.call rfl (.free rfl) rfl (ltb rfl) (oc_call (vs := [.agg #[vF ba, vF oc, vS bD'2 0 nD nD], .agg #[vF ba, vF oc, vS bD'3 0 nD nD]]) (cap := []) rfl rfl rfl Tryd.call9 (c_eqTuning ba ba oc oc nD nD (some ⟨bD'2, 0, none⟩) bD'2 0 xD ba oc nD (some ⟨bD'3, 0, none⟩) bD'3 0 lnD (fun _ => rfl) rfl rfl rfl rfl (fun _ => rfl) (by omega) w12 r11.rng (r10.ext m11).rng)) ?_
  rintro _ w13 ⟨rfl, m12⟩
  refine WO.det (op_not rfl) rfl (.free rfl) rfl rfl ?_
  refine WO.end ?_
  refine NE.code ?_
  refine CE.cond_f rfl rfl ?_
  refine CE.skip' ?_
  refine NE.code ?_
  refine CE.seq ?_
  refine CE.region ?_
  refine WL.det (op_assign rfl) rfl rfl rfl ?_
  refine WL.end ?_
  refine NE.code ?_
  refine CE.ret' ?_
  refine XE.leave1 Tryd.results3 rfl ?_
  refine ⟨rfl, ((((((((((((((Mod.refl [] w).nt m1).nt m2).nt m3).nt m4).nt m5).nt m6).then m7 ((aC (.inr (lT sz1 lR)) aN))).nt m8).nt md1).nt m9).nt m10).nt m11).nt m12)⟩

set_option maxRecDepth 100000 in
set_option maxHeartbeats 8000000 in
theorem law_tun_o (ba : Nat) (oc : Nat) (nD : Nat) (cD : Nat) (AD : Option Addr) (bD : Nat) (oD : Nat) (xD : List Nat) (lnD : xD.length = nD) (hAD : 0 < nD → AD = some ⟨bD, oD, none⟩) (wD : W32 xD) (hn : 1048576 < nD) (hm : nD ≤ 9223372036854775807) (w : World) (rD : Rng w bD oD (fl xD)) : Cl Tryd.prog 3 #[.agg #[vF ba, vF oc, .slice AD nD cD]] w fun v w' => v = .bool true ∧ Mod [] w w' := by
  refine Cl.of Tryd.func3 Tryd.ntmps3 rfl rfl (ρ := [(0, .agg #[vF ba, vF oc, .slice AD nD cD])]) rfl ?_
  refine CE.seq ?_
  refine CE.region ?_
  refine WL.op (op_box (cs := [vF ba, vF oc, .slice AD nD cD]) rfl rfl) rfl rfl (ltb rfl) ?_
  rintro _ w1 ⟨rfl, r1, m1, z1⟩
  refine WL.det (op_assign rfl) rfl rfl rfl ?_
  refine WL.end ?_
  refine NE.code ?_
  refine CE.seq ?_
  refine CE.region ?_
  refine WL.det (op_assign rfl) rfl rfl rfl ?_
  refine WL.end ?_
  refine NE.code ?_
  refine CE.seq ?_
  refine CE.region ?_
  refine WL.det (op_loadA (i := 0) (cs := [vF ba, vF oc, .slice AD nD cD]) rfl Tryd.isAgg25 Tryd.sizeOf25 r1.rng rfl rfl rfl) rfl rfl rfl ?_
  refine WL.det (op_move rfl) rfl rfl rfl ?_
  refine WL.call (oc_call (vs := [.agg #[vF ba, vF oc, .slice AD nD cD], vI 1048576]) (cap := []) rfl rfl rfl Tryd.call5 (c_szTuning_over 1048576 ba oc nD cD AD hn (by omega) hm w1)) rfl rfl (ltb rfl) ?_
  rintro _ w2 ⟨rfl, m2⟩
  refine WL.det (op_assign rfl) rfl rfl rfl ?_
  refine WL.end ?_
  refine NE.code ?_
  iterate 2 refine CE.seq ?_
  refine CE.region ?_
  refine WL.det (op_move rfl) rfl rfl rfl ?_
  refine WL.det (op_lti rfl rfl) rfl rfl rfl ?_
  refine WL.end ?_
  refine NE.code ?_
  refine CE.cond_t rfl rfl ?_
  refine CE.seq ?_
  refine CE.region ?_
  refine WL.det (op_assign rfl) rfl rfl rfl ?_
  refine WL.end ?_
  refine NE.code ?_
  refine CE.ret' ?_
  refine XE.ret_then ?_
  refine XE.leave1 Tryd.results3 rfl ?_
  refine ⟨rfl, (((Mod.refl [] w).nt m1).nt m2)⟩

end Go.Proofs.YteonmpphpeopiaaDoor
