/- Texts of tunings. -/
import Derived.Test.YteonmpphpeopiaaDoorT1
set_option linter.unusedVariables false
set_option linter.unusedSimpArgs false
namespace Go.Proofs.YteonmpphpeopiaaDoor

set_option maxRecDepth 100000 in
set_option maxHeartbeats 2000000 in
theorem c_l07Text (ba : Nat) (oc : Nat) (n : Nat) (c : Nat) (b : Nat) (ds : List Nat) (p : Nat) (ln : ds.length = n) (hn : n ≤ 31) (lba : ba < wid .f32) (loc : oc < wid .f32) (hw : W32 ds) (w : World) (q : Rng w p 0 [vF ba, vF oc, vS b 0 n c]) (r : Rng w b 0 (fl ds)) : Cl Tryd.prog 15 #[vP p 0] w fun v w' => v = .string (mkS (tunT ba oc ds)) ∧ Mod [] w w' := by
  refine Cl.of Tryd.func15 Tryd.ntmps15 rfl rfl (ρ := [(0, vP p 0)]) rfl ?_
  refine CE.seq ?_
  refine CE.region ?_
  refine WL.det (op_assign rfl) rfl rfl rfl ?_
  refine WL.end ?_
  refine NE.code ?_
  refine CE.seq ?_
  refine CE.draw (fun | 9 => some (fun _ wA uA wB => uA = .string (mkS (smpL [ba, oc])) ∧ Mod [] wA wB) | 15 => some (fun _ wA uA wB => uA = .string (mkS (smpL ds)) ∧ Mod [] wA wB) | _ => none) [0, 1, 2, 3, 4, 5, 6, 7, 8, 9, 10, 11, 12, 13, 14, 15] [16, 17] [] (by kernel_rfl) (by kernel_rfl) ?_
  have md1 : Mod [] w w.drew := (Mod.refl _ _).drew
  generalize w.drew = w1 at md1 ⊢
  refine DR.det (i := 0) rfl rfl (by kernel_rfl) (.free rfl) rfl rfl (fun wD mD => op_move rfl) ?_
  refine DR.det (i := 1) rfl rfl (by kernel_rfl) (.free rfl) rfl rfl (fun wD mD => op_nilCheck rfl) ?_
  refine DR.det (i := 2) rfl rfl (by kernel_rfl) (.free rfl) rfl rfl (fun wD mD => op_fieldAddr (off' := 0) rfl Tryd.runUnderlying28 rfl rfl Tryd.sizeOf22 rfl) ?_
  refine DR.det (i := 3) rfl rfl (by kernel_rfl) (.free rfl) rfl rfl (fun wD mD => op_load1 (i := 0) rfl Tryd.isAgg22 ((q.ext md1).ext mD) rfl rfl) ?_
  refine DR.det (i := 4) rfl rfl (by kernel_rfl) (.free rfl) rfl rfl (fun wD mD => op_move rfl) ?_
  refine DR.det (i := 5) rfl rfl (by kernel_rfl) (.free rfl) rfl rfl (fun wD mD => op_nilCheck rfl) ?_
  refine DR.det (i := 6) rfl rfl (by kernel_rfl) (.free rfl) rfl rfl (fun wD mD => op_fieldAddr (off' := 1) rfl Tryd.runUnderlying28 rfl rfl Tryd.sizeOf22 rfl) ?_
  refine DR.det (i := 7) rfl rfl (by kernel_rfl) (.free rfl) rfl rfl (fun wD mD => op_load1 (i := 1) rfl Tryd.isAgg22 ((q.ext md1).ext mD) rfl rfl) ?_
  refine DR.det (i := 11) rfl rfl (by kernel_rfl) (.free rfl) rfl rfl (fun wD mD => op_move rfl) ?_
  refine DR.det (i := 12) rfl rfl (by kernel_rfl) (.free rfl) rfl rfl (fun wD mD => op_nilCheck rfl) ?_
  refine DR.det (i := 13) rfl rfl (by kernel_rfl) (.free rfl) rfl rfl (fun wD mD => op_fieldAddr (off' := 2) rfl Tryd.runUnderlying28 rfl rfl Tryd.sizeOf23 rfl) ?_
  refine DR.det (i := 14) rfl rfl (by kernel_rfl) (.free rfl) rfl rfl (fun wD mD => op_load1 (i := 2) rfl Tryd.isAgg23 ((q.ext md1).ext mD) rfl rfl) ?_
  refine DR.one1 (i := 8) rfl rfl (by kernel_rfl) (.free rfl) rfl (ltb rfl) ?_
  intro w2 m1
  refine Op1.mono (op_buildSl (qs := [(0, vF ba), (1, vF oc)]) (cells := #[vF ba, vF oc]) rfl Tryd.runUnderlying23 Tryd.sizeOf22 Tryd.zeroValue22 (by decide) (by decide) (by kernel_rfl)) ?_
  rintro _ w3 ⟨rfl, r1, m2, z1⟩
  refine ⟨(((Mod.refl [] w1).nt m1).nt m2), ?_⟩
  refine DR.rebase ?_
  refine DR.call (i := 9) (fun uA => uA = .string (mkS (smpL [ba, oc]))) rfl rfl (by kernel_rfl) (.free rfl) rfl (ltb rfl) ⟨_, rfl⟩ (vs := [.func (.func 24) #[] #[], vS w2.heap.size 0 2 2]) rfl (fun wD mD => oc_call (vs := [vS w2.heap.size 0 2 2]) (cap := []) rfl rfl rfl Tryd.call24 (c_l04Smp 2 2 (some ⟨w2.heap.size, 0, none⟩) w2.heap.size 0 [ba, oc] rfl (fun _ => rfl) (by omega) (by first | assumption | exact w32_two (by assumption) (by assumption) | exact w32_app (w32_two (by assumption) (by assumption)) (by assumption)) wD (r1.ext mD).rng)) ?_ ?_
  · rintro w1 _ w2 m1 ⟨rfl, m2⟩; exact ⟨rfl, m2⟩
  rintro _ rfl
  refine DR.det (i := 10) rfl rfl (by kernel_rfl) (.free rfl) rfl rfl (fun wD mD => op_strAdd rfl rfl (by have : (⟨#[116, 117, 110, 105, 110, 103]⟩ : ByteArray).size = 6 := rfl; have := mkS_size (smpL [ba, oc]); have : (smpL [ba, oc]).length = 18 := smpL_len [ba, oc]; omega)) ?_
  refine DR.call (i := 15) (fun uA => uA = .string (mkS (smpL ds))) rfl rfl (by kernel_rfl) (.free rfl) rfl (ltb rfl) ⟨_, rfl⟩ (vs := [.func (.func 24) #[] #[], vS b 0 n c]) rfl (fun wD mD => oc_call (vs := [vS b 0 n c]) (cap := []) rfl rfl rfl Tryd.call24 (c_l04Smp n c (some ⟨b, 0, none⟩) b 0 ds ln (fun _ => rfl) (by omega) hw wD ((((r.ext md1).ext m1).ext m2).ext mD))) ?_ ?_
  · rintro w1 _ w2 m1 ⟨rfl, m2⟩; exact ⟨rfl, m2⟩
  rintro _ rfl
  refine DR.done rfl ?_
  intro w4 m3
  refine WO.det (op_strAdd rfl rfl (by have := str_size (⟨#[116, 117, 110, 105, 110, 103]⟩ : ByteArray) (mkS (smpL [ba, oc])); have : (⟨#[116, 117, 110, 105, 110, 103]⟩ : ByteArray).size = 6 := rfl; have := mkS_size (smpL [ba, oc]); have : (smpL [ba, oc]).length = 18 := smpL_len [ba, oc]; have := mkS_size (smpL ds); have := smpL_len ds; omega)) rfl (.free rfl) rfl rfl ?_
  refine WO.det (op_assign rfl) rfl (.free rfl) rfl rfl ?_
  refine WO.end ?_
  refine NE.code ?_
  refine CE.ret' ?_
  refine XE.leave1 Tryd.results15 rfl ?_
  refine ⟨?_, (((((Mod.refl [] w).nt md1).nt m1).nt m2).nt m3)⟩
  all_goals exact congrArg Value.string (tun_smp ba oc ds)

set_option maxRecDepth 100000 in
set_option maxHeartbeats 2000000 in
theorem c_sTunText (ba : Nat) (oc : Nat) (n : Nat) (c : Nat) (b : Nat) (ds : List Nat) (ln : ds.length = n) (hn : n ≤ 1048576) (lba : ba < wid .f32) (loc : oc < wid .f32) (hw : W32 ds) (hv : tunF ba oc ds n = true) (w : World) (r : Rng w b 0 (fl ds)) : Cl Tryd.prog 6 #[.agg #[vF ba, vF oc, vS b 0 n c]] w fun v w' => v = .string (mkS (tunT ba oc ds)) ∧ Mod [] w w' := by
  have hN := tunF_n hv
  refine Cl.of Tryd.func6 Tryd.ntmps6 rfl rfl (ρ := [(0, .agg #[vF ba, vF oc, vS b 0 n c])]) rfl ?_
  refine CE.seq ?_
  refine CE.region ?_
  refine WL.op (op_box (cs := [vF ba, vF oc, vS b 0 n c]) rfl rfl) rfl rfl (ltb rfl) ?_
  rintro _ w1 ⟨rfl, r1, m1, z1⟩
  refine WL.det (op_assign rfl) rfl rfl rfl ?_
  refine WL.end ?_
  refine NE.code ?_
  iterate 2 refine CE.seq ?_
  refine CE.region ?_
  refine WL.call (oc_call (vs := [vP w.heap.size 0]) (cap := []) rfl rfl rfl Tryd.call14 (c_l07Ok ba oc n c b ds w.heap.size ln (by omega) w1 r1.rng (r.ext m1))) rfl rfl (ltb rfl) ?_
  rintro _ w2 ⟨rfl, m2⟩
  refine WL.det (op_not rfl) rfl rfl rfl ?_
  refine WL.end ?_
  refine NE.code ?_
  refine CE.cond_f rfl (bnot_t hv) ?_
  refine CE.skip' ?_
  refine NE.code ?_
  refine CE.seq ?_
  refine CE.region ?_
  refine WL.call (oc_call (vs := [vP w.heap.size 0]) (cap := []) rfl rfl rfl Tryd.call15 (c_l07Text ba oc n c b ds w.heap.size ln (by first | assumption | omega | exact (tunF_n (by assumption)).2) (by assumption) (by assumption) hw w2 (r1.ext m2).rng ((r.ext m1).ext m2))) rfl rfl (ltb rfl) ?_
  rintro _ w3 ⟨rfl, m3⟩
  refine WL.det (op_assign rfl) rfl rfl rfl ?_
  refine WL.end ?_
  refine NE.code ?_
  refine CE.ret' ?_
  refine XE.leave1 Tryd.results6 rfl ?_
  refine ⟨rfl, ((((Mod.refl [] w).nt m1).nt m2).nt m3)⟩

set_option maxRecDepth 100000 in
set_option maxHeartbeats 2000000 in
theorem c_iTunText (ba : Nat) (oc : Nat) (n : Nat) (c : Nat) (b : Nat) (ds : List Nat) (ln : ds.length = n) (hn : n ≤ 1048576) (lba : ba < wid .f32) (loc : oc < wid .f32) (hw : W32 ds) (hv : tunF ba oc ds n = true) (w : World) (r : Rng w b 0 (fl ds)) (T : LibT w LB 0 []) : Cl Tryd.prog 8 #[.agg #[vF ba, vF oc, vS b 0 n c]] w fun v w' => v = .string (mkS (tunT ba oc ds)) ∧ Mod [] w w' := by
  have hN := tunF_n hv
  refine Cl.of Tryd.func8 Tryd.ntmps8 rfl rfl (ρ := [(0, .agg #[vF ba, vF oc, vS b 0 n c])]) rfl ?_
  refine CE.seq ?_
  refine CE.region ?_
  refine WL.op (op_box (cs := [vF ba, vF oc, vS b 0 n c]) rfl rfl) rfl rfl (ltb rfl) ?_
  rintro _ w1 ⟨rfl, r1, m1, z1⟩
  refine WL.det (op_assign rfl) rfl rfl rfl ?_
  refine WL.end ?_
  refine NE.code ?_
  iterate 2 refine CE.seq ?_
  refine CE.region ?_
  refine WL.det (op_loadA (i := 0) (cs := [vF ba, vF oc, vS b 0 n c]) rfl Tryd.isAgg28 Tryd.sizeOf28 r1.rng rfl rfl rfl) rfl rfl rfl ?_
  refine WL.call (oc_call (vs := [.agg #[vF ba, vF oc, vS b 0 n c]]) (cap := []) rfl rfl rfl Tryd.call17 (c_iValidT ba oc n c b ds ln (by omega) w1 (r.ext m1))) rfl rfl (ltb rfl) ?_
  rintro _ w2 ⟨rfl, m2⟩
  refine WL.det (op_not rfl) rfl rfl rfl ?_
  refine WL.end ?_
  refine NE.code ?_
  refine CE.cond_f rfl (bnot_t hv) ?_
  refine CE.skip' ?_
  refine NE.code ?_
  refine CE.seq ?_
  refine CE.region ?_
  refine WL.det (op_fieldAddr (off' := 0) rfl Tryd.runUnderlying28 rfl rfl Tryd.sizeOf22 rfl) rfl rfl rfl ?_
  refine WL.det (op_load1 (i := 0) rfl Tryd.isAgg22 (r1.ext m2).rng rfl rfl) rfl rfl rfl ?_
  refine WL.det (op_fieldAddr (off' := 1) rfl Tryd.runUnderlying28 rfl rfl Tryd.sizeOf22 rfl) rfl rfl rfl ?_
  refine WL.det (op_load1 (i := 1) rfl Tryd.isAgg22 (r1.ext m2).rng rfl rfl) rfl rfl rfl ?_
  refine WL.op (op_buildSlO (qs := [(0, vF ba), (1, vF oc)]) (cells := #[vF ba, vF oc]) rfl Tryd.runUnderlying23 Tryd.sizeOf22 Tryd.zeroValue22 (by decide) (by decide) (by kernel_rfl) rfl) rfl rfl (ltb rfl) ?_
  rintro _ w3 ⟨rfl, ow1, r2, m3, z2⟩
  have ow2 : Own 22 1 w2.heap.size w3 (some ⟨w2.heap.size, 0, none⟩) 2 2 (fl [ba, oc]) := ow1
  refine WL.det (op_fieldAddr (off' := 2) rfl Tryd.runUnderlying28 rfl rfl Tryd.sizeOf23 rfl) rfl rfl rfl ?_
  refine WL.det (op_load1 (i := 2) rfl Tryd.isAgg23 ((r1.ext m2).ext m3).rng rfl rfl) rfl rfl rfl ?_
  have r3 := (((r.ext m1).ext m2).ext m3)
  refine WL.op (op_appP (i := Tryd.t22) (bt := 4) (r := (n + 2)) (ys := fl ([ba, oc] ++ ds)) rfl rfl (fun _ => rfl) Tryd.underlying23 rfl rfl rfl rfl rfl r3 (fl_len ln) (fl_one _) ow2 m3.size (by omega) (by omega) (by decide) (by omega) (fl_app _ _)) rfl rfl (ltb rfl) ?_
  rintro _ w4 ⟨A1, c1, b1, b2, rfl, ow3, hA1, r4, ge1, ge2, m4⟩
  have r5 := (LibT.youngS T (((T.ext m1).ext m2).ext m3) m4 (allge_cons (lT (lT m1.size m2.size) ge2) allge_nil))
  refine WL.call (oc_call (vs := [.slice A1 (n + 2) c1]) (cap := []) rfl rfl rfl Tryd.call18 (c_smpText (n + 2) c1 A1 b2 0 ([ba, oc] ++ ds) ((app_len (show List.length [ba, oc] = 2 from rfl) ln).trans (by omega)) hA1 (by omega) (w32_app (w32_two lba loc) hw) (by omega) w4 r4 r5)) rfl rfl (ltb rfl) ?_
  rintro _ w5 ⟨rfl, m5⟩
  refine WL.det (op_strAdd rfl rfl (by have : (⟨#[116, 117, 110, 105, 110, 103, 32]⟩ : ByteArray).size = 7 := rfl; have := mkS_size (Lib.join (wordsL ([ba, oc] ++ ds)) [32]); have := words_le (xs := ([ba, oc] ++ ds)) (n := n + 2) (by first | assumption | (rw [List.length_append, ln]; show 2 + n = _; omega)) (by omega); omega)) rfl rfl rfl ?_
  refine WL.det (op_assign rfl) rfl rfl rfl ?_
  refine WL.end ?_
  refine NE.code ?_
  refine CE.ret' ?_
  refine XE.leave1 Tryd.results8 rfl ?_
  refine ⟨?_, ((((((Mod.refl [] w).nt m1).nt m2).nt m3).then m4 ((aC (.inr (lT (lT m1.size m2.size) ge2)) aN))).nt m5)⟩
  all_goals exact congrArg Value.string (tun_join ba oc ds)

set_option maxRecDepth 100000 in
set_option maxHeartbeats 2000000 in
theorem c_sTunText_bad (ba : Nat) (oc : Nat) (n : Nat) (c : Nat) (b : Nat) (ds : List Nat) (ln : ds.length = n) (hn : n ≤ 1048576) (lba : ba < wid .f32) (loc : oc < wid .f32) (hw : W32 ds) (hv : tunF ba oc ds n = false) (w : World) (r : Rng w b 0 (fl ds)) : Cl Tryd.prog 6 #[.agg #[vF ba, vF oc, vS b 0 n c]] w fun v w' => v = .string (⟨#[]⟩) ∧ Mod [] w w' := by
  refine Cl.of Tryd.func6 Tryd.ntmps6 rfl rfl (ρ := [(0, .agg #[vF ba, vF oc, vS b 0 n c])]) rfl ?_
  refine CE.seq ?_
  refine CE.region ?_
  refine WL.op (op_box (cs := [vF ba, vF oc, vS b 0 n c]) rfl rfl) rfl rfl (ltb rfl) ?_
  rintro _ w1 ⟨rfl, r1, m1, z1⟩
  refine WL.det (op_assign rfl) rfl rfl rfl ?_
  refine WL.end ?_
  refine NE.code ?_
  iterate 2 refine CE.seq ?_
  refine CE.region ?_
  refine WL.call (oc_call (vs := [vP w.heap.size 0]) (cap := []) rfl rfl rfl Tryd.call14 (c_l07Ok ba oc n c b ds w.heap.size ln (by omega) w1 r1.rng (r.ext m1))) rfl rfl (ltb rfl) ?_
  rintro _ w2 ⟨rfl, m2⟩
  refine WL.det (op_not rfl) rfl rfl rfl ?_
  refine WL.end ?_
  refine NE.code ?_
  refine CE.cond_t rfl (bnot_f hv) ?_
  refine CE.seq ?_
  refine CE.region ?_
  refine WL.det (op_assign rfl) rfl rfl rfl ?_
  refine WL.end ?_
  refine NE.code ?_
  refine CE.ret' ?_
  refine XE.ret_then ?_
  refine XE.leave1 Tryd.results6 rfl ?_
  refine ⟨rfl, (((Mod.refl [] w).nt m1).nt m2)⟩

set_option maxRecDepth 100000 in
set_option maxHeartbeats 2000000 in
theorem c_iTunText_bad (ba : Nat) (oc : Nat) (n : Nat) (c : Nat) (b : Nat) (ds : List Nat) (ln : ds.length = n) (hn : n ≤ 1048576) (lba : ba < wid .f32) (loc : oc < wid .f32) (hw : W32 ds) (hv : tunF ba oc ds n = false) (w : World) (r : Rng w b 0 (fl ds)) (T : LibT w LB 0 []) : Cl Tryd.prog 8 #[.agg #[vF ba, vF oc, vS b 0 n c]] w fun v w' => v = .string (⟨#[]⟩) ∧ Mod [] w w' := by
  refine Cl.of Tryd.func8 Tryd.ntmps8 rfl rfl (ρ := [(0, .agg #[vF ba, vF oc, vS b 0 n c])]) rfl ?_
  refine CE.seq ?_
  refine CE.region ?_
  refine WL.op (op_box (cs := [vF ba, vF oc, vS b 0 n c]) rfl rfl) rfl rfl (ltb rfl) ?_
  rintro _ w1 ⟨rfl, r1, m1, z1⟩
  refine WL.det (op_assign rfl) rfl rfl rfl ?_
  refine WL.end ?_
  refine NE.code ?_
  iterate 2 refine CE.seq ?_
  refine CE.region ?_
  refine WL.det (op_loadA (i := 0) (cs := [vF ba, vF oc, vS b 0 n c]) rfl Tryd.isAgg28 Tryd.sizeOf28 r1.rng rfl rfl rfl) rfl rfl rfl ?_
  refine WL.call (oc_call (vs := [.agg #[vF ba, vF oc, vS b 0 n c]]) (cap := []) rfl rfl rfl Tryd.call17 (c_iValidT ba oc n c b ds ln (by omega) w1 (r.ext m1))) rfl rfl (ltb rfl) ?_
  rintro _ w2 ⟨rfl, m2⟩
  refine WL.det (op_not rfl) rfl rfl rfl ?_
  refine WL.end ?_
  refine NE.code ?_
  refine CE.cond_t rfl (bnot_f hv) ?_
  refine CE.seq ?_
  refine CE.region ?_
  refine WL.det (op_assign rfl) rfl rfl rfl ?_
  refine WL.end ?_
  refine NE.code ?_
  refine CE.ret' ?_
  refine XE.ret_then ?_
  refine XE.leave1 Tryd.results8 rfl ?_
  refine ⟨rfl, (((Mod.refl [] w).nt m1).nt m2)⟩

end Go.Proofs.YteonmpphpeopiaaDoor
