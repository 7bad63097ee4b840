/- Texts of tunings. -/
import Derived.Test.YtpjjnopjpgnlaaaDoorT1
set_option linter.unusedVariables false
set_option linter.unusedSimpArgs false
namespace Go.Proofs.YtpjjnopjpgnlaaaDoor

set_option maxRecDepth 100000 in
set_option maxHeartbeats 2000000 in
theorem c_iTunText (ba : Nat) (oc : Nat) (n : Nat) (c : Nat) (b : Nat) (o : Nat) (ds : List Nat) (ln : ds.length = n) (hn : n ≤ 1048576) (lba : ba < wid .f32) (loc : oc < wid .f32) (hw : W32 ds) (hv : tunF ba oc ds n = true) (w : World) (r : Rng w b o (fl ds)) (T : LibT w LB 0 []) : Cl Tryd.prog 14 #[.agg #[vF ba, vF oc, vS b o n c]] w fun v w' => v = .string (mkS (tunT ba oc ds)) ∧ Mod [] w w' := by
  have hN := tunF_n hv
  refine Cl.of Tryd.func14 Tryd.ntmps14 rfl rfl (ρ := [(0, .agg #[vF ba, vF oc, vS b o n c])]) rfl ?_
  refine CE.seq ?_
  refine CE.region ?_
  refine WL.op (op_box (cs := [vF ba, vF oc, vS b o n c]) rfl rfl) rfl rfl (ltb rfl) ?_
  rintro _ w1 ⟨rfl, r1, m1, z1⟩
  refine WL.det (op_assign rfl) rfl rfl rfl ?_
  refine WL.end ?_
  refine NE.code ?_
  iterate 2 refine CE.seq ?_
  refine CE.region ?_
  refine WL.det (op_loadA (i := 0) (cs := [vF ba, vF oc, vS b o n c]) rfl Tryd.isAgg25 Tryd.sizeOf25 r1.rng rfl rfl rfl) rfl rfl rfl ?_
  refine WL.call (oc_call (vs := [.agg #[vF ba, vF oc, vS b o n c]]) (cap := []) rfl rfl rfl Tryd.call24 (c_iValidT ba oc n c b o ds ln (by omega) w1 (r.ext m1))) rfl rfl (ltb rfl) ?_
  rintro _ w2 ⟨rfl, m2⟩
  refine WL.det (op_not rfl) rfl rfl rfl ?_
  refine WL.end ?_
  refine NE.code ?_
  refine CE.cond_f rfl (bnot_t hv) ?_
  refine CE.skip' ?_
  refine NE.code ?_
  refine CE.seq ?_
  refine CE.region ?_
  refine WL.det (op_fieldAddr (off' := 0) rfl Tryd.runUnderlying25 rfl rfl Tryd.sizeOf22 rfl) rfl rfl rfl ?_
  refine WL.det (op_load1 (i := 0) rfl Tryd.isAgg22 (r1.ext m2).rng rfl rfl) rfl rfl rfl ?_
  refine WL.det (op_fieldAddr (off' := 1) rfl Tryd.runUnderlying25 rfl rfl Tryd.sizeOf22 rfl) rfl rfl rfl ?_
  refine WL.det (op_load1 (i := 1) rfl Tryd.isAgg22 (r1.ext m2).rng rfl rfl) rfl rfl rfl ?_
  refine WL.op (op_buildSlO (qs := [(0, vF ba), (1, vF oc)]) (cells := #[vF ba, vF oc]) rfl Tryd.runUnderlying23 Tryd.sizeOf22 Tryd.zeroValue22 (by decide) (by decide) (by kernel_rfl) rfl) rfl rfl (ltb rfl) ?_
  rintro _ w3 ⟨rfl, ow1, r2, m3, z2⟩
  have ow2 : Own 22 1 w2.heap.size w3 (some ⟨w2.heap.size, 0, none⟩) 2 2 (fl [ba, oc]) := ow1
  refine WL.det (op_fieldAddr (off' := 2) rfl Tryd.runUnderlying25 rfl rfl Tryd.sizeOf23 rfl) rfl rfl rfl ?_
  refine WL.det (op_load1 (i := 2) rfl Tryd.isAgg23 ((r1.ext m2).ext m3).rng rfl rfl) rfl rfl rfl ?_
  have r3 := (((r.ext m1).ext m2).ext m3)
  refine WL.op (op_appP (i := Tryd.t22) (bt := 4) (r := (n + 2)) (ys := fl ([ba, oc] ++ ds)) rfl rfl (fun _ => rfl) Tryd.underlying23 rfl rfl rfl rfl rfl r3 (fl_len ln) (fl_one _) ow2 m3.size (by omega) (by omega) (by decide) (by omega) (fl_app _ _)) rfl rfl (ltb rfl) ?_
  rintro _ w4 ⟨A1, c1, b1, b2, rfl, ow3, hA1, r4, ge1, ge2, m4⟩
  have r5 := (LibT.youngS T (((T.ext m1).ext m2).ext m3) m4 (allge_cons (lT (lT m1.size m2.size) ge2) allge_nil))
  refine WL.call (oc_call (vs := [.slice A1 (n + 2) c1]) (cap := []) rfl rfl rfl Tryd.call25 (c_smpText (n + 2) c1 A1 b2 0 ([ba, oc] ++ ds) ((app_len (show List.length [ba, oc] = 2 from rfl) ln).trans (by omega)) hA1 (by omega) (w32_app (w32_two lba loc) hw) (by omega) w4 r4 r5)) rfl rfl (ltb rfl) ?_
  rintro _ w5 ⟨rfl, m5⟩
  refine WL.det (op_strAdd rfl rfl (by have : (⟨#[116, 117, 110, 105, 110, 103, 32]⟩ : ByteArray).size = 7 := rfl; have := mkS_size (Lib.join (wordsL ([ba, oc] ++ ds)) [32]); have := words_le (xs := ([ba, oc] ++ ds)) (n := n + 2) (by first | assumption | (rw [List.length_append, ln]; show 2 + n = _; omega)) (by omega); omega)) rfl rfl rfl ?_
  refine WL.det (op_assign rfl) rfl rfl rfl ?_
  refine WL.end ?_
  refine NE.code ?_
  refine CE.ret' ?_
  refine XE.leave1 Tryd.results14 rfl ?_
  refine ⟨?_, ((((((Mod.refl [] w).nt m1).nt m2).nt m3).then m4 ((aC (.inr (lT (lT m1.size m2.size) ge2)) aN))).nt m5)⟩
  all_goals exact congrArg Value.string (tun_join ba oc ds)

set_option maxRecDepth 100000 in
set_option maxHeartbeats 2000000 in
theorem c_iTunText_bad (ba : Nat) (oc : Nat) (n : Nat) (c : Nat) (b : Nat) (o : Nat) (ds : List Nat) (ln : ds.length = n) (hn : n ≤ 1048576) (lba : ba < wid .f32) (loc : oc < wid .f32) (hw : W32 ds) (hv : tunF ba oc ds n = false) (w : World) (r : Rng w b o (fl ds)) (T : LibT w LB 0 []) : Cl Tryd.prog 14 #[.agg #[vF ba, vF oc, vS b o n c]] w fun v w' => v = .string (⟨#[]⟩) ∧ Mod [] w w' := by
  refine Cl.of Tryd.func14 Tryd.ntmps14 rfl rfl (ρ := [(0, .agg #[vF ba, vF oc, vS b o n c])]) rfl ?_
  refine CE.seq ?_
  refine CE.region ?_
  refine WL.op (op_box (cs := [vF ba, vF oc, vS b o n c]) rfl rfl) rfl rfl (ltb rfl) ?_
  rintro _ w1 ⟨rfl, r1, m1, z1⟩
  refine WL.det (op_assign rfl) rfl rfl rfl ?_
  refine WL.end ?_
  refine NE.code ?_
  iterate 2 refine CE.seq ?_
  refine CE.region ?_
  refine WL.det (op_loadA (i := 0) (cs := [vF ba, vF oc, vS b o n c]) rfl Tryd.isAgg25 Tryd.sizeOf25 r1.rng rfl rfl rfl) rfl rfl rfl ?_
  refine WL.call (oc_call (vs := [.agg #[vF ba, vF oc, vS b o n c]]) (cap := []) rfl rfl rfl Tryd.call24 (c_iValidT ba oc n c b o ds ln (by omega) w1 (r.ext m1))) rfl rfl (ltb rfl) ?_
  rintro _ w2 ⟨rfl, m2⟩
  refine WL.det (op_not rfl) rfl rfl rfl ?_
  refine WL.end ?_
  refine NE.code ?_
  refine CE.cond_t rfl (bnot_f hv) ?_
  refine CE.seq ?_
  refine CE.region ?_
  refine WL.det (op_assign rfl) rfl rfl rfl ?_
  refine WL.end ?_
  refine NE.code ?_
  refine CE.ret' ?_
  refine XE.ret_then ?_
  refine XE.leave1 Tryd.results14 rfl ?_
  refine ⟨rfl, (((Mod.refl [] w).nt m1).nt m2)⟩

end Go.Proofs.YtpjjnopjpgnlaaaDoor
