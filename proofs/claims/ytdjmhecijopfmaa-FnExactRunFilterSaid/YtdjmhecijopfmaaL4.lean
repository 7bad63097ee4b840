/- The law on the run of a filter over a block, walked. -/
import Derived.Test.YtdjmhecijopfmaaB5
import Derived.Test.YtdjmhecijopfmaaE8
set_option linter.unusedVariables false
set_option linter.unusedSimpArgs false
namespace Go.Proofs.Ytdjmhecijopfmaa

set_option maxRecDepth 100000 in
theorem law_run (kd : Int) (c0 : Nat) (c1 : Nat) (c2 : Nat) (s0 : Nat) (s1 : Nat) (bs : List Nat) (l0 : s0 < wid .f32) (l1 : s1 < wid .f32) (lb : bs.length = 16) (wb : W32 bs) (w : World) : Cl Try.prog 7 #[.agg #[.int .i64 kd, .float .f32 c0, .float .f32 c1, .float .f32 c2, .float .f32 s0, .float .f32 s1], .agg (fl bs).toArray] w fun v w' => v = .bool true ∧ Mod [] w w' := by
  refine Cl.of Try.func7 Try.ntmps7 rfl rfl (ρ := [(0, .agg #[.int .i64 kd, .float .f32 c0, .float .f32 c1, .float .f32 c2, .float .f32 s0, .float .f32 s1]), (1, .agg (fl bs).toArray)]) rfl ?_
  refine CE.seq ?_
  refine CE.region ?_
  refine WL.op (op_box (cs := [.int .i64 kd, .float .f32 c0, .float .f32 c1, .float .f32 c2, .float .f32 s0, .float .f32 s1]) rfl rfl) rfl rfl (ltb rfl) ?_
  rintro _ w1 ⟨rfl, r1, m1, z1⟩
  refine WL.op (op_box (cs := fl bs) rfl rfl) rfl rfl (ltb rfl) ?_
  rintro _ w2 ⟨rfl, r2, m2, z2⟩
  refine WL.det (op_assign rfl) rfl rfl rfl ?_
  refine WL.end ?_
  refine NE.code ?_
  refine CE.seq ?_
  rcases Bool.eq_false_or_eq_true (vFil kd c0 c1 c2 s0 s1) with hb1 | hb1
  · refine CE.draw (fun | 1 => some (fun _ wA uA wB => uA = .agg #[.int .i64 kd, .float .f32 c0, .float .f32 c1, .float .f32 c2, .float .f32 s0, .float .f32 s1] ∧ Mod [] wA wB) | 3 => some (fun _ wA uA wB => uA = .agg (fl bs).toArray ∧ Mod [] wA wB) | 4 => some (fun _ wA uA wB => ∃ (ys : List Nat), uA = .tuple #[.agg #[.int .i64 kd, .float .f32 c0, .float .f32 c1, .float .f32 c2, .float .f32 ((stAt kd c0 c1 c2 s0 s1 bs 16).1), .float .f32 ((stAt kd c0 c1 c2 s0 s1 bs 16).2)], .agg (fl ys).toArray, .int .i64 0] ∧ (ys.length = 16) ∧ (W32 ys) ∧ (Outs kd c0 c1 c2 s0 s1 bs 16 ys) ∧ Mod [] wA wB) | _ => none) [0, 1, 2, 3, 4, 5, 6, 7, 8, 9, 10, 11, 12] [13] [] (by kernel_rfl) (by kernel_rfl) ?_
    have md1 : Mod [] w2 w2.drew := (Mod.refl _ _).drew
    generalize w2.drew = w3 at md1 ⊢
    refine DR.det (i := 0) rfl rfl (by kernel_rfl) (.free rfl) rfl rfl (fun wD mD => op_loadA (i := 0) (cs := [.int .i64 kd, .float .f32 c0, .float .f32 c1, .float .f32 c2, .float .f32 s0, .float .f32 s1]) rfl Try.isAgg51 Try.sizeOf51 (((r1.ext m2).ext md1).ext mD).rng rfl rfl rfl) ?_
    refine DR.call (i := 1) (fun uA => uA = .agg #[.int .i64 kd, .float .f32 c0, .float .f32 c1, .float .f32 c2, .float .f32 s0, .float .f32 s1]) rfl rfl (by kernel_rfl) (.free rfl) rfl (ltb rfl) ⟨_, rfl⟩ (vs := [.func (.func 25) #[] #[], .agg #[.int .i64 kd, .float .f32 c0, .float .f32 c1, .float .f32 c2, .float .f32 s0, .float .f32 s1]]) rfl (fun wD mD => oc_call (vs := [.agg #[.int .i64 kd, .float .f32 c0, .float .f32 c1, .float .f32 c2, .float .f32 s0, .float .f32 s1]]) (cap := []) rfl rfl rfl Try.call25 (c_toFilter kd c0 c1 c2 s0 s1 wD)) ?_ ?_
    · rintro w1 _ w2 m1 ⟨rfl, m2⟩; exact ⟨rfl, m2⟩
    rintro _ rfl
    refine DR.det (i := 2) rfl rfl (by kernel_rfl) (.free rfl) rfl rfl (fun wD mD => op_loadA (i := 0) (cs := fl bs) rfl Try.isAgg61 Try.sizeOf61 ((r2.ext md1).ext mD).rng rfl (fl_whole lb) (fl_len lb)) ?_
    refine DR.call (i := 3) (fun uA => uA = .agg (fl bs).toArray) rfl rfl (by kernel_rfl) (.free rfl) rfl (ltb rfl) ⟨_, rfl⟩ (vs := [.func (.func 31) #[] #[], .agg (fl bs).toArray]) rfl (fun wD mD => oc_call (vs := [.agg (fl bs).toArray]) (cap := []) rfl rfl rfl Try.call31 (c_toBlock bs lb wD)) ?_ ?_
    · rintro w1 _ w2 m1 ⟨rfl, m2⟩; exact ⟨rfl, m2⟩
    rintro _ rfl
    refine DR.call (i := 4) (fun uA => ∃ (ys : List Nat), uA = .tuple #[.agg #[.int .i64 kd, .float .f32 c0, .float .f32 c1, .float .f32 c2, .float .f32 ((stAt kd c0 c1 c2 s0 s1 bs 16).1), .float .f32 ((stAt kd c0 c1 c2 s0 s1 bs 16).2)], .agg (fl ys).toArray, .int .i64 0] ∧ (ys.length = 16) ∧ (W32 ys) ∧ (Outs kd c0 c1 c2 s0 s1 bs 16 ys)) rfl rfl (by kernel_rfl) (.free rfl) rfl (ltb rfl) (Exists.elim (Outs.some kd c0 c1 c2 s0 s1 bs) fun ys h => ⟨_, ys, rfl, h.1, h.2.1, h⟩) (vs := [.func (.func 30) #[] #[], .agg #[.int .i64 kd, .float .f32 c0, .float .f32 c1, .float .f32 c2, .float .f32 s0, .float .f32 s1], .agg (fl bs).toArray]) rfl (fun wD mD => oc_call (vs := [.agg #[.int .i64 kd, .float .f32 c0, .float .f32 c1, .float .f32 c2, .float .f32 s0, .float .f32 s1], .agg (fl bs).toArray]) (cap := []) rfl rfl rfl Try.call30 (c_sRunF kd c0 c1 c2 s0 s1 bs l0 l1 lb (by first | assumption | exact W32.set (by assumption) (by first | assumption | exact wid_lt (by assumption)) | exact W32.zeros _ | exact W32.nil) (by assumption) wD)) ?_ ?_
    · rintro w1 _ w2 m1 ⟨ys, rfl, p0, p1, p2, m2⟩; exact ⟨⟨ys, rfl, p0, p1, p2⟩, m2⟩
    rintro _ ⟨ys1, rfl, h1, h2, h3⟩
    refine DR.det (i := 5) rfl rfl (by kernel_rfl) (.free rfl) rfl rfl (fun wD mD => op_move rfl) ?_
    refine DR.det (i := 6) rfl rfl (by kernel_rfl) (.free rfl) rfl rfl (fun wD mD => op_extract rfl rfl) ?_
    refine DR.det (i := 7) rfl rfl (by kernel_rfl) (.free rfl) rfl rfl (fun wD mD => op_extract rfl rfl) ?_
    refine DR.det (i := 8) rfl rfl (by kernel_rfl) (.free rfl) rfl rfl (fun wD mD => op_extract rfl rfl) ?_
    refine DR.two (i := 9) (j := 10) rfl rfl rfl rfl (by kernel_rfl) (by kernel_rfl) (by kernel_rfl) (by decide) (by decide) rfl rfl rfl rfl (ltb rfl) (ltb rfl) (fun _ _ => op_alloc (cs := [.int .i64 0, .float .f32 0, .float .f32 0, .float .f32 0, .float .f32 0, .float .f32 0]) Try.zeroValue54 rfl) (fun _ _ => op_alloc (cs := fl (List.replicate 16 0)) Try.zeroValue62 rfl) ?_
    intro b1 b2 w4 r3 r4 ge1 ge2 ne1 m3
    refine DR.st1 (i := 11) rfl rfl (by kernel_rfl) (.free rfl) rfl ?_
    intro w5 m4
    refine Op1.mono (op_store (i := 0) (cs := [.int .i64 kd, .float .f32 c0, .float .f32 c1, .float .f32 c2, .float .f32 ((stAt kd c0 c1 c2 s0 s1 bs 16).1), .float .f32 ((stAt kd c0 c1 c2 s0 s1 bs 16).2)]) rfl rfl rfl Try.sizeOf54 rfl (r3.ext m4) rfl (Nat.le_of_ble_eq_true rfl) rfl) ?_
    rintro _ w6 ⟨r5, m5, z3⟩
    have r6 : Row w6 b1 0 [.int .i64 kd, .float .f32 c0, .float .f32 c1, .float .f32 c2, .float .f32 ((stAt kd c0 c1 c2 s0 s1 bs 16).1), .float .f32 ((stAt kd c0 c1 c2 s0 s1 bs 16).2)] := Row.congr r5 rfl
    refine ⟨((((Mod.refl [] w3).nil_then m3).nil_then m4).then m5 (allow1 (.inr ge1))), ?_⟩
    refine DR.st1 (i := 12) rfl rfl (by kernel_rfl) (.free rfl) rfl ?_
    intro w7 m6
    refine Op1.mono (op_store (i := 0) (cs := fl ys1) rfl rfl rfl Try.sizeOf62 (fl_len h1) (((r4.ext m4).mod m5 (notin1 (Ne.symm ne1))).ext m6) rfl (by rw [fl_length, List.length_replicate]; decide) (fl_one _)) ?_
    rintro _ w8 ⟨r7, m7, z4⟩
    have r8 : Row w8 b2 0 (fl ys1) := Row.congr r7 (splice_all ((fl_len (List.length_replicate)).trans (fl_len (h1)).symm))
    refine ⟨((((((Mod.refl [] w3).nil_then m3).nil_then m4).then m5 (allow1 (.inr ge1))).nil_then m6).then m7 (allow1 (.inr ge2))), ?_⟩
    refine DR.done rfl ?_
    intro w9 m8
    refine WO.det (op_assign rfl) rfl (.free rfl) rfl rfl ?_
    refine WO.end ?_
    refine NE.code ?_
    refine CE.seq ?_
    refine CE.draw (fun | 1 => some (fun _ wA uA wB => uA = .agg #[.int .i64 kd, .float .f32 c0, .float .f32 c1, .float .f32 c2, .float .f32 s0, .float .f32 s1] ∧ Mod [] wA wB) | 3 => some (fun _ wA uA wB => uA = .agg (fl bs).toArray ∧ Mod [] wA wB) | 4 => some (fun _ wA uA wB => ∃ (ys : List Nat), uA = .tuple #[.agg #[.int .i64 kd, .float .f32 c0, .float .f32 c1, .float .f32 c2, .float .f32 ((stAt kd c0 c1 c2 s0 s1 bs 16).1), .float .f32 ((stAt kd c0 c1 c2 s0 s1 bs 16).2)], .agg (fl ys).toArray, .int .i64 0] ∧ (ys.length = 16) ∧ (W32 ys) ∧ (Outs kd c0 c1 c2 s0 s1 bs 16 ys) ∧ Mod [] wA wB) | _ => none) [0, 1, 2, 3, 4, 5, 6, 7, 8, 9, 10, 11, 12] [13] [] (by kernel_rfl) (by kernel_rfl) ?_
    have md2 : Mod [] w9 w9.drew := (Mod.refl _ _).drew
    generalize w9.drew = w10 at md2 ⊢
    refine DR.det (i := 0) rfl rfl (by kernel_rfl) (.free rfl) rfl rfl (fun wD mD => op_loadA (i := 0) (cs := [.int .i64 kd, .float .f32 c0, .float .f32 c1, .float .f32 c2, .float .f32 s0, .float .f32 s1]) rfl Try.isAgg51 Try.sizeOf51 ((((((((((r1.ext m2).ext md1).ext m3).ext m4).mod m5 (notin1 (Nat.ne_of_lt (Nat.lt_of_lt_of_le (Nat.lt_of_lt_of_le r1.lt (Nat.le_trans m2.size md1.size)) ge1)))).ext m6).mod m7 (notin1 (Nat.ne_of_lt (Nat.lt_of_lt_of_le (Nat.lt_of_lt_of_le r1.lt (Nat.le_trans m2.size md1.size)) ge2)))).ext m8).ext md2).ext mD).rng rfl rfl rfl) ?_
    refine DR.call (i := 1) (fun uA => uA = .agg #[.int .i64 kd, .float .f32 c0, .float .f32 c1, .float .f32 c2, .float .f32 s0, .float .f32 s1]) rfl rfl (by kernel_rfl) (.free rfl) rfl (ltb rfl) ⟨_, rfl⟩ (vs := [.func (.func 25) #[] #[], .agg #[.int .i64 kd, .float .f32 c0, .float .f32 c1, .float .f32 c2, .float .f32 s0, .float .f32 s1]]) rfl (fun wD mD => oc_call (vs := [.agg #[.int .i64 kd, .float .f32 c0, .float .f32 c1, .float .f32 c2, .float .f32 s0, .float .f32 s1]]) (cap := []) rfl rfl rfl Try.call25 (c_toFilter kd c0 c1 c2 s0 s1 wD)) ?_ ?_
    · rintro w1 _ w2 m1 ⟨rfl, m2⟩; exact ⟨rfl, m2⟩
    rintro _ rfl
    refine DR.det (i := 2) rfl rfl (by kernel_rfl) (.free rfl) rfl rfl (fun wD mD => op_loadA (i := 0) (cs := fl bs) rfl Try.isAgg61 Try.sizeOf61 (((((((((r2.ext md1).ext m3).ext m4).mod m5 (notin1 (Nat.ne_of_lt (Nat.lt_of_lt_of_le (Nat.lt_of_lt_of_le r2.lt md1.size) ge1)))).ext m6).mod m7 (notin1 (Nat.ne_of_lt (Nat.lt_of_lt_of_le (Nat.lt_of_lt_of_le r2.lt md1.size) ge2)))).ext m8).ext md2).ext mD).rng rfl (fl_whole lb) (fl_len lb)) ?_
    refine DR.call (i := 3) (fun uA => uA = .agg (fl bs).toArray) rfl rfl (by kernel_rfl) (.free rfl) rfl (ltb rfl) ⟨_, rfl⟩ (vs := [.func (.func 31) #[] #[], .agg (fl bs).toArray]) rfl (fun wD mD => oc_call (vs := [.agg (fl bs).toArray]) (cap := []) rfl rfl rfl Try.call31 (c_toBlock bs lb wD)) ?_ ?_
    · rintro w1 _ w2 m1 ⟨rfl, m2⟩; exact ⟨rfl, m2⟩
    rintro _ rfl
    refine DR.call (i := 4) (fun uA => ∃ (ys : List Nat), uA = .tuple #[.agg #[.int .i64 kd, .float .f32 c0, .float .f32 c1, .float .f32 c2, .float .f32 ((stAt kd c0 c1 c2 s0 s1 bs 16).1), .float .f32 ((stAt kd c0 c1 c2 s0 s1 bs 16).2)], .agg (fl ys).toArray, .int .i64 0] ∧ (ys.length = 16) ∧ (W32 ys) ∧ (Outs kd c0 c1 c2 s0 s1 bs 16 ys)) rfl rfl (by kernel_rfl) (.free rfl) rfl (ltb rfl) (Exists.elim (Outs.some kd c0 c1 c2 s0 s1 bs) fun ys h => ⟨_, ys, rfl, h.1, h.2.1, h⟩) (vs := [.func (.func 32) #[] #[], .agg #[.int .i64 kd, .float .f32 c0, .float .f32 c1, .float .f32 c2, .float .f32 s0, .float .f32 s1], .agg (fl bs).toArray]) rfl (fun wD mD => oc_call (vs := [.agg #[.int .i64 kd, .float .f32 c0, .float .f32 c1, .float .f32 c2, .float .f32 s0, .float .f32 s1], .agg (fl bs).toArray]) (cap := []) rfl rfl rfl Try.call32 (c_iRunF kd c0 c1 c2 s0 s1 bs l0 l1 lb (by first | assumption | exact W32.set (by assumption) (by first | assumption | exact wid_lt (by assumption)) | exact W32.zeros _ | exact W32.nil) (by assumption) wD)) ?_ ?_
    · rintro w1 _ w2 m1 ⟨ys, rfl, p0, p1, p2, m2⟩; exact ⟨⟨ys, rfl, p0, p1, p2⟩, m2⟩
    rintro _ ⟨ys2, rfl, h4, h5, h6⟩
    refine DR.det (i := 5) rfl rfl (by kernel_rfl) (.free rfl) rfl rfl (fun wD mD => op_move rfl) ?_
    refine DR.det (i := 6) rfl rfl (by kernel_rfl) (.free rfl) rfl rfl (fun wD mD => op_extract rfl rfl) ?_
    refine DR.det (i := 7) rfl rfl (by kernel_rfl) (.free rfl) rfl rfl (fun wD mD => op_extract rfl rfl) ?_
    refine DR.det (i := 8) rfl rfl (by kernel_rfl) (.free rfl) rfl rfl (fun wD mD => op_extract rfl rfl) ?_
    refine DR.two (i := 9) (j := 10) rfl rfl rfl rfl (by kernel_rfl) (by kernel_rfl) (by kernel_rfl) (by decide) (by decide) rfl rfl rfl rfl (ltb rfl) (ltb rfl) (fun _ _ => op_alloc (cs := [.int .i64 0, .float .f32 0, .float .f32 0, .float .f32 0, .float .f32 0, .float .f32 0]) Try.zeroValue54 rfl) (fun _ _ => op_alloc (cs := fl (List.replicate 16 0)) Try.zeroValue62 rfl) ?_
    intro b3 b4 w11 r9 r10 ge3 ge4 ne2 m9
    refine DR.st1 (i := 11) rfl rfl (by kernel_rfl) (.free rfl) rfl ?_
    intro w12 m10
    refine Op1.mono (op_store (i := 0) (cs := [.int .i64 kd, .float .f32 c0, .float .f32 c1, .float .f32 c2, .float .f32 ((stAt kd c0 c1 c2 s0 s1 bs 16).1), .float .f32 ((stAt kd c0 c1 c2 s0 s1 bs 16).2)]) rfl rfl rfl Try.sizeOf54 rfl (r9.ext m10) rfl (Nat.le_of_ble_eq_true rfl) rfl) ?_
    rintro _ w13 ⟨r11, m11, z5⟩
    have r12 : Row w13 b3 0 [.int .i64 kd, .float .f32 c0, .float .f32 c1, .float .f32 c2, .float .f32 ((stAt kd c0 c1 c2 s0 s1 bs 16).1), .float .f32 ((stAt kd c0 c1 c2 s0 s1 bs 16).2)] := Row.congr r11 rfl
    refine ⟨((((Mod.refl [] w10).nil_then m9).nil_then m10).then m11 (allow1 (.inr ge3))), ?_⟩
    refine DR.st1 (i := 12) rfl rfl (by kernel_rfl) (.free rfl) rfl ?_
    intro w14 m12
    refine Op1.mono (op_store (i := 0) (cs := fl ys2) rfl rfl rfl Try.sizeOf62 (fl_len h4) (((r10.ext m10).mod m11 (notin1 (Ne.symm ne2))).ext m12) rfl (by rw [fl_length, List.length_replicate]; decide) (fl_one _)) ?_
    rintro _ w15 ⟨r13, m13, z6⟩
    have r14 : Row w15 b4 0 (fl ys2) := Row.congr r13 (splice_all ((fl_len (List.length_replicate)).trans (fl_len (h4)).symm))
    refine ⟨((((((Mod.refl [] w10).nil_then m9).nil_then m10).then m11 (allow1 (.inr ge3))).nil_then m12).then m13 (allow1 (.inr ge4))), ?_⟩
    refine DR.done rfl ?_
    intro w16 m14
    refine WO.det (op_assign rfl) rfl (.free rfl) rfl rfl ?_
    refine WO.end ?_
    refine NE.code ?_
    refine CE.seq ?_
    refine CE.seq ?_
    refine CE.region ?_
    refine WL.det (op_loadA (i := 0) (cs := [.int .i64 kd, .float .f32 c0, .float .f32 c1, .float .f32 c2, .float .f32 ((stAt kd c0 c1 c2 s0 s1 bs 16).1), .float .f32 ((stAt kd c0 c1 c2 s0 s1 bs 16).2)]) rfl Try.isAgg54 Try.sizeOf54 (((r12.ext m12).mod m13 (notin1 ne2)).ext m14).rng rfl rfl rfl) rfl rfl rfl ?_
    refine WL.det (op_loadA (i := 0) (cs := [.int .i64 kd, .float .f32 c0, .float .f32 c1, .float .f32 c2, .float .f32 ((stAt kd c0 c1 c2 s0 s1 bs 16).1), .float .f32 ((stAt kd c0 c1 c2 s0 s1 bs 16).2)]) rfl Try.isAgg54 Try.sizeOf54 ((((((((((r6.ext m6).mod m7 (notin1 ne1)).ext m8).ext md2).ext m9).ext m10).mod m11 (notin1 (Nat.ne_of_lt (Nat.lt_of_lt_of_le (Nat.lt_of_lt_of_le r3.lt (Nat.le_trans (Nat.le_trans (Nat.le_trans (Nat.le_trans (Nat.le_trans m4.size m5.size) m6.size) m7.size) m8.size) md2.size)) ge3)))).ext m12).mod m13 (notin1 (Nat.ne_of_lt (Nat.lt_of_lt_of_le (Nat.lt_of_lt_of_le r3.lt (Nat.le_trans (Nat.le_trans (Nat.le_trans (Nat.le_trans (Nat.le_trans m4.size m5.size) m6.size) m7.size) m8.size) md2.size)) ge4)))).ext m14).rng rfl rfl rfl) rfl rfl rfl ?_
    refine WL.call (oc_call (vs := [.agg #[.int .i64 kd, .float .f32 c0, .float .f32 c1, .float .f32 c2, .float .f32 ((stAt kd c0 c1 c2 s0 s1 bs 16).1), .float .f32 ((stAt kd c0 c1 c2 s0 s1 bs 16).2)], .agg #[.int .i64 kd, .float .f32 c0, .float .f32 c1, .float .f32 c2, .float .f32 ((stAt kd c0 c1 c2 s0 s1 bs 16).1), .float .f32 ((stAt kd c0 c1 c2 s0 s1 bs 16).2)]]) (cap := []) rfl rfl rfl Try.call29 (c_eqFilter kd c0 c1 c2 ((stAt kd c0 c1 c2 s0 s1 bs 16).1) ((stAt kd c0 c1 c2 s0 s1 bs 16).2) w16)) rfl rfl (ltb rfl) ?_
    rintro _ w17 ⟨rfl, m15⟩
    refine WL.det (op_not rfl) rfl rfl rfl ?_
    refine WL.det (op_move rfl) rfl rfl rfl ?_
    refine WL.yes rfl rfl rfl (ltb rfl) rfl rfl ?_
    refine WL.det (op_loadA (i := 0) (cs := fl ys2) rfl Try.isAgg62 Try.sizeOf62 ((r14.ext m14).ext m15).rng rfl (fl_whole h4) (fl_len h4)) rfl rfl rfl ?_
    refine WL.yes rfl rfl rfl (ltb rfl) rfl rfl ?_
    refine WL.det (op_loadA (i := 0) (cs := fl ys1) rfl Try.isAgg62 Try.sizeOf62 (((((((((r8.ext m8).ext md2).ext m9).ext m10).mod m11 (notin1 (Nat.ne_of_lt (Nat.lt_of_lt_of_le (Nat.lt_of_lt_of_le r4.lt (Nat.le_trans (Nat.le_trans (Nat.le_trans (Nat.le_trans (Nat.le_trans m4.size m5.size) m6.size) m7.size) m8.size) md2.size)) ge3)))).ext m12).mod m13 (notin1 (Nat.ne_of_lt (Nat.lt_of_lt_of_le (Nat.lt_of_lt_of_le r4.lt (Nat.le_trans (Nat.le_trans (Nat.le_trans (Nat.le_trans (Nat.le_trans m4.size m5.size) m6.size) m7.size) m8.size) md2.size)) ge4)))).ext m14).ext m15).rng rfl (fl_whole h1) (fl_len h1)) rfl rfl rfl ?_
    refine WL.yes rfl rfl rfl (ltb rfl) rfl rfl ?_
    refine WL.call (oc_call (vs := [.agg (fl ys2).toArray, .agg (fl ys1).toArray]) (cap := []) rfl rfl rfl Try.call33 (c_eqBlock ys2 ys1 h4 h1 h5 h2 (Outs.same (by assumption) (by assumption)) w17)) rfl rfl (ltb rfl) ?_
    rintro _ w18 ⟨rfl, m16⟩
    refine WL.yes rfl rfl rfl (ltb rfl) rfl rfl ?_
    refine WL.det (op_not rfl) rfl rfl rfl ?_
    refine WL.det (op_pick_f rfl rfl rfl) rfl rfl rfl ?_
    refine WL.det (op_move rfl) rfl rfl rfl ?_
    refine WL.yes rfl rfl rfl (ltb rfl) rfl rfl ?_
    refine WL.det (op_move rfl) rfl rfl rfl ?_
    refine WL.yes rfl rfl rfl (ltb rfl) rfl rfl ?_
    refine WL.det (op_move rfl) rfl rfl rfl ?_
    refine WL.yes rfl rfl rfl (ltb rfl) rfl rfl ?_
    refine WL.det (op_nei rfl rfl) rfl rfl rfl ?_
    refine WL.det (op_pick_f rfl rfl rfl) rfl rfl rfl ?_
    refine WL.end ?_
    refine NE.code ?_
    refine CE.cond_f rfl rfl ?_
    refine CE.skip' ?_
    refine NE.code ?_
    refine CE.seq ?_
    refine CE.region ?_
    refine WL.det (op_assign rfl) rfl rfl rfl ?_
    refine WL.end ?_
    refine NE.code ?_
    refine CE.ret' ?_
    refine XE.leave1 Try.results7 rfl ?_
    refine ⟨rfl, (((((((((((((((((((Mod.refl [] w).nil_then m1).nil_then m2).nil_then md1).nil_then m3).nil_then m4).then m5 (allow1 (.inr (Nat.le_trans (Nat.le_trans (Nat.le_trans m1.size m2.size) md1.size) ge1)))).nil_then m6).then m7 (allow1 (.inr (Nat.le_trans (Nat.le_trans (Nat.le_trans m1.size m2.size) md1.size) ge2)))).nil_then m8).nil_then md2).nil_then m9).nil_then m10).then m11 (allow1 (.inr (Nat.le_trans (Nat.le_trans (Nat.le_trans (Nat.le_trans (Nat.le_trans (Nat.le_trans (Nat.le_trans (Nat.le_trans (Nat.le_trans (Nat.le_trans m1.size m2.size) md1.size) m3.size) m4.size) m5.size) m6.size) m7.size) m8.size) md2.size) ge3)))).nil_then m12).then m13 (allow1 (.inr (Nat.le_trans (Nat.le_trans (Nat.le_trans (Nat.le_trans (Nat.le_trans (Nat.le_trans (Nat.le_trans (Nat.le_trans (Nat.le_trans (Nat.le_trans m1.size m2.size) md1.size) m3.size) m4.size) m5.size) m6.size) m7.size) m8.size) md2.size) ge4)))).nil_then m14).nil_then m15).nil_then m16)⟩
  · refine CE.draw (fun | 1 => some (fun _ wA uA wB => uA = .agg #[.int .i64 kd, .float .f32 c0, .float .f32 c1, .float .f32 c2, .float .f32 s0, .float .f32 s1] ∧ Mod [] wA wB) | 3 => some (fun _ wA uA wB => uA = .agg (fl bs).toArray ∧ Mod [] wA wB) | 4 => some (fun _ wA uA wB => uA = .tuple #[.agg #[.int .i64 0, .float .f32 0, .float .f32 0, .float .f32 0, .float .f32 0, .float .f32 0], .agg (fl (List.replicate 16 0)).toArray, .int .i64 1] ∧ Mod [] wA wB) | _ => none) [0, 1, 2, 3, 4, 5, 6, 7, 8, 9, 10, 11, 12] [13] [] (by kernel_rfl) (by kernel_rfl) ?_
    have md3 : Mod [] w2 w2.drew := (Mod.refl _ _).drew
    generalize w2.drew = w19 at md3 ⊢
    refine DR.det (i := 0) rfl rfl (by kernel_rfl) (.free rfl) rfl rfl (fun wD mD => op_loadA (i := 0) (cs := [.int .i64 kd, .float .f32 c0, .float .f32 c1, .float .f32 c2, .float .f32 s0, .float .f32 s1]) rfl Try.isAgg51 Try.sizeOf51 (((r1.ext m2).ext md3).ext mD).rng rfl rfl rfl) ?_
    refine DR.call (i := 1) (fun uA => uA = .agg #[.int .i64 kd, .float .f32 c0, .float .f32 c1, .float .f32 c2, .float .f32 s0, .float .f32 s1]) rfl rfl (by kernel_rfl) (.free rfl) rfl (ltb rfl) ⟨_, rfl⟩ (vs := [.func (.func 25) #[] #[], .agg #[.int .i64 kd, .float .f32 c0, .float .f32 c1, .float .f32 c2, .float .f32 s0, .float .f32 s1]]) rfl (fun wD mD => oc_call (vs := [.agg #[.int .i64 kd, .float .f32 c0, .float .f32 c1, .float .f32 c2, .float .f32 s0, .float .f32 s1]]) (cap := []) rfl rfl rfl Try.call25 (c_toFilter kd c0 c1 c2 s0 s1 wD)) ?_ ?_
    · rintro w1 _ w2 m1 ⟨rfl, m2⟩; exact ⟨rfl, m2⟩
    rintro _ rfl
    refine DR.det (i := 2) rfl rfl (by kernel_rfl) (.free rfl) rfl rfl (fun wD mD => op_loadA (i := 0) (cs := fl bs) rfl Try.isAgg61 Try.sizeOf61 ((r2.ext md3).ext mD).rng rfl (fl_whole lb) (fl_len lb)) ?_
    refine DR.call (i := 3) (fun uA => uA = .agg (fl bs).toArray) rfl rfl (by kernel_rfl) (.free rfl) rfl (ltb rfl) ⟨_, rfl⟩ (vs := [.func (.func 31) #[] #[], .agg (fl bs).toArray]) rfl (fun wD mD => oc_call (vs := [.agg (fl bs).toArray]) (cap := []) rfl rfl rfl Try.call31 (c_toBlock bs lb wD)) ?_ ?_
    · rintro w1 _ w2 m1 ⟨rfl, m2⟩; exact ⟨rfl, m2⟩
    rintro _ rfl
    refine DR.call (i := 4) (fun uA => uA = .tuple #[.agg #[.int .i64 0, .float .f32 0, .float .f32 0, .float .f32 0, .float .f32 0, .float .f32 0], .agg (fl (List.replicate 16 0)).toArray, .int .i64 1]) rfl rfl (by kernel_rfl) (.free rfl) rfl (ltb rfl) ⟨_, rfl⟩ (vs := [.func (.func 30) #[] #[], .agg #[.int .i64 kd, .float .f32 c0, .float .f32 c1, .float .f32 c2, .float .f32 s0, .float .f32 s1], .agg (fl bs).toArray]) rfl (fun wD mD => oc_call (vs := [.agg #[.int .i64 kd, .float .f32 c0, .float .f32 c1, .float .f32 c2, .float .f32 s0, .float .f32 s1], .agg (fl bs).toArray]) (cap := []) rfl rfl rfl Try.call30 (c_sRunF_bad kd c0 c1 c2 s0 s1 bs l0 l1 lb (by first | assumption | exact W32.set (by assumption) (by first | assumption | exact wid_lt (by assumption)) | exact W32.zeros _ | exact W32.nil) (by assumption) wD)) ?_ ?_
    · rintro w1 _ w2 m1 ⟨rfl, m2⟩; exact ⟨rfl, m2⟩
    rintro _ rfl
    refine DR.det (i := 5) rfl rfl (by kernel_rfl) (.free rfl) rfl rfl (fun wD mD => op_move rfl) ?_
    refine DR.det (i := 6) rfl rfl (by kernel_rfl) (.free rfl) rfl rfl (fun wD mD => op_extract rfl rfl) ?_
    refine DR.det (i := 7) rfl rfl (by kernel_rfl) (.free rfl) rfl rfl (fun wD mD => op_extract rfl rfl) ?_
    refine DR.det (i := 8) rfl rfl (by kernel_rfl) (.free rfl) rfl rfl (fun wD mD => op_extract rfl rfl) ?_
    refine DR.two (i := 9) (j := 10) rfl rfl rfl rfl (by kernel_rfl) (by kernel_rfl) (by kernel_rfl) (by decide) (by decide) rfl rfl rfl rfl (ltb rfl) (ltb rfl) (fun _ _ => op_alloc (cs := [.int .i64 0, .float .f32 0, .float .f32 0, .float .f32 0, .float .f32 0, .float .f32 0]) Try.zeroValue54 rfl) (fun _ _ => op_alloc (cs := fl (List.replicate 16 0)) Try.zeroValue62 rfl) ?_
    intro b5 b6 w20 r15 r16 ge5 ge6 ne3 m17
    refine DR.st1 (i := 11) rfl rfl (by kernel_rfl) (.free rfl) rfl ?_
    intro w21 m18
    refine Op1.mono (op_store (i := 0) (cs := [.int .i64 0, .float .f32 0, .float .f32 0, .float .f32 0, .float .f32 0, .float .f32 0]) rfl rfl rfl Try.sizeOf54 rfl (r15.ext m18) rfl (Nat.le_of_ble_eq_true rfl) rfl) ?_
    rintro _ w22 ⟨r17, m19, z7⟩
    have r18 : Row w22 b5 0 [.int .i64 0, .float .f32 0, .float .f32 0, .float .f32 0, .float .f32 0, .float .f32 0] := Row.congr r17 rfl
    refine ⟨((((Mod.refl [] w19).nil_then m17).nil_then m18).then m19 (allow1 (.inr ge5))), ?_⟩
    refine DR.st1 (i := 12) rfl rfl (by kernel_rfl) (.free rfl) rfl ?_
    intro w23 m20
    refine Op1.mono (op_store (i := 0) (cs := fl (List.replicate 16 0)) rfl rfl rfl Try.sizeOf62 (fl_len List.length_replicate) (((r16.ext m18).mod m19 (notin1 (Ne.symm ne3))).ext m20) rfl (by rw [fl_length, List.length_replicate]; decide) (fl_one _)) ?_
    rintro _ w24 ⟨r19, m21, z8⟩
    have r20 : Row w24 b6 0 (fl (List.replicate 16 0)) := Row.congr r19 (splice_all ((fl_len (List.length_replicate)).trans (fl_len (List.length_replicate)).symm))
    refine ⟨((((((Mod.refl [] w19).nil_then m17).nil_then m18).then m19 (allow1 (.inr ge5))).nil_then m20).then m21 (allow1 (.inr ge6))), ?_⟩
    refine DR.done rfl ?_
    intro w25 m22
    refine WO.det (op_assign rfl) rfl (.free rfl) rfl rfl ?_
    refine WO.end ?_
    refine NE.code ?_
    refine CE.seq ?_
    refine CE.draw (fun | 1 => some (fun _ wA uA wB => uA = .agg #[.int .i64 kd, .float .f32 c0, .float .f32 c1, .float .f32 c2, .float .f32 s0, .float .f32 s1] ∧ Mod [] wA wB) | 3 => some (fun _ wA uA wB => uA = .agg (fl bs).toArray ∧ Mod [] wA wB) | 4 => some (fun _ wA uA wB => uA = .tuple #[.agg #[.int .i64 0, .float .f32 0, .float .f32 0, .float .f32 0, .float .f32 0, .float .f32 0], .agg (fl (List.replicate 16 0)).toArray, .int .i64 1] ∧ Mod [] wA wB) | _ => none) [0, 1, 2, 3, 4, 5, 6, 7, 8, 9, 10, 11, 12] [13] [] (by kernel_rfl) (by kernel_rfl) ?_
    have md4 : Mod [] w25 w25.drew := (Mod.refl _ _).drew
    generalize w25.drew = w26 at md4 ⊢
    refine DR.det (i := 0) rfl rfl (by kernel_rfl) (.free rfl) rfl rfl (fun wD mD => op_loadA (i := 0) (cs := [.int .i64 kd, .float .f32 c0, .float .f32 c1, .float .f32 c2, .float .f32 s0, .float .f32 s1]) rfl Try.isAgg51 Try.sizeOf51 ((((((((((r1.ext m2).ext md3).ext m17).ext m18).mod m19 (notin1 (Nat.ne_of_lt (Nat.lt_of_lt_of_le (Nat.lt_of_lt_of_le r1.lt (Nat.le_trans m2.size md3.size)) ge5)))).ext m20).mod m21 (notin1 (Nat.ne_of_lt (Nat.lt_of_lt_of_le (Nat.lt_of_lt_of_le r1.lt (Nat.le_trans m2.size md3.size)) ge6)))).ext m22).ext md4).ext mD).rng rfl rfl rfl) ?_
    refine DR.call (i := 1) (fun uA => uA = .agg #[.int .i64 kd, .float .f32 c0, .float .f32 c1, .float .f32 c2, .float .f32 s0, .float .f32 s1]) rfl rfl (by kernel_rfl) (.free rfl) rfl (ltb rfl) ⟨_, rfl⟩ (vs := [.func (.func 25) #[] #[], .agg #[.int .i64 kd, .float .f32 c0, .float .f32 c1, .float .f32 c2, .float .f32 s0, .float .f32 s1]]) rfl (fun wD mD => oc_call (vs := [.agg #[.int .i64 kd, .float .f32 c0, .float .f32 c1, .float .f32 c2, .float .f32 s0, .float .f32 s1]]) (cap := []) rfl rfl rfl Try.call25 (c_toFilter kd c0 c1 c2 s0 s1 wD)) ?_ ?_
    · rintro w1 _ w2 m1 ⟨rfl, m2⟩; exact ⟨rfl, m2⟩
    rintro _ rfl
    refine DR.det (i := 2) rfl rfl (by kernel_rfl) (.free rfl) rfl rfl (fun wD mD => op_loadA (i := 0) (cs := fl bs) rfl Try.isAgg61 Try.sizeOf61 (((((((((r2.ext md3).ext m17).ext m18).mod m19 (notin1 (Nat.ne_of_lt (Nat.lt_of_lt_of_le (Nat.lt_of_lt_of_le r2.lt md3.size) ge5)))).ext m20).mod m21 (notin1 (Nat.ne_of_lt (Nat.lt_of_lt_of_le (Nat.lt_of_lt_of_le r2.lt md3.size) ge6)))).ext m22).ext md4).ext mD).rng rfl (fl_whole lb) (fl_len lb)) ?_
    refine DR.call (i := 3) (fun uA => uA = .agg (fl bs).toArray) rfl rfl (by kernel_rfl) (.free rfl) rfl (ltb rfl) ⟨_, rfl⟩ (vs := [.func (.func 31) #[] #[], .agg (fl bs).toArray]) rfl (fun wD mD => oc_call (vs := [.agg (fl bs).toArray]) (cap := []) rfl rfl rfl Try.call31 (c_toBlock bs lb wD)) ?_ ?_
    · rintro w1 _ w2 m1 ⟨rfl, m2⟩; exact ⟨rfl, m2⟩
    rintro _ rfl
    refine DR.call (i := 4) (fun uA => uA = .tuple #[.agg #[.int .i64 0, .float .f32 0, .float .f32 0, .float .f32 0, .float .f32 0, .float .f32 0], .agg (fl (List.replicate 16 0)).toArray, .int .i64 1]) rfl rfl (by kernel_rfl) (.free rfl) rfl (ltb rfl) ⟨_, rfl⟩ (vs := [.func (.func 32) #[] #[], .agg #[.int .i64 kd, .float .f32 c0, .float .f32 c1, .float .f32 c2, .float .f32 s0, .float .f32 s1], .agg (fl bs).toArray]) rfl (fun wD mD => oc_call (vs := [.agg #[.int .i64 kd, .float .f32 c0, .float .f32 c1, .float .f32 c2, .float .f32 s0, .float .f32 s1], .agg (fl bs).toArray]) (cap := []) rfl rfl rfl Try.call32 (c_iRunF_bad kd c0 c1 c2 s0 s1 bs l0 l1 lb (by first | assumption | exact W32.set (by assumption) (by first | assumption | exact wid_lt (by assumption)) | exact W32.zeros _ | exact W32.nil) (by assumption) wD)) ?_ ?_
    · rintro w1 _ w2 m1 ⟨rfl, m2⟩; exact ⟨rfl, m2⟩
    rintro _ rfl
    refine DR.det (i := 5) rfl rfl (by kernel_rfl) (.free rfl) rfl rfl (fun wD mD => op_move rfl) ?_
    refine DR.det (i := 6) rfl rfl (by kernel_rfl) (.free rfl) rfl rfl (fun wD mD => op_extract rfl rfl) ?_
    refine DR.det (i := 7) rfl rfl (by kernel_rfl) (.free rfl) rfl rfl (fun wD mD => op_extract rfl rfl) ?_
    refine DR.det (i := 8) rfl rfl (by kernel_rfl) (.free rfl) rfl rfl (fun wD mD => op_extract rfl rfl) ?_
    refine DR.two (i := 9) (j := 10) rfl rfl rfl rfl (by kernel_rfl) (by kernel_rfl) (by kernel_rfl) (by decide) (by decide) rfl rfl rfl rfl (ltb rfl) (ltb rfl) (fun _ _ => op_alloc (cs := [.int .i64 0, .float .f32 0, .float .f32 0, .float .f32 0, .float .f32 0, .float .f32 0]) Try.zeroValue54 rfl) (fun _ _ => op_alloc (cs := fl (List.replicate 16 0)) Try.zeroValue62 rfl) ?_
    intro b7 b8 w27 r21 r22 ge7 ge8 ne4 m23
    refine DR.st1 (i := 11) rfl rfl (by kernel_rfl) (.free rfl) rfl ?_
    intro w28 m24
    refine Op1.mono (op_store (i := 0) (cs := [.int .i64 0, .float .f32 0, .float .f32 0, .float .f32 0, .float .f32 0, .float .f32 0]) rfl rfl rfl Try.sizeOf54 rfl (r21.ext m24) rfl (Nat.le_of_ble_eq_true rfl) rfl) ?_
    rintro _ w29 ⟨r23, m25, z9⟩
    have r24 : Row w29 b7 0 [.int .i64 0, .float .f32 0, .float .f32 0, .float .f32 0, .float .f32 0, .float .f32 0] := Row.congr r23 rfl
    refine ⟨((((Mod.refl [] w26).nil_then m23).nil_then m24).then m25 (allow1 (.inr ge7))), ?_⟩
    refine DR.st1 (i := 12) rfl rfl (by kernel_rfl) (.free rfl) rfl ?_
    intro w30 m26
    refine Op1.mono (op_store (i := 0) (cs := fl (List.replicate 16 0)) rfl rfl rfl Try.sizeOf62 (fl_len List.length_replicate) (((r22.ext m24).mod m25 (notin1 (Ne.symm ne4))).ext m26) rfl (by rw [fl_length, List.length_replicate]; decide) (fl_one _)) ?_
    rintro _ w31 ⟨r25, m27, z10⟩
    have r26 : Row w31 b8 0 (fl (List.replicate 16 0)) := Row.congr r25 (splice_all ((fl_len (List.length_replicate)).trans (fl_len (List.length_replicate)).symm))
    refine ⟨((((((Mod.refl [] w26).nil_then m23).nil_then m24).then m25 (allow1 (.inr ge7))).nil_then m26).then m27 (allow1 (.inr ge8))), ?_⟩
    refine DR.done rfl ?_
    intro w32 m28
    refine WO.det (op_assign rfl) rfl (.free rfl) rfl rfl ?_
    refine WO.end ?_
    refine NE.code ?_
    refine CE.seq ?_
    refine CE.seq ?_
    refine CE.region ?_
    refine WL.det (op_loadA (i := 0) (cs := [.int .i64 0, .float .f32 0, .float .f32 0, .float .f32 0, .float .f32 0, .float .f32 0]) rfl Try.isAgg54 Try.sizeOf54 (((r24.ext m26).mod m27 (notin1 ne4)).ext m28).rng rfl rfl rfl) rfl rfl rfl ?_
    refine WL.det (op_loadA (i := 0) (cs := [.int .i64 0, .float .f32 0, .float .f32 0, .float .f32 0, .float .f32 0, .float .f32 0]) rfl Try.isAgg54 Try.sizeOf54 ((((((((((r18.ext m20).mod m21 (notin1 ne3)).ext m22).ext md4).ext m23).ext m24).mod m25 (notin1 (Nat.ne_of_lt (Nat.lt_of_lt_of_le (Nat.lt_of_lt_of_le r15.lt (Nat.le_trans (Nat.le_trans (Nat.le_trans (Nat.le_trans (Nat.le_trans m18.size m19.size) m20.size) m21.size) m22.size) md4.size)) ge7)))).ext m26).mod m27 (notin1 (Nat.ne_of_lt (Nat.lt_of_lt_of_le (Nat.lt_of_lt_of_le r15.lt (Nat.le_trans (Nat.le_trans (Nat.le_trans (Nat.le_trans (Nat.le_trans m18.size m19.size) m20.size) m21.size) m22.size) md4.size)) ge8)))).ext m28).rng rfl rfl rfl) rfl rfl rfl ?_
    refine WL.call (oc_call (vs := [.agg #[.int .i64 0, .float .f32 0, .float .f32 0, .float .f32 0, .float .f32 0, .float .f32 0], .agg #[.int .i64 0, .float .f32 0, .float .f32 0, .float .f32 0, .float .f32 0, .float .f32 0]]) (cap := []) rfl rfl rfl Try.call29 (c_eqFilter (0 : Int) 0 0 0 0 0 w32)) rfl rfl (ltb rfl) ?_
    rintro _ w33 ⟨rfl, m29⟩
    refine WL.det (op_not rfl) rfl rfl rfl ?_
    refine WL.det (op_move rfl) rfl rfl rfl ?_
    refine WL.yes rfl rfl rfl (ltb rfl) rfl rfl ?_
    refine WL.det (op_loadA (i := 0) (cs := fl (List.replicate 16 0)) rfl Try.isAgg62 Try.sizeOf62 ((r26.ext m28).ext m29).rng rfl (fl_whole List.length_replicate) (fl_len List.length_replicate)) rfl rfl rfl ?_
    refine WL.yes rfl rfl rfl (ltb rfl) rfl rfl ?_
    refine WL.det (op_loadA (i := 0) (cs := fl (List.replicate 16 0)) rfl Try.isAgg62 Try.sizeOf62 (((((((((r20.ext m22).ext md4).ext m23).ext m24).mod m25 (notin1 (Nat.ne_of_lt (Nat.lt_of_lt_of_le (Nat.lt_of_lt_of_le r16.lt (Nat.le_trans (Nat.le_trans (Nat.le_trans (Nat.le_trans (Nat.le_trans m18.size m19.size) m20.size) m21.size) m22.size) md4.size)) ge7)))).ext m26).mod m27 (notin1 (Nat.ne_of_lt (Nat.lt_of_lt_of_le (Nat.lt_of_lt_of_le r16.lt (Nat.le_trans (Nat.le_trans (Nat.le_trans (Nat.le_trans (Nat.le_trans m18.size m19.size) m20.size) m21.size) m22.size) md4.size)) ge8)))).ext m28).ext m29).rng rfl (fl_whole List.length_replicate) (fl_len List.length_replicate)) rfl rfl rfl ?_
    refine WL.yes rfl rfl rfl (ltb rfl) rfl rfl ?_
    refine WL.call (oc_call (vs := [.agg (fl (List.replicate 16 0)).toArray, .agg (fl (List.replicate 16 0)).toArray]) (cap := []) rfl rfl rfl Try.call33 (c_eqBlock (List.replicate 16 0) (List.replicate 16 0) List.length_replicate List.length_replicate (W32.zeros _) (W32.zeros _) (fun _ _ => rfl) w33)) rfl rfl (ltb rfl) ?_
    rintro _ w34 ⟨rfl, m30⟩
    refine WL.yes rfl rfl rfl (ltb rfl) rfl rfl ?_
    refine WL.det (op_not rfl) rfl rfl rfl ?_
    refine WL.det (op_pick_f rfl rfl rfl) rfl rfl rfl ?_
    refine WL.det (op_move rfl) rfl rfl rfl ?_
    refine WL.yes rfl rfl rfl (ltb rfl) rfl rfl ?_
    refine WL.det (op_move rfl) rfl rfl rfl ?_
    refine WL.yes rfl rfl rfl (ltb rfl) rfl rfl ?_
    refine WL.det (op_move rfl) rfl rfl rfl ?_
    refine WL.yes rfl rfl rfl (ltb rfl) rfl rfl ?_
    refine WL.det (op_nei rfl rfl) rfl rfl rfl ?_
    refine WL.det (op_pick_f rfl rfl rfl) rfl rfl rfl ?_
    refine WL.end ?_
    refine NE.code ?_
    refine CE.cond_f rfl rfl ?_
    refine CE.skip' ?_
    refine NE.code ?_
    refine CE.seq ?_
    refine CE.region ?_
    refine WL.det (op_assign rfl) rfl rfl rfl ?_
    refine WL.end ?_
    refine NE.code ?_
    refine CE.ret' ?_
    refine XE.leave1 Try.results7 rfl ?_
    refine ⟨rfl, (((((((((((((((((((Mod.refl [] w).nil_then m1).nil_then m2).nil_then md3).nil_then m17).nil_then m18).then m19 (allow1 (.inr (Nat.le_trans (Nat.le_trans (Nat.le_trans m1.size m2.size) md3.size) ge5)))).nil_then m20).then m21 (allow1 (.inr (Nat.le_trans (Nat.le_trans (Nat.le_trans m1.size m2.size) md3.size) ge6)))).nil_then m22).nil_then md4).nil_then m23).nil_then m24).then m25 (allow1 (.inr (Nat.le_trans (Nat.le_trans (Nat.le_trans (Nat.le_trans (Nat.le_trans (Nat.le_trans (Nat.le_trans (Nat.le_trans (Nat.le_trans (Nat.le_trans m1.size m2.size) md3.size) m17.size) m18.size) m19.size) m20.size) m21.size) m22.size) md4.size) ge7)))).nil_then m26).then m27 (allow1 (.inr (Nat.le_trans (Nat.le_trans (Nat.le_trans (Nat.le_trans (Nat.le_trans (Nat.le_trans (Nat.le_trans (Nat.le_trans (Nat.le_trans (Nat.le_trans m1.size m2.size) md3.size) m17.size) m18.size) m19.size) m20.size) m21.size) m22.size) md4.size) ge8)))).nil_then m28).nil_then m29).nil_then m30)⟩

end Go.Proofs.Ytdjmhecijopfmaa
