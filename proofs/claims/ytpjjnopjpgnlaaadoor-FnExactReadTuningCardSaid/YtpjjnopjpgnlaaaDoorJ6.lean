/- Texts of no tuning; comparisons and marks of tunings. -/
import Derived.Test.YtpjjnopjpgnlaaaDoorJ4
import Derived.Test.YtpjjnopjpgnlaaaDoorE14
set_option linter.unusedVariables false
set_option linter.unusedSimpArgs false
namespace Go.Proofs.YtpjjnopjpgnlaaaDoor

theorem splG_le (s : ByteArray) (c : Nat) : ∀ i, (splG s c i).1.length ≤ i
  | 0 => Nat.le_refl _
  | i + 1 => by
    have := splG_le s c i
    by_cases h : byt s i = c
    · rw [splG_t h]; simp only [List.length_append, List.length_cons, List.length_nil]; omega
    · rw [splG_f h]; omega
theorem nW_le (s : ByteArray) (c : Nat) : nW s c ≤ s.size + 1 := by
  have h1 := splG_le s c s.size
  have h2 : nW s c = (splG s c s.size).1.length + 1 := splW_len s c
  omega

set_option maxRecDepth 100000 in
set_option maxHeartbeats 2000000 in
theorem c_eqTuning (ba : Nat) (bae : Nat) (oc : Nat) (oce : Nat) (nD : Nat) (cD : Nat) (AD : Option Addr) (bD : Nat) (oD : Nat) (xD : List Nat) (ba' : Nat) (oc' : Nat) (cD' : Nat) (AD' : Option Addr) (bD' : Nat) (oD' : Nat) (lnD : xD.length = nD) (hAD : 0 < nD → AD = some ⟨bD, oD, none⟩) (hba : cn .f32 ba = cn .f32 bae) (hba' : cn .f32 ba' = cn .f32 bae) (hoc : cn .f32 oc = cn .f32 oce) (hoc' : cn .f32 oc' = cn .f32 oce) (hAD' : 0 < nD → AD' = some ⟨bD', oD', none⟩) (hbnD : nD ≤ 9223372036854775807) (w : World) (rD : Rng w bD oD (fl xD)) (rD' : Rng w bD' oD' (fl xD)) : Cl Tryd.prog 6 #[.agg #[vF ba, vF oc, .slice AD nD cD], .agg #[vF ba', vF oc', .slice AD' nD cD']] w fun v w' => v = .bool true ∧ Mod [] w w' := by
  refine Cl.of Tryd.func6 Tryd.ntmps6 rfl rfl (ρ := [(0, .agg #[vF ba, vF oc, .slice AD nD cD]), (1, .agg #[vF ba', vF oc', .slice AD' nD cD'])]) rfl ?_
  refine CE.seq ?_
  refine CE.region ?_
  refine WL.op (op_box (cs := [vF ba, vF oc, .slice AD nD cD]) rfl rfl) rfl rfl (ltb rfl) ?_
  rintro _ w1 ⟨rfl, r1, m1, z1⟩
  refine WL.op (op_box (cs := [vF ba', vF oc', .slice AD' nD cD']) rfl rfl) rfl rfl (ltb rfl) ?_
  rintro _ w2 ⟨rfl, r2, m2, z2⟩
  refine WL.det (op_assign rfl) rfl rfl rfl ?_
  refine WL.end ?_
  refine NE.code ?_
  refine CE.seq ?_
  refine CE.seq ?_
  refine CE.region ?_
  refine WL.det (op_fieldAddr (off' := 0) rfl Tryd.runUnderlying25 rfl rfl Tryd.sizeOf22 rfl) rfl rfl rfl ?_
  refine WL.det (op_load1 (i := 0) rfl Tryd.isAgg22 (r1.ext m2).rng rfl rfl) rfl rfl rfl ?_
  refine WL.op (op_widen (e := (wide bae)) rfl hba Tryd.runUnderlying22 Tryd.runUnderlying40 rfl) rfl rfl (ltb rfl) ?_
  rintro _ w3 ⟨⟨f1, rfl, hf1, lf1⟩, m3⟩
  refine WL.det (op_fieldAddr (off' := 0) rfl Tryd.runUnderlying25 rfl rfl Tryd.sizeOf22 rfl) rfl rfl rfl ?_
  refine WL.det (op_load1 (i := 0) rfl Tryd.isAgg22 (r2.ext m3).rng rfl rfl) rfl rfl rfl ?_
  refine WL.op (op_widen (e := (wide bae)) rfl hba' Tryd.runUnderlying22 Tryd.runUnderlying40 rfl) rfl rfl (ltb rfl) ?_
  rintro _ w4 ⟨⟨f2, rfl, hf2, lf2⟩, m4⟩
  refine WL.call (oc_call (vs := [.float .f64 f1, .float .f64 f2]) (cap := []) rfl rfl rfl Tryd.call15 (c_sameFloat f1 (wide bae) f2 (wide bae) hf1 hf2 w4)) rfl rfl (ltb rfl) ?_
  rintro _ w5 ⟨rfl, m5⟩
  refine WL.det (op_not rfl) rfl rfl rfl ?_
  refine WL.end ?_
  refine NE.code ?_
  refine CE.cond_f rfl (bnot_t (sameF_self _)) ?_
  refine CE.skip' ?_
  refine NE.code ?_
  refine CE.seq ?_
  refine CE.seq ?_
  refine CE.region ?_
  refine WL.det (op_fieldAddr (off' := 1) rfl Tryd.runUnderlying25 rfl rfl Tryd.sizeOf22 rfl) rfl rfl rfl ?_
  refine WL.det (op_load1 (i := 1) rfl Tryd.isAgg22 ((((r1.ext m2).ext m3).ext m4).ext m5).rng rfl rfl) rfl rfl rfl ?_
  refine WL.op (op_widen (e := (wide oce)) rfl hoc Tryd.runUnderlying22 Tryd.runUnderlying40 rfl) rfl rfl (ltb rfl) ?_
  rintro _ w6 ⟨⟨f3, rfl, hf3, lf3⟩, m6⟩
  refine WL.det (op_fieldAddr (off' := 1) rfl Tryd.runUnderlying25 rfl rfl Tryd.sizeOf22 rfl) rfl rfl rfl ?_
  refine WL.det (op_load1 (i := 1) rfl Tryd.isAgg22 ((((r2.ext m3).ext m4).ext m5).ext m6).rng rfl rfl) rfl rfl rfl ?_
  refine WL.op (op_widen (e := (wide oce)) rfl hoc' Tryd.runUnderlying22 Tryd.runUnderlying40 rfl) rfl rfl (ltb rfl) ?_
  rintro _ w7 ⟨⟨f4, rfl, hf4, lf4⟩, m7⟩
  refine WL.call (oc_call (vs := [.float .f64 f3, .float .f64 f4]) (cap := []) rfl rfl rfl Tryd.call15 (c_sameFloat f3 (wide oce) f4 (wide oce) hf3 hf4 w7)) rfl rfl (ltb rfl) ?_
  rintro _ w8 ⟨rfl, m8⟩
  refine WL.det (op_not rfl) rfl rfl rfl ?_
  refine WL.end ?_
  refine NE.code ?_
  refine CE.cond_f rfl (bnot_t (sameF_self _)) ?_
  refine CE.skip' ?_
  refine NE.code ?_
  refine CE.seq ?_
  refine CE.seq ?_
  refine CE.region ?_
  refine WL.det (op_fieldAddr (off' := 2) rfl Tryd.runUnderlying25 rfl rfl Tryd.sizeOf23 rfl) rfl rfl rfl ?_
  refine WL.det (op_load1 (i := 2) rfl Tryd.isAgg23 (((((((r1.ext m2).ext m3).ext m4).ext m5).ext m6).ext m7).ext m8).rng rfl rfl) rfl rfl rfl ?_
  refine WL.det (op_fieldAddr (off' := 2) rfl Tryd.runUnderlying25 rfl rfl Tryd.sizeOf23 rfl) rfl rfl rfl ?_
  refine WL.det (op_load1 (i := 2) rfl Tryd.isAgg23 ((((((r2.ext m3).ext m4).ext m5).ext m6).ext m7).ext m8).rng rfl rfl) rfl rfl rfl ?_
  refine WL.call (oc_call (vs := [.slice AD nD cD, .slice AD' nD cD']) (cap := []) rfl rfl rfl Tryd.call16 (c_eq32_same nD cD AD bD oD xD cD' AD' bD' oD' lnD hAD hAD' (by omega) w8 ((((((((rD.ext m1).ext m2).ext m3).ext m4).ext m5).ext m6).ext m7).ext m8) ((((((((rD'.ext m1).ext m2).ext m3).ext m4).ext m5).ext m6).ext m7).ext m8))) rfl rfl (ltb rfl) ?_
  rintro _ w9 ⟨rfl, m9⟩
  refine WL.det (op_not rfl) rfl rfl rfl ?_
  refine WL.end ?_
  refine NE.code ?_
  refine CE.cond_f rfl rfl ?_
  refine CE.skip' ?_
  refine NE.code ?_
  refine CE.seq ?_
  refine CE.region ?_
  refine WL.det (op_assign rfl) rfl rfl rfl ?_
  refine WL.end ?_
  refine NE.code ?_
  refine CE.ret' ?_
  refine XE.leave1 Tryd.results6 rfl ?_
  refine ⟨rfl, ((((((((((Mod.refl [] w).nt m1).nt m2).nt m3).nt m4).nt m5).nt m6).nt m7).nt m8).nt m9)⟩

set_option maxRecDepth 100000 in
set_option maxHeartbeats 2000000 in
theorem c_markTuning_nil (ba : Nat) (oc : Nat) (k : Nat) (hk : k ≤ 1048576) (w : World) : Cl Tryd.prog 7 #[.agg #[vF ba, vF oc, .slice none 0 0], vI ((k : Nat) : Int)] w fun v w' => v = vI ((k : Nat) : Int) ∧ Mod [] w w' := by
  refine Cl.of Tryd.func7 Tryd.ntmps7 rfl rfl (ρ := [(0, .agg #[vF ba, vF oc, .slice none 0 0]), (1, vI ((k : Nat) : Int))]) rfl ?_
  refine CE.seq ?_
  refine CE.region ?_
  refine WL.op (op_box (cs := [vF ba, vF oc, .slice none 0 0]) rfl rfl) rfl rfl (ltb rfl) ?_
  rintro _ w1 ⟨rfl, r1, m1, z1⟩
  refine WL.det (op_assign rfl) rfl rfl rfl ?_
  refine WL.end ?_
  refine NE.code ?_
  refine CE.seq ?_
  refine CE.region ?_
  refine WL.det (op_fieldAddr (off' := 2) rfl Tryd.runUnderlying25 rfl rfl Tryd.sizeOf23 rfl) rfl rfl rfl ?_
  refine WL.det (op_load1 (i := 2) rfl Tryd.isAgg23 r1.rng rfl rfl) rfl rfl rfl ?_
  refine WL.det (op_move rfl) rfl rfl rfl ?_
  refine WL.call (oc_call (vs := [.slice none 0 0, vI ((k : Nat) : Int)]) (cap := []) rfl rfl rfl Tryd.call17 (c_mark32_nil k w1)) rfl rfl (ltb rfl) ?_
  rintro _ _ ⟨rfl, rfl⟩
  refine WL.det (op_assign rfl) rfl rfl rfl ?_
  refine WL.end ?_
  refine NE.code ?_
  refine CE.seq ?_
  refine CE.region ?_
  refine WL.det (op_move rfl) rfl rfl rfl ?_
  refine WL.det (op_assign rfl) rfl rfl rfl ?_
  refine WL.end ?_
  refine NE.code ?_
  refine CE.ret' ?_
  refine XE.leave1 Tryd.results7 rfl ?_
  refine ⟨rfl, ((Mod.refl [] w).nt m1)⟩

set_option maxRecDepth 100000 in
set_option maxHeartbeats 2000000 in
theorem c_heldTuning_nil (ba : Nat) (oc : Nat) (k : Nat) (hk : k ≤ 1048576) (w : World) : Cl Tryd.prog 8 #[.agg #[vF ba, vF oc, .slice none 0 0], vI ((k : Nat) : Int)] w fun v w' => v = vI ((k : Nat) : Int) ∧ Mod [] w w' := by
  refine Cl.of Tryd.func8 Tryd.ntmps8 rfl rfl (ρ := [(0, .agg #[vF ba, vF oc, .slice none 0 0]), (1, vI ((k : Nat) : Int))]) rfl ?_
  refine CE.seq ?_
  refine CE.region ?_
  refine WL.op (op_box (cs := [vF ba, vF oc, .slice none 0 0]) rfl rfl) rfl rfl (ltb rfl) ?_
  rintro _ w1 ⟨rfl, r1, m1, z1⟩
  refine WL.det (op_assign rfl) rfl rfl rfl ?_
  refine WL.end ?_
  refine NE.code ?_
  refine CE.seq ?_
  refine CE.region ?_
  refine WL.det (op_fieldAddr (off' := 2) rfl Tryd.runUnderlying25 rfl rfl Tryd.sizeOf23 rfl) rfl rfl rfl ?_
  refine WL.det (op_load1 (i := 2) rfl Tryd.isAgg23 r1.rng rfl rfl) rfl rfl rfl ?_
  refine WL.det (op_move rfl) rfl rfl rfl ?_
  refine WL.call (oc_call (vs := [.slice none 0 0, vI ((k : Nat) : Int)]) (cap := []) rfl rfl rfl Tryd.call18 (c_held32 0 0 none 0 0 [] k rfl (fun h => absurd h (Nat.lt_irrefl _)) (by first | assumption | omega) (by first | assumption | omega) (by first | assumption | exact marks_held _ _ _ | exact (hh _ (by omega)).1 | (rw [sumK_marks lZR lZL]; exact marks_held _ _ _)) w1 (Rng.nil _ _ _))) rfl rfl (ltb rfl) ?_
  rintro _ w2 ⟨rfl, m2⟩
  refine WL.det (op_assign rfl) rfl rfl rfl ?_
  refine WL.end ?_
  refine NE.code ?_
  refine CE.seq ?_
  refine CE.seq ?_
  refine CE.region ?_
  refine WL.det (op_move rfl) rfl rfl rfl ?_
  refine WL.det (op_lti_f rfl rfl (by omega)) rfl rfl rfl ?_
  refine WL.end ?_
  refine NE.code ?_
  refine CE.cond_f rfl rfl ?_
  refine CE.skip' ?_
  refine NE.code ?_
  refine CE.seq ?_
  refine CE.region ?_
  refine WL.det (op_move rfl) rfl rfl rfl ?_
  refine WL.det (op_assign rfl) rfl rfl rfl ?_
  refine WL.end ?_
  refine NE.code ?_
  refine CE.ret' ?_
  refine XE.leave1 Tryd.results8 rfl ?_
  refine ⟨?_, (((Mod.refl [] w).nt m1).nt m2)⟩
  all_goals simp_all

set_option maxRecDepth 100000 in
set_option maxHeartbeats 2000000 in
theorem c_sRead_no (s : ByteArray) (hs : s.size ≤ 1048576) (hv : okS s = false) (w : World) : Cl Tryd.prog 4 #[.string s] w fun v w' => v = .tuple #[.agg #[vF 0, vF 0, .slice none 0 0], vI 5] ∧ Mod [] w w' := by
  have k6 := nW_pos s 32; have k7 := rdL_w ((splW s 32).drop 1); have k10 := W32.get k7 0; have k11 := W32.get k7 1; have k12 := nW_le s 32
  refine Cl.of Tryd.func4 Tryd.ntmps4 rfl rfl (ρ := [(0, .string s)]) rfl ?_
  refine CE.seq ?_
  refine CE.region ?_
  refine WL.op (op_alloc (cs := [vF 0, vF 0, .slice none 0 0]) Tryd.zeroValue25 rfl) rfl rfl (ltb rfl) ?_
  rintro _ w1 ⟨rfl, r1, m1, z1⟩
  refine WL.det (op_assign rfl) rfl rfl rfl ?_
  refine WL.end ?_
  refine NE.code ?_
  refine CE.seq ?_
  refine CE.seq ?_
  refine CE.region ?_
  refine WL.det (op_move rfl) rfl rfl rfl ?_
  refine WL.det (op_lens rfl Tryd.runUnderlying9) rfl rfl rfl ?_
  refine WL.det (op_gti rfl rfl) rfl rfl rfl ?_
  refine WL.end ?_
  refine NE.code ?_
  rcases Bool.eq_false_or_eq_true (decide ((1000 : Int) < ((s.size : Nat) : Int))) with hb1 | hb1
  · have hp1 := of_decide_eq_true hb1
    refine CE.cond_t rfl hb1 ?_
    refine CE.seq ?_
    refine CE.region ?_
    refine WL.det (op_build (qs := []) (cells := #[vF 0, vF 0, .slice none 0 0]) rfl (by kernel_rfl)) rfl rfl rfl ?_
    refine WL.op0 (op_store (i := 0) (cs := [vF 0, vF 0, .slice none 0 0]) rfl rfl rfl Tryd.sizeOf25 rfl r1 rfl (lB rfl) rfl) rfl rfl ?_
    rintro _ w2 ⟨r2, m2, z2⟩
    have r3 : Row w2 w.heap.size 0 [vF 0, vF 0, .slice none 0 0] := Row.congr r2 rfl
    refine WL.det (op_assign rfl) rfl rfl rfl ?_
    refine WL.end ?_
    refine NE.code ?_
    refine CE.ret' ?_
    refine XE.ret_then ?_
    refine XE.leaveT Tryd.results4 (res_agg (cs := [vF 0, vF 0, .slice none 0 0]) rfl Tryd.isAgg25 Tryd.sizeOf25 r3.rng rfl (res_tmp rfl res_nil)) ?_
    refine ⟨rfl, (((Mod.refl [] w).nt m1).then m2 ((aC (.inr lR) aN)))⟩
  · have hp1 := of_decide_eq_false hb1
    refine CE.cond_f rfl hb1 ?_
    refine CE.skip' ?_
    refine NE.code ?_
    refine CE.seq ?_
    refine CE.region ?_
    refine WL.det (op_move rfl) rfl rfl rfl ?_
    refine WL.call (oc_call (vs := [.string s, .int .u8 32]) (cap := []) rfl rfl rfl Tryd.call9 (c_split2 s (by first | assumption | omega | exact hS _) w1)) rfl rfl (ltb rfl) ?_
    rintro _ w3 ⟨b'1, c'1, rfl, h1, h2, r4, ge1, m3⟩
    refine WL.det (op_assign rfl) rfl rfl rfl ?_
    refine WL.end ?_
    refine NE.code ?_
    refine CE.seq ?_
    refine CE.region ?_
    refine WL.det (op_move rfl) rfl rfl rfl ?_
    have r5 : Row w3 b'1 (0 + 1) (cat StrR.cells ((splW s 32).drop 1)) := Row.congr (Row.drop r4 1) (strs_drop _ _)
    refine WL.det (op_slLoX (i := 1) rfl rfl rfl Tryd.runUnderlying31 Tryd.sizeOf9 (by omega) (by omega)) rfl rfl rfl ?_
    rcases Bool.eq_false_or_eq_true (allO ((splW s 32).drop 1)) with hb2 | hb2
    · rcases Bool.eq_false_or_eq_true (decide ((3 : Int) ≤ ((((nW s 32) - 1) : Nat) : Int))) with hb3 | hb3
      · have hp3 := of_decide_eq_true hb3
        refine WL.call (oc_call (vs := [.slice (slA b'1 0 c'1 1) ((nW s 32) - 1) (c'1 - 1)]) (cap := []) rfl rfl rfl Tryd.call10 (c_nums_t ((nW s 32) - 1) (c'1 - 1) (slA b'1 0 c'1 1) b'1 (0 + 1) ((splW s 32).drop 1) (drop_len rfl 1) (slA_eq (by omega)) (by first | assumption | omega) (by first | assumption | exact fun i => sz_drop (by assumption) i) (by assumption) (by first | assumption | omega) w3 r5.rng)) rfl rfl (ltb rfl) ?_
        rintro _ w4 ⟨b'2, c'2, rfl, h3, r6, r7, ge2, m4⟩
        refine WL.det (op_move rfl) rfl rfl rfl ?_
        refine WL.det (op_extract rfl rfl) rfl rfl rfl ?_
        refine WL.det (op_extract rfl rfl) rfl rfl rfl ?_
        refine WL.det (op_assign rfl) rfl rfl rfl ?_
        refine WL.det (op_assign rfl) rfl rfl rfl ?_
        refine WL.end ?_
        refine NE.code ?_
        refine CE.seq ?_
        refine CE.seq ?_
        refine CE.region ?_
        refine WL.det (op_move rfl) rfl rfl rfl ?_
        refine WL.det (op_indexSl (off' := 0) rfl rfl rfl Tryd.runUnderlying31 Tryd.sizeOf9 (by omega) (by omega) rfl) rfl rfl rfl ?_
        refine WL.det (op_load1 (i := 0 * 1) rfl Tryd.isAgg9 (r4.ext m4).rng rfl (cat_get0 (f := StrR.cells) (m := 1) (i := 0) (d := StrR.d) (fun _ => rfl) (by have eL : List.length (splW s 32) = nW s 32 := rfl; omega) rfl)) rfl rfl rfl ?_
        refine WL.det (op_nes rfl rfl) rfl rfl rfl ?_
        refine WL.det (op_move rfl) rfl rfl rfl ?_
        rcases Bool.eq_false_or_eq_true (sEq (((splW s 32).getD 0 StrR.d).s) (⟨#[116, 117, 110, 105, 110, 103]⟩)) with hb4 | hb4
        · refine WL.yes rfl rfl rfl (ltb rfl) rfl (bnot_t hb4) ?_
          refine WL.det (op_move rfl) rfl rfl rfl ?_
          refine WL.yes rfl rfl rfl (ltb rfl) rfl (bnot_t hb4) ?_
          refine WL.det (op_not rfl) rfl rfl rfl ?_
          refine WL.det (op_pick_f rfl (bnot_t hb4) rfl) rfl rfl rfl ?_
          refine WL.det (op_move rfl) rfl rfl rfl ?_
          refine WL.yes rfl rfl rfl (ltb rfl) rfl rfl ?_
          refine WL.det (op_move rfl) rfl rfl rfl ?_
          refine WL.yes rfl rfl rfl (ltb rfl) rfl rfl ?_
          refine WL.det (op_len rfl Tryd.runUnderlying23) rfl rfl rfl ?_
          refine WL.yes rfl rfl rfl (ltb rfl) rfl rfl ?_
          refine WL.det (op_lti rfl rfl) rfl rfl rfl ?_
          refine WL.det (op_pick_f rfl rfl rfl) rfl rfl rfl ?_
          refine WL.end ?_
          refine NE.code ?_
          rcases Bool.eq_false_or_eq_true (decide ((((nW s 32) - 1 : Nat) : Int) < (3 : Int))) with hb5 | hb5
          · have hp5 := of_decide_eq_true hb5
            exfalso; omega
          · have hp5 := of_decide_eq_false hb5
            refine CE.cond_f rfl hb5 ?_
            refine CE.skip' ?_
            refine NE.code ?_
            refine CE.seq ?_
            refine CE.drawF (fun _ => none) [0, 1, 2, 3, 4, 5, 6, 7, 8, 9, 10, 11] [12] [] (fun ρ W => ∃ (e1_6_0 : Nat) (e1_9_0 : Nat) (e1_9_1 : Nat) (e1_11_0 : Nat), ρ = [(2, vP w.heap.size 0), (3, vI 0), (7, vP e1_11_0 0), (44, .agg #[vF ((rdL ((splW s 32).drop 1)).getD 0 0), vF ((rdL ((splW s 32).drop 1)).getD 1 0), vS e1_9_0 0 (((nW s 32) - 1) - 2) e1_9_1])] ∧ Row W e1_6_0 0 [] ∧ Row W e1_9_0 0 (fl ((rdL ((splW s 32).drop 1)).drop 2)) ∧ Row W e1_11_0 0 [vF 0, vF 0, .slice none 0 0] ∧ w4.heap.size ≤ e1_6_0 ∧ w4.heap.size ≤ e1_9_0 ∧ w4.heap.size ≤ e1_11_0 ∧ e1_6_0 ≠ e1_9_0 ∧ e1_6_0 ≠ e1_11_0 ∧ e1_9_0 ≠ e1_11_0 ∧ Mod [] w4 W) (by kernel_rfl) (by kernel_rfl) ?_ ?_
            have md1 : Mod [] w4 w4.drew := (Mod.refl _ _).drew
            generalize w4.drew = w5 at md1 ⊢
            · refine DR.det (i := 0) rfl rfl (by kernel_rfl) (.free rfl) rfl rfl (fun wD mD => op_move rfl) ?_
              refine DR.det (i := 1) rfl rfl (by kernel_rfl) (.free rfl) rfl rfl (fun wD mD => op_indexSl (off' := 0) rfl rfl rfl Tryd.runUnderlying23 Tryd.sizeOf22 (by omega) (by omega) rfl) ?_
              refine DR.det (i := 2) rfl rfl (by kernel_rfl) (.free rfl) rfl rfl (fun wD mD => op_load1 (i := 0) rfl Tryd.isAgg22 ((r6.ext md1).ext mD).rng rfl (fl_get (by have eL : List.length (rdL ((splW s 32).drop 1)) = (nW s 32) - 1 := (rdL_len (drop_len rfl 1)); omega))) ?_
              refine DR.det (i := 3) rfl rfl (by kernel_rfl) (.free rfl) rfl rfl (fun wD mD => op_move rfl) ?_
              refine DR.det (i := 4) rfl rfl (by kernel_rfl) (.free rfl) rfl rfl (fun wD mD => op_indexSl (off' := 1) rfl rfl rfl Tryd.runUnderlying23 Tryd.sizeOf22 (by omega) (by omega) rfl) ?_
              refine DR.det (i := 5) rfl rfl (by kernel_rfl) (.free rfl) rfl rfl (fun wD mD => op_load1 (i := 1) rfl Tryd.isAgg22 ((r6.ext md1).ext mD).rng rfl (fl_get (by have eL : List.length (rdL ((splW s 32).drop 1)) = (nW s 32) - 1 := (rdL_len (drop_len rfl 1)); omega))) ?_
              refine DR.det (i := 7) rfl rfl (by kernel_rfl) (.free rfl) rfl rfl (fun wD mD => op_move rfl) ?_
              refine DR.det (i := 8) rfl rfl (by kernel_rfl) (.free rfl) rfl rfl (fun wD mD => op_slLo (i := 2) rfl rfl rfl Tryd.runUnderlying23 Tryd.sizeOf22 (by omega) (by omega)) ?_
              refine DR.fork (is := [6, 11]) (by kernel_rfl) (by decide) (all2 ?_ ?_)
              · refine DP.op (i := 6) rfl rfl (.free rfl) rfl (ltb rfl) ?_
                intro w6 m5
                refine Op1.mono (op_emptySl rfl Tryd.runUnderlying23 Tryd.sizeOf22) ?_
                rintro _ w7 ⟨rfl, r8, m6, z3⟩
                refine ⟨(((Mod.refl [] w5).nt m5).nt m6), ?_⟩
                refine DR.rebase ?_
                refine DR.fork (is := [9, 11]) (by kernel_rfl) (by decide) (all2 ?_ ?_)
                · refine DP.op (i := 9) rfl rfl (.free rfl) rfl (ltb rfl) ?_
                  intro w8 m7
                  refine Op1.mono (op_appendFo (i := Tryd.t22) rfl rfl Tryd.underlying23 rfl rfl rfl rfl ((((r7.ext md1).ext m5).ext m6).ext m7).rng (drop_len (rdL_len (drop_len rfl 1)) 2) (by omega) (by omega)) ?_
                  rintro _ w9 ⟨b1, c1, rfl, ge3, r9, m8⟩
                  refine ⟨(((Mod.refl [] w7).nt m7).nt m8), ?_⟩
                  refine DR.rebase ?_
                  refine DR.det (i := 10) rfl rfl (by kernel_rfl) (.free rfl) rfl rfl (fun wD mD => op_build (qs := [(0, vF ((rdL ((splW s 32).drop 1)).getD 0 0)), (1, vF ((rdL ((splW s 32).drop 1)).getD 1 0)), (2, vS b1 0 (((nW s 32) - 1) - 2) c1)]) (cells := #[vF ((rdL ((splW s 32).drop 1)).getD 0 0), vF ((rdL ((splW s 32).drop 1)).getD 1 0), vS b1 0 (((nW s 32) - 1) - 2) c1]) rfl (by kernel_rfl)) ?_
                  refine DR.one1 (i := 11) rfl rfl (by kernel_rfl) (.free rfl) rfl (ltb rfl) ?_
                  intro w10 m9
                  refine Op1.mono (op_alloc (cs := [vF 0, vF 0, .slice none 0 0]) Tryd.zeroValue25 rfl) ?_
                  rintro _ w11 ⟨rfl, r10, m10, z4⟩
                  refine ⟨(((Mod.refl [] w9).nt m9).nt m10), ?_⟩
                  refine DR.sub [(2, vP w.heap.size 0), (3, vI 0), (7, vP w10.heap.size 0), (44, .agg #[vF ((rdL ((splW s 32).drop 1)).getD 0 0), vF ((rdL ((splW s 32).drop 1)).getD 1 0), vS b1 0 (((nW s 32) - 1) - 2) c1])] ⟨rfl, rfl, rfl, rfl, trivial⟩ ?_
                  refine DR.meet rfl ?_
                  intro w12 m11
                  exact ⟨w6.heap.size, b1, c1, w10.heap.size, rfl, (((((r8.ext m7).ext m8).ext m9).ext m10).ext m11), (((r9.ext m9).ext m10).ext m11), (r10.ext m11), (lT (lT md1.size m5.size) lR), (lT (lT (lT (lT md1.size m5.size) m6.size) m7.size) ge3), (lT (lT (lT (lT (lT (lT md1.size m5.size) m6.size) m7.size) m8.size) m9.size) lR), (lE (lL (lL r8.lt m7.size) ge3)), (lE (lL (lL r8.lt (lT (lT m7.size m8.size) m9.size)) lR)), (lE (lL (lL r9.lt m9.size) lR)), (((((((((Mod.refl [] w4).nt md1).nt m5).nt m6).nt m7).nt m8).nt m9).nt m10).nt m11)⟩
                · refine DP.op (i := 11) rfl rfl (.free rfl) rfl (ltb rfl) ?_
                  intro w13 m12
                  refine Op1.mono (op_alloc (cs := [vF 0, vF 0, .slice none 0 0]) Tryd.zeroValue25 rfl) ?_
                  rintro _ w14 ⟨rfl, r11, m13, z5⟩
                  refine ⟨(((Mod.refl [] w7).nt m12).nt m13), ?_⟩
                  refine DR.rebase ?_
                  refine DR.one1 (i := 9) rfl rfl (by kernel_rfl) (.free rfl) rfl (ltb rfl) ?_
                  intro w15 m14
                  refine Op1.mono (op_appendFo (i := Tryd.t22) rfl rfl Tryd.underlying23 rfl rfl rfl rfl ((((((r7.ext md1).ext m5).ext m6).ext m12).ext m13).ext m14).rng (drop_len (rdL_len (drop_len rfl 1)) 2) (by omega) (by omega)) ?_
                  rintro _ w16 ⟨b2, c2, rfl, ge4, r12, m15⟩
                  refine ⟨(((Mod.refl [] w14).nt m14).nt m15), ?_⟩
                  refine DR.rebase ?_
                  refine DR.det (i := 10) rfl rfl (by kernel_rfl) (.free rfl) rfl rfl (fun wD mD => op_build (qs := [(0, vF ((rdL ((splW s 32).drop 1)).getD 0 0)), (1, vF ((rdL ((splW s 32).drop 1)).getD 1 0)), (2, vS b2 0 (((nW s 32) - 1) - 2) c2)]) (cells := #[vF ((rdL ((splW s 32).drop 1)).getD 0 0), vF ((rdL ((splW s 32).drop 1)).getD 1 0), vS b2 0 (((nW s 32) - 1) - 2) c2]) rfl (by kernel_rfl)) ?_
                  refine DR.sub [(2, vP w.heap.size 0), (3, vI 0), (7, vP w13.heap.size 0), (44, .agg #[vF ((rdL ((splW s 32).drop 1)).getD 0 0), vF ((rdL ((splW s 32).drop 1)).getD 1 0), vS b2 0 (((nW s 32) - 1) - 2) c2])] ⟨rfl, rfl, rfl, rfl, trivial⟩ ?_
                  refine DR.meet rfl ?_
                  intro w17 m16
                  exact ⟨w6.heap.size, b2, c2, w13.heap.size, rfl, (((((r8.ext m12).ext m13).ext m14).ext m15).ext m16), (r12.ext m16), (((r11.ext m14).ext m15).ext m16), (lT (lT md1.size m5.size) lR), (lT (lT (lT (lT (lT (lT md1.size m5.size) m6.size) m12.size) m13.size) m14.size) ge4), (lT (lT (lT (lT md1.size m5.size) m6.size) m12.size) lR), (lE (lL (lL r8.lt (lT (lT m12.size m13.size) m14.size)) ge4)), (lE (lL (lL r8.lt m12.size) lR)), (lG (lL (lL r11.lt m14.size) ge4)), (((((((((Mod.refl [] w4).nt md1).nt m5).nt m6).nt m12).nt m13).nt m14).nt m15).nt m16)⟩
              · refine DP.op (i := 11) rfl rfl (.free rfl) rfl (ltb rfl) ?_
                intro w18 m17
                refine Op1.mono (op_alloc (cs := [vF 0, vF 0, .slice none 0 0]) Tryd.zeroValue25 rfl) ?_
                rintro _ w19 ⟨rfl, r13, m18, z6⟩
                refine ⟨(((Mod.refl [] w5).nt m17).nt m18), ?_⟩
                refine DR.rebase ?_
                refine DR.one1 (i := 6) rfl rfl (by kernel_rfl) (.free rfl) rfl (ltb rfl) ?_
                intro w20 m19
                refine Op1.mono (op_emptySl rfl Tryd.runUnderlying23 Tryd.sizeOf22) ?_
                rintro _ w21 ⟨rfl, r14, m20, z7⟩
                refine ⟨(((Mod.refl [] w19).nt m19).nt m20), ?_⟩
                refine DR.rebase ?_
                refine DR.one1 (i := 9) rfl rfl (by kernel_rfl) (.free rfl) rfl (ltb rfl) ?_
                intro w22 m21
                refine Op1.mono (op_appendFo (i := Tryd.t22) rfl rfl Tryd.underlying23 rfl rfl rfl rfl ((((((r7.ext md1).ext m17).ext m18).ext m19).ext m20).ext m21).rng (drop_len (rdL_len (drop_len rfl 1)) 2) (by omega) (by omega)) ?_
                rintro _ w23 ⟨b3, c3, rfl, ge5, r15, m22⟩
                refine ⟨(((Mod.refl [] w21).nt m21).nt m22), ?_⟩
                refine DR.rebase ?_
                refine DR.det (i := 10) rfl rfl (by kernel_rfl) (.free rfl) rfl rfl (fun wD mD => op_build (qs := [(0, vF ((rdL ((splW s 32).drop 1)).getD 0 0)), (1, vF ((rdL ((splW s 32).drop 1)).getD 1 0)), (2, vS b3 0 (((nW s 32) - 1) - 2) c3)]) (cells := #[vF ((rdL ((splW s 32).drop 1)).getD 0 0), vF ((rdL ((splW s 32).drop 1)).getD 1 0), vS b3 0 (((nW s 32) - 1) - 2) c3]) rfl (by kernel_rfl)) ?_
                refine DR.sub [(2, vP w.heap.size 0), (3, vI 0), (7, vP w18.heap.size 0), (44, .agg #[vF ((rdL ((splW s 32).drop 1)).getD 0 0), vF ((rdL ((splW s 32).drop 1)).getD 1 0), vS b3 0 (((nW s 32) - 1) - 2) c3])] ⟨rfl, rfl, rfl, rfl, trivial⟩ ?_
                refine DR.meet rfl ?_
                intro w24 m23
                exact ⟨w20.heap.size, b3, c3, w18.heap.size, rfl, (((r14.ext m21).ext m22).ext m23), (r15.ext m23), (((((r13.ext m19).ext m20).ext m21).ext m22).ext m23), (lT (lT (lT (lT md1.size m17.size) m18.size) m19.size) lR), (lT (lT (lT (lT (lT (lT md1.size m17.size) m18.size) m19.size) m20.size) m21.size) ge5), (lT (lT md1.size m17.size) lR), (lE (lL (lL r14.lt m21.size) ge5)), (lG (lL (lL r13.lt m19.size) lR)), (lG (lL (lL r13.lt (lT (lT m19.size m20.size) m21.size)) ge5)), (((((((((Mod.refl [] w4).nt md1).nt m17).nt m18).nt m19).nt m20).nt m21).nt m22).nt m23)⟩
            · rintro _ w25 ⟨e1_6_0, e1_9_0, e1_9_1, e1_11_0, rfl, rr1_0, rr1_1, rr1_2, ge6, ge7, ge8, ne1, ne2, ne3, m24⟩
              refine WO.op0 rfl (.free rfl) rfl (op_store (i := 0) (cs := [vF ((rdL ((splW s 32).drop 1)).getD 0 0), vF ((rdL ((splW s 32).drop 1)).getD 1 0), vS e1_9_0 0 (((nW s 32) - 1) - 2) e1_9_1]) rfl rfl rfl Tryd.sizeOf25 rfl rr1_2 rfl (lB rfl) rfl) ?_
              rintro _ w26 ⟨r16, m25, z8⟩
              have r17 : Row w26 e1_11_0 0 [vF ((rdL ((splW s 32).drop 1)).getD 0 0), vF ((rdL ((splW s 32).drop 1)).getD 1 0), vS e1_9_0 0 (((nW s 32) - 1) - 2) e1_9_1] := Row.congr r16 rfl
              refine WO.end ?_
              refine NE.code ?_
              refine CE.seq ?_
              refine CE.seq ?_
              refine CE.region ?_
              refine WL.call (oc_call (vs := [vP e1_11_0 0]) (cap := []) rfl rfl rfl Tryd.call11 (c_l07Ok ((rdL ((splW s 32).drop 1)).getD 0 0) ((rdL ((splW s 32).drop 1)).getD 1 0) (((nW s 32) - 1) - 2) e1_9_1 e1_9_0 0 ((rdL ((splW s 32).drop 1)).drop 2) e1_11_0 (drop_len (rdL_len (drop_len rfl 1)) 2) (by omega) w26 r17.rng (rr1_1.mod m25 (nC ne3 nN)).rng)) rfl rfl (ltb rfl) ?_
              rintro _ w27 ⟨rfl, m26⟩
              refine WL.det (op_not rfl) rfl rfl rfl ?_
              refine WL.end ?_
              refine NE.code ?_
              rcases Bool.eq_false_or_eq_true (tunF ((rdL ((splW s 32).drop 1)).getD 0 0) ((rdL ((splW s 32).drop 1)).getD 1 0) ((rdL ((splW s 32).drop 1)).drop 2) (((nW s 32) - 1) - 2)) with hb6 | hb6
              · refine CE.cond_f rfl (bnot_t hb6) ?_
                refine CE.skip' ?_
                refine NE.code ?_
                refine CE.seq ?_
                refine CE.region ?_
                refine WL.det (op_loadA (i := 0) (cs := [vF ((rdL ((splW s 32).drop 1)).getD 0 0), vF ((rdL ((splW s 32).drop 1)).getD 1 0), vS e1_9_0 0 (((nW s 32) - 1) - 2) e1_9_1]) rfl Tryd.isAgg25 Tryd.sizeOf25 (r17.ext m26).rng rfl rfl rfl) rfl rfl rfl ?_
                refine WL.op0 (op_store (i := 0) (cs := [vF ((rdL ((splW s 32).drop 1)).getD 0 0), vF ((rdL ((splW s 32).drop 1)).getD 1 0), vS e1_9_0 0 (((nW s 32) - 1) - 2) e1_9_1]) rfl rfl rfl Tryd.sizeOf25 rfl (((((r1.ext m3).ext m4).ext m24).mod m25 (nC (lE (lL (lL r1.lt (lT m3.size m4.size)) ge8)) nN)).ext m26) rfl (lB rfl) rfl) rfl rfl ?_
                rintro _ w28 ⟨r18, m27, z9⟩
                have r19 : Row w28 w.heap.size 0 [vF ((rdL ((splW s 32).drop 1)).getD 0 0), vF ((rdL ((splW s 32).drop 1)).getD 1 0), vS e1_9_0 0 (((nW s 32) - 1) - 2) e1_9_1] := Row.congr r18 rfl
                refine WL.det (op_assign rfl) rfl rfl rfl ?_
                refine WL.end ?_
                refine NE.code ?_
                refine CE.ret' ?_
                refine XE.leaveT Tryd.results4 (res_agg (cs := [vF ((rdL ((splW s 32).drop 1)).getD 0 0), vF ((rdL ((splW s 32).drop 1)).getD 1 0), vS e1_9_0 0 (((nW s 32) - 1) - 2) e1_9_1]) rfl Tryd.isAgg25 Tryd.sizeOf25 r19.rng rfl (res_tmp rfl res_nil)) ?_
                refine ⟨?_, ((((((((Mod.refl [] w).nt m1).nt m3).nt m4).nt m24).then m25 ((aC (.inr (lT (lT (lT m1.size m3.size) m4.size) ge8)) aN))).nt m26).then m27 ((aC (.inr lR) aN)))⟩
                all_goals first | rfl | (exfalso; omega) | (exfalso; exact okS_f hv (by omega) (by assumption) (by assumption) (by omega) (by assumption)) | (exfalso; exact absurd (okS_of (by assumption) (by omega) (by assumption) (by assumption)) (by rw [hv]; decide))
              · refine CE.cond_t rfl (bnot_f hb6) ?_
                refine CE.seq ?_
                refine CE.region ?_
                refine WL.det (op_build (qs := []) (cells := #[vF 0, vF 0, .slice none 0 0]) rfl (by kernel_rfl)) rfl rfl rfl ?_
                refine WL.op0 (op_store (i := 0) (cs := [vF 0, vF 0, .slice none 0 0]) rfl rfl rfl Tryd.sizeOf25 rfl (((((r1.ext m3).ext m4).ext m24).mod m25 (nC (lE (lL (lL r1.lt (lT m3.size m4.size)) ge8)) nN)).ext m26) rfl (lB rfl) rfl) rfl rfl ?_
                rintro _ w29 ⟨r20, m28, z10⟩
                have r21 : Row w29 w.heap.size 0 [vF 0, vF 0, .slice none 0 0] := Row.congr r20 rfl
                refine WL.det (op_assign rfl) rfl rfl rfl ?_
                refine WL.end ?_
                refine NE.code ?_
                refine CE.ret' ?_
                refine XE.ret_then ?_
                refine XE.leaveT Tryd.results4 (res_agg (cs := [vF 0, vF 0, .slice none 0 0]) rfl Tryd.isAgg25 Tryd.sizeOf25 r21.rng rfl (res_tmp rfl res_nil)) ?_
                refine ⟨rfl, ((((((((Mod.refl [] w).nt m1).nt m3).nt m4).nt m24).then m25 ((aC (.inr (lT (lT (lT m1.size m3.size) m4.size) ge8)) aN))).nt m26).then m28 ((aC (.inr lR) aN)))⟩
        · refine WL.no rfl rfl rfl (ltb rfl) rfl (bnot_f hb4) rfl (ltb rfl) ?_
          refine WL.no rfl rfl rfl (ltb rfl) rfl (bnot_f hb4) rfl (ltb rfl) ?_
          refine WL.det (op_pick_t rfl (bnot_f hb4) rfl) rfl rfl rfl ?_
          refine WL.det (op_move rfl) rfl rfl rfl ?_
          refine WL.no rfl rfl rfl (ltb rfl) rfl rfl rfl (ltb rfl) ?_
          refine WL.no rfl rfl rfl (ltb rfl) rfl rfl rfl (ltb rfl) ?_
          refine WL.no rfl rfl rfl (ltb rfl) rfl rfl rfl (ltb rfl) ?_
          refine WL.det (op_pick_t rfl rfl rfl) rfl rfl rfl ?_
          refine WL.end ?_
          refine NE.code ?_
          refine CE.cond_t rfl rfl ?_
          refine CE.seq ?_
          refine CE.region ?_
          refine WL.det (op_build (qs := []) (cells := #[vF 0, vF 0, .slice none 0 0]) rfl (by kernel_rfl)) rfl rfl rfl ?_
          refine WL.op0 (op_store (i := 0) (cs := [vF 0, vF 0, .slice none 0 0]) rfl rfl rfl Tryd.sizeOf25 rfl ((r1.ext m3).ext m4) rfl (lB rfl) rfl) rfl rfl ?_
          rintro _ w30 ⟨r22, m29, z11⟩
          have r23 : Row w30 w.heap.size 0 [vF 0, vF 0, .slice none 0 0] := Row.congr r22 rfl
          refine WL.det (op_assign rfl) rfl rfl rfl ?_
          refine WL.end ?_
          refine NE.code ?_
          refine CE.ret' ?_
          refine XE.ret_then ?_
          refine XE.leaveT Tryd.results4 (res_agg (cs := [vF 0, vF 0, .slice none 0 0]) rfl Tryd.isAgg25 Tryd.sizeOf25 r23.rng rfl (res_tmp rfl res_nil)) ?_
          refine ⟨rfl, (((((Mod.refl [] w).nt m1).nt m3).nt m4).then m29 ((aC (.inr lR) aN)))⟩
      · have hp3 := of_decide_eq_false hb3
        refine WL.call (oc_call (vs := [.slice (slA b'1 0 c'1 1) ((nW s 32) - 1) (c'1 - 1)]) (cap := []) rfl rfl rfl Tryd.call10 (c_nums_few ((nW s 32) - 1) (c'1 - 1) (slA b'1 0 c'1 1) b'1 (0 + 1) ((splW s 32).drop 1) (drop_len rfl 1) (slA_eq (by omega)) (by first | assumption | omega) (by first | assumption | exact fun i => sz_drop (by assumption) i) (by assumption) (by first | assumption | omega) w3 r5.rng)) rfl rfl (ltb rfl) ?_
        rintro _ w31 ⟨c'3, A'1, rfl, m30⟩
        refine WL.det (op_move rfl) rfl rfl rfl ?_
        refine WL.det (op_extract rfl rfl) rfl rfl rfl ?_
        refine WL.det (op_extract rfl rfl) rfl rfl rfl ?_
        refine WL.det (op_assign rfl) rfl rfl rfl ?_
        refine WL.det (op_assign rfl) rfl rfl rfl ?_
        refine WL.end ?_
        refine NE.code ?_
        refine CE.seq ?_
        refine CE.seq ?_
        refine CE.region ?_
        refine WL.det (op_move rfl) rfl rfl rfl ?_
        refine WL.det (op_indexSl (off' := 0) rfl rfl rfl Tryd.runUnderlying31 Tryd.sizeOf9 (by omega) (by omega) rfl) rfl rfl rfl ?_
        refine WL.det (op_load1 (i := 0 * 1) rfl Tryd.isAgg9 (r4.ext m30).rng rfl (cat_get0 (f := StrR.cells) (m := 1) (i := 0) (d := StrR.d) (fun _ => rfl) (by have eL : List.length (splW s 32) = nW s 32 := rfl; omega) rfl)) rfl rfl rfl ?_
        refine WL.det (op_nes rfl rfl) rfl rfl rfl ?_
        refine WL.det (op_move rfl) rfl rfl rfl ?_
        rcases Bool.eq_false_or_eq_true (sEq (((splW s 32).getD 0 StrR.d).s) (⟨#[116, 117, 110, 105, 110, 103]⟩)) with hb7 | hb7
        · refine WL.yes rfl rfl rfl (ltb rfl) rfl (bnot_t hb7) ?_
          refine WL.det (op_move rfl) rfl rfl rfl ?_
          refine WL.yes rfl rfl rfl (ltb rfl) rfl (bnot_t hb7) ?_
          refine WL.det (op_not rfl) rfl rfl rfl ?_
          refine WL.det (op_pick_f rfl (bnot_t hb7) rfl) rfl rfl rfl ?_
          refine WL.det (op_move rfl) rfl rfl rfl ?_
          refine WL.yes rfl rfl rfl (ltb rfl) rfl rfl ?_
          refine WL.det (op_move rfl) rfl rfl rfl ?_
          refine WL.yes rfl rfl rfl (ltb rfl) rfl rfl ?_
          refine WL.det (op_len rfl Tryd.runUnderlying23) rfl rfl rfl ?_
          refine WL.yes rfl rfl rfl (ltb rfl) rfl rfl ?_
          refine WL.det (op_lti rfl rfl) rfl rfl rfl ?_
          refine WL.det (op_pick_f rfl rfl rfl) rfl rfl rfl ?_
          refine WL.end ?_
          refine NE.code ?_
          rcases Bool.eq_false_or_eq_true (decide ((((nW s 32) - 1 : Nat) : Int) < (3 : Int))) with hb8 | hb8
          · have hp8 := of_decide_eq_true hb8
            refine CE.cond_t rfl hb8 ?_
            refine CE.seq ?_
            refine CE.region ?_
            refine WL.det (op_build (qs := []) (cells := #[vF 0, vF 0, .slice none 0 0]) rfl (by kernel_rfl)) rfl rfl rfl ?_
            refine WL.op0 (op_store (i := 0) (cs := [vF 0, vF 0, .slice none 0 0]) rfl rfl rfl Tryd.sizeOf25 rfl ((r1.ext m3).ext m30) rfl (lB rfl) rfl) rfl rfl ?_
            rintro _ w32 ⟨r24, m31, z12⟩
            have r25 : Row w32 w.heap.size 0 [vF 0, vF 0, .slice none 0 0] := Row.congr r24 rfl
            refine WL.det (op_assign rfl) rfl rfl rfl ?_
            refine WL.end ?_
            refine NE.code ?_
            refine CE.ret' ?_
            refine XE.ret_then ?_
            refine XE.leaveT Tryd.results4 (res_agg (cs := [vF 0, vF 0, .slice none 0 0]) rfl Tryd.isAgg25 Tryd.sizeOf25 r25.rng rfl (res_tmp rfl res_nil)) ?_
            refine ⟨rfl, (((((Mod.refl [] w).nt m1).nt m3).nt m30).then m31 ((aC (.inr lR) aN)))⟩
          · have hp8 := of_decide_eq_false hb8
            exfalso; omega
        · refine WL.no rfl rfl rfl (ltb rfl) rfl (bnot_f hb7) rfl (ltb rfl) ?_
          refine WL.no rfl rfl rfl (ltb rfl) rfl (bnot_f hb7) rfl (ltb rfl) ?_
          refine WL.det (op_pick_t rfl (bnot_f hb7) rfl) rfl rfl rfl ?_
          refine WL.det (op_move rfl) rfl rfl rfl ?_
          refine WL.no rfl rfl rfl (ltb rfl) rfl rfl rfl (ltb rfl) ?_
          refine WL.no rfl rfl rfl (ltb rfl) rfl rfl rfl (ltb rfl) ?_
          refine WL.no rfl rfl rfl (ltb rfl) rfl rfl rfl (ltb rfl) ?_
          refine WL.det (op_pick_t rfl rfl rfl) rfl rfl rfl ?_
          refine WL.end ?_
          refine NE.code ?_
          refine CE.cond_t rfl rfl ?_
          refine CE.seq ?_
          refine CE.region ?_
          refine WL.det (op_build (qs := []) (cells := #[vF 0, vF 0, .slice none 0 0]) rfl (by kernel_rfl)) rfl rfl rfl ?_
          refine WL.op0 (op_store (i := 0) (cs := [vF 0, vF 0, .slice none 0 0]) rfl rfl rfl Tryd.sizeOf25 rfl ((r1.ext m3).ext m30) rfl (lB rfl) rfl) rfl rfl ?_
          rintro _ w33 ⟨r26, m32, z13⟩
          have r27 : Row w33 w.heap.size 0 [vF 0, vF 0, .slice none 0 0] := Row.congr r26 rfl
          refine WL.det (op_assign rfl) rfl rfl rfl ?_
          refine WL.end ?_
          refine NE.code ?_
          refine CE.ret' ?_
          refine XE.ret_then ?_
          refine XE.leaveT Tryd.results4 (res_agg (cs := [vF 0, vF 0, .slice none 0 0]) rfl Tryd.isAgg25 Tryd.sizeOf25 r27.rng rfl (res_tmp rfl res_nil)) ?_
          refine ⟨rfl, (((((Mod.refl [] w).nt m1).nt m3).nt m30).then m32 ((aC (.inr lR) aN)))⟩
    · refine WL.call (oc_call (vs := [.slice (slA b'1 0 c'1 1) ((nW s 32) - 1) (c'1 - 1)]) (cap := []) rfl rfl rfl Tryd.call10 (c_nums_no ((nW s 32) - 1) (c'1 - 1) (slA b'1 0 c'1 1) b'1 (0 + 1) ((splW s 32).drop 1) (drop_len rfl 1) (slA_eq (by omega)) (by first | assumption | omega) (by first | assumption | exact fun i => sz_drop (by assumption) i) (by assumption) w3 r5.rng)) rfl rfl (ltb rfl) ?_
      rintro _ w34 ⟨sv1, rfl, m33⟩
      refine WL.det (op_move rfl) rfl rfl rfl ?_
      refine WL.det (op_extract rfl rfl) rfl rfl rfl ?_
      refine WL.det (op_extract rfl rfl) rfl rfl rfl ?_
      refine WL.det (op_assign rfl) rfl rfl rfl ?_
      refine WL.det (op_assign rfl) rfl rfl rfl ?_
      refine WL.end ?_
      refine NE.code ?_
      refine CE.seq ?_
      refine CE.seq ?_
      refine CE.region ?_
      refine WL.det (op_move rfl) rfl rfl rfl ?_
      refine WL.det (op_indexSl (off' := 0) rfl rfl rfl Tryd.runUnderlying31 Tryd.sizeOf9 (by omega) (by omega) rfl) rfl rfl rfl ?_
      refine WL.det (op_load1 (i := 0 * 1) rfl Tryd.isAgg9 (r4.ext m33).rng rfl (cat_get0 (f := StrR.cells) (m := 1) (i := 0) (d := StrR.d) (fun _ => rfl) (by have eL : List.length (splW s 32) = nW s 32 := rfl; omega) rfl)) rfl rfl rfl ?_
      refine WL.det (op_nes rfl rfl) rfl rfl rfl ?_
      refine WL.det (op_move rfl) rfl rfl rfl ?_
      rcases Bool.eq_false_or_eq_true (sEq (((splW s 32).getD 0 StrR.d).s) (⟨#[116, 117, 110, 105, 110, 103]⟩)) with hb9 | hb9
      · refine WL.yes rfl rfl rfl (ltb rfl) rfl (bnot_t hb9) ?_
        refine WL.det (op_move rfl) rfl rfl rfl ?_
        refine WL.yes rfl rfl rfl (ltb rfl) rfl (bnot_t hb9) ?_
        refine WL.det (op_not rfl) rfl rfl rfl ?_
        refine WL.det (op_pick_f rfl (bnot_t hb9) rfl) rfl rfl rfl ?_
        refine WL.det (op_move rfl) rfl rfl rfl ?_
        refine WL.no rfl rfl rfl (ltb rfl) rfl rfl rfl (ltb rfl) ?_
        refine WL.no rfl rfl rfl (ltb rfl) rfl rfl rfl (ltb rfl) ?_
        refine WL.no rfl rfl rfl (ltb rfl) rfl rfl rfl (ltb rfl) ?_
        refine WL.det (op_pick_t rfl rfl rfl) rfl rfl rfl ?_
        refine WL.end ?_
        refine NE.code ?_
        refine CE.cond_t rfl rfl ?_
        refine CE.seq ?_
        refine CE.region ?_
        refine WL.det (op_build (qs := []) (cells := #[vF 0, vF 0, .slice none 0 0]) rfl (by kernel_rfl)) rfl rfl rfl ?_
        refine WL.op0 (op_store (i := 0) (cs := [vF 0, vF 0, .slice none 0 0]) rfl rfl rfl Tryd.sizeOf25 rfl ((r1.ext m3).ext m33) rfl (lB rfl) rfl) rfl rfl ?_
        rintro _ w35 ⟨r28, m34, z14⟩
        have r29 : Row w35 w.heap.size 0 [vF 0, vF 0, .slice none 0 0] := Row.congr r28 rfl
        refine WL.det (op_assign rfl) rfl rfl rfl ?_
        refine WL.end ?_
        refine NE.code ?_
        refine CE.ret' ?_
        refine XE.ret_then ?_
        refine XE.leaveT Tryd.results4 (res_agg (cs := [vF 0, vF 0, .slice none 0 0]) rfl Tryd.isAgg25 Tryd.sizeOf25 r29.rng rfl (res_tmp rfl res_nil)) ?_
        refine ⟨rfl, (((((Mod.refl [] w).nt m1).nt m3).nt m33).then m34 ((aC (.inr lR) aN)))⟩
      · refine WL.no rfl rfl rfl (ltb rfl) rfl (bnot_f hb9) rfl (ltb rfl) ?_
        refine WL.no rfl rfl rfl (ltb rfl) rfl (bnot_f hb9) rfl (ltb rfl) ?_
        refine WL.det (op_pick_t rfl (bnot_f hb9) rfl) rfl rfl rfl ?_
        refine WL.det (op_move rfl) rfl rfl rfl ?_
        refine WL.no rfl rfl rfl (ltb rfl) rfl rfl rfl (ltb rfl) ?_
        refine WL.no rfl rfl rfl (ltb rfl) rfl rfl rfl (ltb rfl) ?_
        refine WL.no rfl rfl rfl (ltb rfl) rfl rfl rfl (ltb rfl) ?_
        refine WL.det (op_pick_t rfl rfl rfl) rfl rfl rfl ?_
        refine WL.end ?_
        refine NE.code ?_
        refine CE.cond_t rfl rfl ?_
        refine CE.seq ?_
        refine CE.region ?_
        refine WL.det (op_build (qs := []) (cells := #[vF 0, vF 0, .slice none 0 0]) rfl (by kernel_rfl)) rfl rfl rfl ?_
        refine WL.op0 (op_store (i := 0) (cs := [vF 0, vF 0, .slice none 0 0]) rfl rfl rfl Tryd.sizeOf25 rfl ((r1.ext m3).ext m33) rfl (lB rfl) rfl) rfl rfl ?_
        rintro _ w36 ⟨r30, m35, z15⟩
        have r31 : Row w36 w.heap.size 0 [vF 0, vF 0, .slice none 0 0] := Row.congr r30 rfl
        refine WL.det (op_assign rfl) rfl rfl rfl ?_
        refine WL.end ?_
        refine NE.code ?_
        refine CE.ret' ?_
        refine XE.ret_then ?_
        refine XE.leaveT Tryd.results4 (res_agg (cs := [vF 0, vF 0, .slice none 0 0]) rfl Tryd.isAgg25 Tryd.sizeOf25 r31.rng rfl (res_tmp rfl res_nil)) ?_
        refine ⟨rfl, (((((Mod.refl [] w).nt m1).nt m3).nt m33).then m35 ((aC (.inr lR) aN)))⟩

set_option maxRecDepth 100000 in
set_option maxHeartbeats 2000000 in
theorem c_iRead_no (s : ByteArray) (hs : s.size ≤ 1048576) (hv : okS s = false) (w : World) (T2 : LibR w LC 0 []) (T : LibT w LB 0 []) : Cl Tryd.prog 5 #[.string s] w fun v w' => v = .tuple #[.agg #[vF 0, vF 0, .slice none 0 0], vI 5] ∧ Mod [] w w' := by
  have k6 := nW_pos s 32; have k7 := rdL_w ((splW s 32).drop 1); have k10 := W32.get k7 0; have k11 := W32.get k7 1; have k12 := nW_le s 32
  refine Cl.of Tryd.func5 Tryd.ntmps5 rfl rfl (ρ := [(0, .string s)]) rfl ?_
  refine CE.seq ?_
  refine CE.region ?_
  refine WL.op (op_alloc (cs := [vF 0, vF 0, .slice none 0 0]) Tryd.zeroValue25 rfl) rfl rfl (ltb rfl) ?_
  rintro _ w1 ⟨rfl, r1, m1, z1⟩
  refine WL.det (op_assign rfl) rfl rfl rfl ?_
  refine WL.end ?_
  refine NE.code ?_
  refine CE.seq ?_
  refine CE.region ?_
  refine WL.det (op_move rfl) rfl rfl rfl ?_
  refine WL.call (oc_call (vs := [.string s, .string (⟨#[32]⟩)]) (cap := []) rfl rfl rfl Tryd.call12 (c_Split s (by first | assumption | omega | exact hS _) w1 (T2.ext m1))) rfl rfl (ltb rfl) ?_
  rintro _ w2 ⟨b'1, rfl, h1, r2, ge1, m2⟩
  refine WL.det (op_assign rfl) rfl rfl rfl ?_
  refine WL.end ?_
  refine NE.code ?_
  refine CE.seq ?_
  refine CE.region ?_
  refine WL.det (op_move rfl) rfl rfl rfl ?_
  have r3 : Row w2 b'1 (0 + 1) (cat StrR.cells ((splW s 32).drop 1)) := Row.congr (Row.drop r2 1) (strs_drop _ _)
  refine WL.det (op_slLoX (i := 1) rfl rfl rfl Tryd.runUnderlying31 Tryd.sizeOf9 (by omega) (by omega)) rfl rfl rfl ?_
  rcases Bool.eq_false_or_eq_true (allO ((splW s 32).drop 1)) with hb1 | hb1
  · rcases Bool.eq_false_or_eq_true (decide ((3 : Int) ≤ ((((nW s 32) - 1) : Nat) : Int))) with hb2 | hb2
    · have hp2 := of_decide_eq_true hb2
      refine WL.call (oc_call (vs := [.slice (slA b'1 0 (nW s 32) 1) ((nW s 32) - 1) (nW s 32 - 1)]) (cap := []) rfl rfl rfl Tryd.call13 (c_smps_t ((nW s 32) - 1) (nW s 32 - 1) (slA b'1 0 (nW s 32) 1) b'1 (0 + 1) ((splW s 32).drop 1) (drop_len rfl 1) (slA_eq (by omega)) (by first | assumption | omega) (by first | assumption | exact fun i => sz_drop (by assumption) i) (by assumption) (by first | assumption | omega) w2 r3.rng ((T2.ext m1).ext m2) ((T.ext m1).ext m2))) rfl rfl (ltb rfl) ?_
      rintro _ w3 ⟨b'2, c'1, rfl, h2, r4, r5, ge2, m3⟩
      refine WL.det (op_move rfl) rfl rfl rfl ?_
      refine WL.det (op_extract rfl rfl) rfl rfl rfl ?_
      refine WL.det (op_extract rfl rfl) rfl rfl rfl ?_
      refine WL.det (op_assign rfl) rfl rfl rfl ?_
      refine WL.det (op_assign rfl) rfl rfl rfl ?_
      refine WL.end ?_
      refine NE.code ?_
      refine CE.seq ?_
      refine CE.seq ?_
      refine CE.region ?_
      refine WL.det (op_move rfl) rfl rfl rfl ?_
      refine WL.det (op_not rfl) rfl rfl rfl ?_
      refine WL.det (op_move rfl) rfl rfl rfl ?_
      refine WL.yes rfl rfl rfl (ltb rfl) rfl rfl ?_
      refine WL.det (op_move rfl) rfl rfl rfl ?_
      refine WL.yes rfl rfl rfl (ltb rfl) rfl rfl ?_
      refine WL.det (op_len rfl Tryd.runUnderlying23) rfl rfl rfl ?_
      refine WL.yes rfl rfl rfl (ltb rfl) rfl rfl ?_
      refine WL.det (op_lti rfl rfl) rfl rfl rfl ?_
      refine WL.det (op_pick_f rfl rfl rfl) rfl rfl rfl ?_
      refine WL.end ?_
      refine NE.code ?_
      rcases Bool.eq_false_or_eq_true (decide ((((nW s 32) - 1 : Nat) : Int) < (3 : Int))) with hb3 | hb3
      · have hp3 := of_decide_eq_true hb3
        exfalso; omega
      · have hp3 := of_decide_eq_false hb3
        refine CE.cond_f rfl hb3 ?_
        refine CE.skip' ?_
        refine NE.code ?_
        refine CE.seq ?_
        refine CE.draw (fun _ => none) [0, 1, 2, 3, 4, 5, 6, 7, 8, 9] [10] [] (by kernel_rfl) (by kernel_rfl) ?_
        have md1 : Mod [] w3 w3.drew := (Mod.refl _ _).drew
        generalize w3.drew = w4 at md1 ⊢
        refine DR.det (i := 0) rfl rfl (by kernel_rfl) (.free rfl) rfl rfl (fun wD mD => op_move rfl) ?_
        refine DR.det (i := 1) rfl rfl (by kernel_rfl) (.free rfl) rfl rfl (fun wD mD => op_indexSl (off' := 0) rfl rfl rfl Tryd.runUnderlying23 Tryd.sizeOf22 (by omega) (by omega) rfl) ?_
        refine DR.det (i := 2) rfl rfl (by kernel_rfl) (.free rfl) rfl rfl (fun wD mD => op_load1 (i := 0) rfl Tryd.isAgg22 ((r4.ext md1).ext mD).rng rfl (fl_get (by have eL : List.length (rdL ((splW s 32).drop 1)) = (nW s 32) - 1 := (rdL_len (drop_len rfl 1)); omega))) ?_
        refine DR.det (i := 3) rfl rfl (by kernel_rfl) (.free rfl) rfl rfl (fun wD mD => op_move rfl) ?_
        refine DR.det (i := 4) rfl rfl (by kernel_rfl) (.free rfl) rfl rfl (fun wD mD => op_indexSl (off' := 1) rfl rfl rfl Tryd.runUnderlying23 Tryd.sizeOf22 (by omega) (by omega) rfl) ?_
        refine DR.det (i := 5) rfl rfl (by kernel_rfl) (.free rfl) rfl rfl (fun wD mD => op_load1 (i := 1) rfl Tryd.isAgg22 ((r4.ext md1).ext mD).rng rfl (fl_get (by have eL : List.length (rdL ((splW s 32).drop 1)) = (nW s 32) - 1 := (rdL_len (drop_len rfl 1)); omega))) ?_
        refine DR.det (i := 6) rfl rfl (by kernel_rfl) (.free rfl) rfl rfl (fun wD mD => op_move rfl) ?_
        refine DR.det (i := 7) rfl rfl (by kernel_rfl) (.free rfl) rfl rfl (fun wD mD => op_slLo (i := 2) rfl rfl rfl Tryd.runUnderlying23 Tryd.sizeOf22 (by omega) (by omega)) ?_
        refine DR.det (i := 8) rfl rfl (by kernel_rfl) (.free rfl) rfl rfl (fun wD mD => op_build (qs := [(0, vF ((rdL ((splW s 32).drop 1)).getD 0 0)), (1, vF ((rdL ((splW s 32).drop 1)).getD 1 0)), (2, vS b'2 (0 + 2) (((nW s 32) - 1) - 2) (c'1 - 2))]) (cells := #[vF ((rdL ((splW s 32).drop 1)).getD 0 0), vF ((rdL ((splW s 32).drop 1)).getD 1 0), vS b'2 (0 + 2) (((nW s 32) - 1) - 2) (c'1 - 2)]) rfl (by kernel_rfl)) ?_
        refine DR.one1 (i := 9) rfl rfl (by kernel_rfl) (.free rfl) rfl (ltb rfl) ?_
        intro w5 m4
        refine Op1.mono (op_alloc (cs := [vF 0, vF 0, .slice none 0 0]) Tryd.zeroValue25 rfl) ?_
        rintro _ w6 ⟨rfl, r6, m5, z2⟩
        refine ⟨(((Mod.refl [] w4).nt m4).nt m5), ?_⟩
        refine DR.done rfl ?_
        intro w7 m6
        refine WO.op0 rfl (.free rfl) rfl (op_store (i := 0) (cs := [vF ((rdL ((splW s 32).drop 1)).getD 0 0), vF ((rdL ((splW s 32).drop 1)).getD 1 0), vS b'2 (0 + 2) (((nW s 32) - 1) - 2) (c'1 - 2)]) rfl rfl rfl Tryd.sizeOf25 rfl (r6.ext m6) rfl (lB rfl) rfl) ?_
        rintro _ w8 ⟨r7, m7, z3⟩
        have r8 : Row w8 w5.heap.size 0 [vF ((rdL ((splW s 32).drop 1)).getD 0 0), vF ((rdL ((splW s 32).drop 1)).getD 1 0), vS b'2 (0 + 2) (((nW s 32) - 1) - 2) (c'1 - 2)] := Row.congr r7 rfl
        refine WO.end ?_
        refine NE.code ?_
        refine CE.seq ?_
        refine CE.seq ?_
        refine CE.region ?_
        refine WL.det (op_loadA (i := 0) (cs := [vF ((rdL ((splW s 32).drop 1)).getD 0 0), vF ((rdL ((splW s 32).drop 1)).getD 1 0), vS b'2 (0 + 2) (((nW s 32) - 1) - 2) (c'1 - 2)]) rfl Tryd.isAgg25 Tryd.sizeOf25 r8.rng rfl rfl rfl) rfl rfl rfl ?_
        rcases Bool.eq_false_or_eq_true (tunF ((rdL ((splW s 32).drop 1)).getD 0 0) ((rdL ((splW s 32).drop 1)).getD 1 0) ((rdL ((splW s 32).drop 1)).drop 2) (((nW s 32) - 1) - 2)) with hb4 | hb4
        · refine WL.call (oc_call (vs := [.agg #[vF ((rdL ((splW s 32).drop 1)).getD 0 0), vF ((rdL ((splW s 32).drop 1)).getD 1 0), vS b'2 (0 + 2) (((nW s 32) - 1) - 2) (c'1 - 2)]]) (cap := []) rfl rfl rfl Tryd.call14 (c_iTunText ((rdL ((splW s 32).drop 1)).getD 0 0) ((rdL ((splW s 32).drop 1)).getD 1 0) (((nW s 32) - 1) - 2) (c'1 - 2) b'2 (0 + 2) ((rdL ((splW s 32).drop 1)).drop 2) (drop_len (rdL_len (drop_len rfl 1)) 2) (by omega) (by assumption) (by assumption) (w32_drop (rdL_w ((splW s 32).drop 1)) 2) (by assumption) w8 (((((r5.ext md1).ext m4).ext m5).ext m6).mod m7 (nC (lE (lL (lL r4.lt (lT md1.size m4.size)) lR)) nN)).rng (LibT.youngS T (((((((T.ext m1).ext m2).ext m3).ext md1).ext m4).ext m5).ext m6) m7 (allge_cons (lT (lT (lT (lT (lT m1.size m2.size) m3.size) md1.size) m4.size) lR) allge_nil)))) rfl rfl (ltb rfl) ?_
          rintro _ w9 ⟨rfl, m8⟩
          refine WL.det (op_move rfl) rfl rfl rfl ?_
          refine WL.det (op_nes rfl rfl) rfl rfl rfl ?_
          refine WL.end ?_
          refine NE.code ?_
          rcases Bool.eq_false_or_eq_true (sEq (mkS (tunT ((rdL ((splW s 32).drop 1)).getD 0 0) ((rdL ((splW s 32).drop 1)).getD 1 0) ((rdL ((splW s 32).drop 1)).drop 2))) s) with hb5 | hb5
          · refine CE.cond_f rfl (bnot_t hb5) ?_
            refine CE.skip' ?_
            refine NE.code ?_
            refine CE.seq ?_
            refine CE.region ?_
            refine WL.det (op_loadA (i := 0) (cs := [vF ((rdL ((splW s 32).drop 1)).getD 0 0), vF ((rdL ((splW s 32).drop 1)).getD 1 0), vS b'2 (0 + 2) (((nW s 32) - 1) - 2) (c'1 - 2)]) rfl Tryd.isAgg25 Tryd.sizeOf25 (r8.ext m8).rng rfl rfl rfl) rfl rfl rfl ?_
            refine WL.op0 (op_store (i := 0) (cs := [vF ((rdL ((splW s 32).drop 1)).getD 0 0), vF ((rdL ((splW s 32).drop 1)).getD 1 0), vS b'2 (0 + 2) (((nW s 32) - 1) - 2) (c'1 - 2)]) rfl rfl rfl Tryd.sizeOf25 rfl ((((((((r1.ext m2).ext m3).ext md1).ext m4).ext m5).ext m6).mod m7 (nC (lE (lL (lL r1.lt (lT (lT (lT m2.size m3.size) md1.size) m4.size)) lR)) nN)).ext m8) rfl (lB rfl) rfl) rfl rfl ?_
            rintro _ w10 ⟨r9, m9, z4⟩
            have r10 : Row w10 w.heap.size 0 [vF ((rdL ((splW s 32).drop 1)).getD 0 0), vF ((rdL ((splW s 32).drop 1)).getD 1 0), vS b'2 (0 + 2) (((nW s 32) - 1) - 2) (c'1 - 2)] := Row.congr r9 rfl
            refine WL.det (op_assign rfl) rfl rfl rfl ?_
            refine WL.end ?_
            refine NE.code ?_
            refine CE.ret' ?_
            refine XE.leaveT Tryd.results5 (res_agg (cs := [vF ((rdL ((splW s 32).drop 1)).getD 0 0), vF ((rdL ((splW s 32).drop 1)).getD 1 0), vS b'2 (0 + 2) (((nW s 32) - 1) - 2) (c'1 - 2)]) rfl Tryd.isAgg25 Tryd.sizeOf25 r10.rng rfl (res_tmp rfl res_nil)) ?_
            refine ⟨?_, (((((((((((Mod.refl [] w).nt m1).nt m2).nt m3).nt md1).nt m4).nt m5).nt m6).then m7 ((aC (.inr (lT (lT (lT (lT (lT m1.size m2.size) m3.size) md1.size) m4.size) lR)) aN))).nt m8).then m9 ((aC (.inr lR) aN)))⟩
            all_goals first | rfl | (exfalso; omega) | (exfalso; exact okS_f hv (by omega) (by assumption) (by assumption) (by omega) (by assumption)) | (exfalso; exact absurd (okS_of (by assumption) (by omega) (by assumption) (by assumption)) (by rw [hv]; decide))
          · refine CE.cond_t rfl (bnot_f hb5) ?_
            refine CE.seq ?_
            refine CE.region ?_
            refine WL.det (op_build (qs := []) (cells := #[vF 0, vF 0, .slice none 0 0]) rfl (by kernel_rfl)) rfl rfl rfl ?_
            refine WL.op0 (op_store (i := 0) (cs := [vF 0, vF 0, .slice none 0 0]) rfl rfl rfl Tryd.sizeOf25 rfl ((((((((r1.ext m2).ext m3).ext md1).ext m4).ext m5).ext m6).mod m7 (nC (lE (lL (lL r1.lt (lT (lT (lT m2.size m3.size) md1.size) m4.size)) lR)) nN)).ext m8) rfl (lB rfl) rfl) rfl rfl ?_
            rintro _ w11 ⟨r11, m10, z5⟩
            have r12 : Row w11 w.heap.size 0 [vF 0, vF 0, .slice none 0 0] := Row.congr r11 rfl
            refine WL.det (op_assign rfl) rfl rfl rfl ?_
            refine WL.end ?_
            refine NE.code ?_
            refine CE.ret' ?_
            refine XE.ret_then ?_
            refine XE.leaveT Tryd.results5 (res_agg (cs := [vF 0, vF 0, .slice none 0 0]) rfl Tryd.isAgg25 Tryd.sizeOf25 r12.rng rfl (res_tmp rfl res_nil)) ?_
            refine ⟨rfl, (((((((((((Mod.refl [] w).nt m1).nt m2).nt m3).nt md1).nt m4).nt m5).nt m6).then m7 ((aC (.inr (lT (lT (lT (lT (lT m1.size m2.size) m3.size) md1.size) m4.size) lR)) aN))).nt m8).then m10 ((aC (.inr lR) aN)))⟩
        · refine WL.call (oc_call (vs := [.agg #[vF ((rdL ((splW s 32).drop 1)).getD 0 0), vF ((rdL ((splW s 32).drop 1)).getD 1 0), vS b'2 (0 + 2) (((nW s 32) - 1) - 2) (c'1 - 2)]]) (cap := []) rfl rfl rfl Tryd.call14 (c_iTunText_bad ((rdL ((splW s 32).drop 1)).getD 0 0) ((rdL ((splW s 32).drop 1)).getD 1 0) (((nW s 32) - 1) - 2) (c'1 - 2) b'2 (0 + 2) ((rdL ((splW s 32).drop 1)).drop 2) (drop_len (rdL_len (drop_len rfl 1)) 2) (by omega) (by assumption) (by assumption) (w32_drop (rdL_w ((splW s 32).drop 1)) 2) (by assumption) w8 (((((r5.ext md1).ext m4).ext m5).ext m6).mod m7 (nC (lE (lL (lL r4.lt (lT md1.size m4.size)) lR)) nN)).rng (LibT.youngS T (((((((T.ext m1).ext m2).ext m3).ext md1).ext m4).ext m5).ext m6) m7 (allge_cons (lT (lT (lT (lT (lT m1.size m2.size) m3.size) md1.size) m4.size) lR) allge_nil)))) rfl rfl (ltb rfl) ?_
          rintro _ w12 ⟨rfl, m11⟩
          refine WL.det (op_move rfl) rfl rfl rfl ?_
          refine WL.det (op_nes rfl rfl) rfl rfl rfl ?_
          refine WL.end ?_
          refine NE.code ?_
          refine CE.cond_t rfl (bnot_f (okS_ne (by omega))) ?_
          refine CE.seq ?_
          refine CE.region ?_
          refine WL.det (op_build (qs := []) (cells := #[vF 0, vF 0, .slice none 0 0]) rfl (by kernel_rfl)) rfl rfl rfl ?_
          refine WL.op0 (op_store (i := 0) (cs := [vF 0, vF 0, .slice none 0 0]) rfl rfl rfl Tryd.sizeOf25 rfl ((((((((r1.ext m2).ext m3).ext md1).ext m4).ext m5).ext m6).mod m7 (nC (lE (lL (lL r1.lt (lT (lT (lT m2.size m3.size) md1.size) m4.size)) lR)) nN)).ext m11) rfl (lB rfl) rfl) rfl rfl ?_
          rintro _ w13 ⟨r13, m12, z6⟩
          have r14 : Row w13 w.heap.size 0 [vF 0, vF 0, .slice none 0 0] := Row.congr r13 rfl
          refine WL.det (op_assign rfl) rfl rfl rfl ?_
          refine WL.end ?_
          refine NE.code ?_
          refine CE.ret' ?_
          refine XE.ret_then ?_
          refine XE.leaveT Tryd.results5 (res_agg (cs := [vF 0, vF 0, .slice none 0 0]) rfl Tryd.isAgg25 Tryd.sizeOf25 r14.rng rfl (res_tmp rfl res_nil)) ?_
          refine ⟨rfl, (((((((((((Mod.refl [] w).nt m1).nt m2).nt m3).nt md1).nt m4).nt m5).nt m6).then m7 ((aC (.inr (lT (lT (lT (lT (lT m1.size m2.size) m3.size) md1.size) m4.size) lR)) aN))).nt m11).then m12 ((aC (.inr lR) aN)))⟩
    · have hp2 := of_decide_eq_false hb2
      refine WL.call (oc_call (vs := [.slice (slA b'1 0 (nW s 32) 1) ((nW s 32) - 1) (nW s 32 - 1)]) (cap := []) rfl rfl rfl Tryd.call13 (c_smps_few ((nW s 32) - 1) (nW s 32 - 1) (slA b'1 0 (nW s 32) 1) b'1 (0 + 1) ((splW s 32).drop 1) (drop_len rfl 1) (slA_eq (by omega)) (by first | assumption | omega) (by first | assumption | exact fun i => sz_drop (by assumption) i) (by assumption) (by first | assumption | omega) w2 r3.rng ((T2.ext m1).ext m2) ((T.ext m1).ext m2))) rfl rfl (ltb rfl) ?_
      rintro _ w14 ⟨c'2, A'1, rfl, m13⟩
      refine WL.det (op_move rfl) rfl rfl rfl ?_
      refine WL.det (op_extract rfl rfl) rfl rfl rfl ?_
      refine WL.det (op_extract rfl rfl) rfl rfl rfl ?_
      refine WL.det (op_assign rfl) rfl rfl rfl ?_
      refine WL.det (op_assign rfl) rfl rfl rfl ?_
      refine WL.end ?_
      refine NE.code ?_
      refine CE.seq ?_
      refine CE.seq ?_
      refine CE.region ?_
      refine WL.det (op_move rfl) rfl rfl rfl ?_
      refine WL.det (op_not rfl) rfl rfl rfl ?_
      refine WL.det (op_move rfl) rfl rfl rfl ?_
      refine WL.yes rfl rfl rfl (ltb rfl) rfl rfl ?_
      refine WL.det (op_move rfl) rfl rfl rfl ?_
      refine WL.yes rfl rfl rfl (ltb rfl) rfl rfl ?_
      refine WL.det (op_len rfl Tryd.runUnderlying23) rfl rfl rfl ?_
      refine WL.yes rfl rfl rfl (ltb rfl) rfl rfl ?_
      refine WL.det (op_lti rfl rfl) rfl rfl rfl ?_
      refine WL.det (op_pick_f rfl rfl rfl) rfl rfl rfl ?_
      refine WL.end ?_
      refine NE.code ?_
      rcases Bool.eq_false_or_eq_true (decide ((((nW s 32) - 1 : Nat) : Int) < (3 : Int))) with hb6 | hb6
      · have hp6 := of_decide_eq_true hb6
        refine CE.cond_t rfl hb6 ?_
        refine CE.seq ?_
        refine CE.region ?_
        refine WL.det (op_build (qs := []) (cells := #[vF 0, vF 0, .slice none 0 0]) rfl (by kernel_rfl)) rfl rfl rfl ?_
        refine WL.op0 (op_store (i := 0) (cs := [vF 0, vF 0, .slice none 0 0]) rfl rfl rfl Tryd.sizeOf25 rfl ((r1.ext m2).ext m13) rfl (lB rfl) rfl) rfl rfl ?_
        rintro _ w15 ⟨r15, m14, z7⟩
        have r16 : Row w15 w.heap.size 0 [vF 0, vF 0, .slice none 0 0] := Row.congr r15 rfl
        refine WL.det (op_assign rfl) rfl rfl rfl ?_
        refine WL.end ?_
        refine NE.code ?_
        refine CE.ret' ?_
        refine XE.ret_then ?_
        refine XE.leaveT Tryd.results5 (res_agg (cs := [vF 0, vF 0, .slice none 0 0]) rfl Tryd.isAgg25 Tryd.sizeOf25 r16.rng rfl (res_tmp rfl res_nil)) ?_
        refine ⟨rfl, (((((Mod.refl [] w).nt m1).nt m2).nt m13).then m14 ((aC (.inr lR) aN)))⟩
      · have hp6 := of_decide_eq_false hb6
        exfalso; omega
  · refine WL.call (oc_call (vs := [.slice (slA b'1 0 (nW s 32) 1) ((nW s 32) - 1) (nW s 32 - 1)]) (cap := []) rfl rfl rfl Tryd.call13 (c_smps_no ((nW s 32) - 1) (nW s 32 - 1) (slA b'1 0 (nW s 32) 1) b'1 (0 + 1) ((splW s 32).drop 1) (drop_len rfl 1) (slA_eq (by omega)) (by first | assumption | omega) (by first | assumption | exact fun i => sz_drop (by assumption) i) (by assumption) w2 r3.rng ((T2.ext m1).ext m2) ((T.ext m1).ext m2))) rfl rfl (ltb rfl) ?_
    rintro _ w16 ⟨sv1, rfl, m15⟩
    refine WL.det (op_move rfl) rfl rfl rfl ?_
    refine WL.det (op_extract rfl rfl) rfl rfl rfl ?_
    refine WL.det (op_extract rfl rfl) rfl rfl rfl ?_
    refine WL.det (op_assign rfl) rfl rfl rfl ?_
    refine WL.det (op_assign rfl) rfl rfl rfl ?_
    refine WL.end ?_
    refine NE.code ?_
    refine CE.seq ?_
    refine CE.seq ?_
    refine CE.region ?_
    refine WL.det (op_move rfl) rfl rfl rfl ?_
    refine WL.det (op_not rfl) rfl rfl rfl ?_
    refine WL.det (op_move rfl) rfl rfl rfl ?_
    refine WL.no rfl rfl rfl (ltb rfl) rfl rfl rfl (ltb rfl) ?_
    refine WL.no rfl rfl rfl (ltb rfl) rfl rfl rfl (ltb rfl) ?_
    refine WL.no rfl rfl rfl (ltb rfl) rfl rfl rfl (ltb rfl) ?_
    refine WL.det (op_pick_t rfl rfl rfl) rfl rfl rfl ?_
    refine WL.end ?_
    refine NE.code ?_
    refine CE.cond_t rfl rfl ?_
    refine CE.seq ?_
    refine CE.region ?_
    refine WL.det (op_build (qs := []) (cells := #[vF 0, vF 0, .slice none 0 0]) rfl (by kernel_rfl)) rfl rfl rfl ?_
    refine WL.op0 (op_store (i := 0) (cs := [vF 0, vF 0, .slice none 0 0]) rfl rfl rfl Tryd.sizeOf25 rfl ((r1.ext m2).ext m15) rfl (lB rfl) rfl) rfl rfl ?_
    rintro _ w17 ⟨r17, m16, z8⟩
    have r18 : Row w17 w.heap.size 0 [vF 0, vF 0, .slice none 0 0] := Row.congr r17 rfl
    refine WL.det (op_assign rfl) rfl rfl rfl ?_
    refine WL.end ?_
    refine NE.code ?_
    refine CE.ret' ?_
    refine XE.ret_then ?_
    refine XE.leaveT Tryd.results5 (res_agg (cs := [vF 0, vF 0, .slice none 0 0]) rfl Tryd.isAgg25 Tryd.sizeOf25 r18.rng rfl (res_tmp rfl res_nil)) ?_
    refine ⟨rfl, (((((Mod.refl [] w).nt m1).nt m2).nt m15).then m16 ((aC (.inr lR) aN)))⟩

set_option maxRecDepth 100000 in
set_option maxHeartbeats 2000000 in
theorem c_markTunU (ba : Nat) (oc : Nat) (n : Nat) (c : Nat) (b : Nat) (o : Nat) (ds : List Nat) (k : Nat) (ln : ds.length = n) (hn : n ≤ 1048576) (hk : k ≤ 1048576) (w : World) (r : Row w b o (fl ds)) : Cl Tryd.prog 7 #[.agg #[vF ba, vF oc, vS b o n c], vI ((k : Nat) : Int)] w fun v w' => v = vI (((k + n) : Nat) : Int) ∧ Row w' b o (fl (marks ds k n)) ∧ Mod [b] w w' := by
  refine Cl.of Tryd.func7 Tryd.ntmps7 rfl rfl (ρ := [(0, .agg #[vF ba, vF oc, vS b o n c]), (1, vI ((k : Nat) : Int))]) rfl ?_
  refine CE.seq ?_
  refine CE.region ?_
  refine WL.op (op_box (cs := [vF ba, vF oc, vS b o n c]) rfl rfl) rfl rfl (ltb rfl) ?_
  rintro _ w1 ⟨rfl, r1, m1, z1⟩
  refine WL.det (op_assign rfl) rfl rfl rfl ?_
  refine WL.end ?_
  refine NE.code ?_
  refine CE.seq ?_
  refine CE.region ?_
  refine WL.det (op_fieldAddr (off' := 2) rfl Tryd.runUnderlying25 rfl rfl Tryd.sizeOf23 rfl) rfl rfl rfl ?_
  refine WL.det (op_load1 (i := 2) rfl Tryd.isAgg23 r1.rng rfl rfl) rfl rfl rfl ?_
  refine WL.det (op_move rfl) rfl rfl rfl ?_
  refine WL.call (oc_call (vs := [vS b o n c, vI ((k : Nat) : Int)]) (cap := []) rfl rfl rfl Tryd.call17 (c_mark32 n c (some ⟨b, o, none⟩) b o ds k ln (fun _ => rfl) (by first | assumption | omega) (by first | assumption | omega) w1 (r.ext m1))) rfl rfl (ltb rfl) ?_
  rintro _ w2 ⟨rfl, r2, m2⟩
  refine WL.det (op_assign rfl) rfl rfl rfl ?_
  refine WL.end ?_
  refine NE.code ?_
  refine CE.seq ?_
  refine CE.region ?_
  refine WL.det (op_move rfl) rfl rfl rfl ?_
  refine WL.det (op_assign rfl) rfl rfl rfl ?_
  refine WL.end ?_
  refine NE.code ?_
  refine CE.ret' ?_
  refine XE.leave1 Tryd.results7 rfl ?_
  refine ⟨?_, r2, (((Mod.refl [b] w).nt m1).then m2 ((aC (.inl (by simp)) aN)))⟩
  all_goals rfl

set_option maxRecDepth 100000 in
set_option maxHeartbeats 2000000 in
theorem c_heldTunU (ba : Nat) (oc : Nat) (n : Nat) (c : Nat) (b : Nat) (o : Nat) (ds : List Nat) (k : Nat) (ln : ds.length = n) (hn : n ≤ 1048576) (hk : k ≤ 1048576) (hh : Held ds k n) (w : World) (r : Rng w b o (fl ds)) : Cl Tryd.prog 8 #[.agg #[vF ba, vF oc, vS b o n c], vI ((k : Nat) : Int)] w fun v w' => v = vI (((k + n) : Nat) : Int) ∧ Mod [] w w' := by
  refine Cl.of Tryd.func8 Tryd.ntmps8 rfl rfl (ρ := [(0, .agg #[vF ba, vF oc, vS b o n c]), (1, vI ((k : Nat) : Int))]) rfl ?_
  refine CE.seq ?_
  refine CE.region ?_
  refine WL.op (op_box (cs := [vF ba, vF oc, vS b o n c]) rfl rfl) rfl rfl (ltb rfl) ?_
  rintro _ w1 ⟨rfl, r1, m1, z1⟩
  refine WL.det (op_assign rfl) rfl rfl rfl ?_
  refine WL.end ?_
  refine NE.code ?_
  refine CE.seq ?_
  refine CE.region ?_
  refine WL.det (op_fieldAddr (off' := 2) rfl Tryd.runUnderlying25 rfl rfl Tryd.sizeOf23 rfl) rfl rfl rfl ?_
  refine WL.det (op_load1 (i := 2) rfl Tryd.isAgg23 r1.rng rfl rfl) rfl rfl rfl ?_
  refine WL.det (op_move rfl) rfl rfl rfl ?_
  refine WL.call (oc_call (vs := [vS b o n c, vI ((k : Nat) : Int)]) (cap := []) rfl rfl rfl Tryd.call18 (c_held32 n c (some ⟨b, o, none⟩) b o ds k ln (fun _ => rfl) (by first | assumption | omega) (by first | assumption | omega) (by first | assumption | exact marks_held _ _ _ | exact (hh _ (by omega)).1 | (rw [sumK_marks lZR lZL]; exact marks_held _ _ _)) w1 (r.ext m1))) rfl rfl (ltb rfl) ?_
  rintro _ w2 ⟨rfl, m2⟩
  refine WL.det (op_assign rfl) rfl rfl rfl ?_
  refine WL.end ?_
  refine NE.code ?_
  refine CE.seq ?_
  refine CE.seq ?_
  refine CE.region ?_
  refine WL.det (op_move rfl) rfl rfl rfl ?_
  refine WL.det (op_lti_f rfl rfl (by omega)) rfl rfl rfl ?_
  refine WL.end ?_
  refine NE.code ?_
  refine CE.cond_f rfl rfl ?_
  refine CE.skip' ?_
  refine NE.code ?_
  refine CE.seq ?_
  refine CE.region ?_
  refine WL.det (op_move rfl) rfl rfl rfl ?_
  refine WL.det (op_assign rfl) rfl rfl rfl ?_
  refine WL.end ?_
  refine NE.code ?_
  refine CE.ret' ?_
  refine XE.leave1 Tryd.results8 rfl ?_
  refine ⟨?_, (((Mod.refl [] w).nt m1).nt m2)⟩
  all_goals rfl

end Go.Proofs.YtpjjnopjpgnlaaaDoor
