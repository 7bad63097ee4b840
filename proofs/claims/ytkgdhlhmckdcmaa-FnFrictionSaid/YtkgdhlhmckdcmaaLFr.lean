/- The law on friction, walked. -/
import Derived.Test.YtkgdhlhmckdcmaaD4F
import Derived.Test.YtkgdhlhmckdcmaaD5F
import Derived.Test.YtkgdhlhmckdcmaaE8
import Derived.Test.YtkgdhlhmckdcmaaE20
set_option linter.unusedVariables false
set_option linter.unusedSimpArgs false
namespace Go.Proofs.Ytkgdhlhmckdcmaa

set_option maxRecDepth 100000 in
set_option maxHeartbeats 8000000 in
theorem law_fric_b1 (nu : Nat) (cu : Nat) (Au : Option Addr) (bu : Nat) (ou : Nat) (xsu : List Nat) (nv : Nat) (cv : Nat) (Av : Option Addr) (bv : Nat) (ov : Nat) (xsv : List Nat) (lnu : xsu.length = nu) (hAu : 0 < nu → Au = some ⟨bu, ou, none⟩) (hBu : ∀ i, xsu.getD i 0 < 256) (lnv : xsv.length = nv) (hAv : 0 < nv → Av = some ⟨bv, ov, none⟩) (hBv : ∀ i, xsv.getD i 0 < 256) (hnu : 4096 < nu) (w : World) (ru : Rng w bu ou (bys xsu)) (rv : Rng w bv ov (bys xsv)) : Cl Try.prog 5 #[.slice Au nu cu, .slice Av nv cv] w fun v w' => v = .bool true ∧ Mod [] w w' := by
  refine Cl.of Try.func5 Try.ntmps5 rfl rfl (ρ := [(0, .slice Au nu cu), (1, .slice Av nv cv)]) rfl ?_
  refine CE.seq ?_
  refine CE.region ?_
  refine WL.det (op_assign rfl) rfl rfl rfl ?_
  refine WL.end ?_
  refine NE.code ?_
  refine CE.seq ?_
  refine CE.seq ?_
  refine CE.region ?_
  refine WL.det (op_move rfl) rfl rfl rfl ?_
  refine WL.call (oc_call (vs := [.slice Au nu cu]) (cap := []) rfl rfl rfl Try.call21 (c_f6big nu cu Au w)) rfl rfl (ltb rfl) ?_
  rintro _ _ ⟨rfl, rfl⟩
  refine WL.det (op_move rfl) rfl rfl rfl ?_
  refine WL.no rfl rfl rfl (ltb rfl) rfl (decide_eq_true (by omega)) rfl (ltb rfl) ?_
  refine WL.no rfl rfl rfl (ltb rfl) rfl (decide_eq_true (by omega)) rfl (ltb rfl) ?_
  refine WL.det (op_pick_t rfl (decide_eq_true (by omega)) rfl) rfl rfl rfl ?_
  refine WL.end ?_
  refine NE.code ?_
  refine CE.cond_t rfl rfl ?_
  refine CE.seq ?_
  refine CE.region ?_
  refine WL.det (op_assign rfl) rfl rfl rfl ?_
  refine WL.end ?_
  refine NE.code ?_
  refine CE.ret' ?_
  refine XE.ret_then ?_
  refine XE.leave1 Try.results5 rfl ?_
  refine ⟨rfl, (Mod.refl [] w)⟩

set_option maxRecDepth 100000 in
set_option maxHeartbeats 8000000 in
theorem law_fric_b2 (nu : Nat) (cu : Nat) (Au : Option Addr) (bu : Nat) (ou : Nat) (xsu : List Nat) (nv : Nat) (cv : Nat) (Av : Option Addr) (bv : Nat) (ov : Nat) (xsv : List Nat) (lnu : xsu.length = nu) (hAu : 0 < nu → Au = some ⟨bu, ou, none⟩) (hBu : ∀ i, xsu.getD i 0 < 256) (lnv : xsv.length = nv) (hAv : 0 < nv → Av = some ⟨bv, ov, none⟩) (hBv : ∀ i, xsv.getD i 0 < 256) (hnu : nu ≤ 4096) (hnv : 4096 < nv) (w : World) (ru : Rng w bu ou (bys xsu)) (rv : Rng w bv ov (bys xsv)) : Cl Try.prog 5 #[.slice Au nu cu, .slice Av nv cv] w fun v w' => v = .bool true ∧ Mod [] w w' := by
  refine Cl.of Try.func5 Try.ntmps5 rfl rfl (ρ := [(0, .slice Au nu cu), (1, .slice Av nv cv)]) rfl ?_
  refine CE.seq ?_
  refine CE.region ?_
  refine WL.det (op_assign rfl) rfl rfl rfl ?_
  refine WL.end ?_
  refine NE.code ?_
  refine CE.seq ?_
  refine CE.seq ?_
  refine CE.region ?_
  refine WL.det (op_move rfl) rfl rfl rfl ?_
  refine WL.call (oc_call (vs := [.slice Au nu cu]) (cap := []) rfl rfl rfl Try.call21 (c_f6big nu cu Au w)) rfl rfl (ltb rfl) ?_
  rintro _ _ ⟨rfl, rfl⟩
  refine WL.det (op_move rfl) rfl rfl rfl ?_
  refine WL.yes rfl rfl rfl (ltb rfl) rfl (decide_eq_false (by omega)) ?_
  refine WL.det (op_move rfl) rfl rfl rfl ?_
  refine WL.yes rfl rfl rfl (ltb rfl) rfl (decide_eq_false (by omega)) ?_
  refine WL.call (oc_call (vs := [.slice Av nv cv]) (cap := []) rfl rfl rfl Try.call21 (c_f6big nv cv Av w)) rfl rfl (ltb rfl) ?_
  rintro _ _ ⟨rfl, rfl⟩
  refine WL.det (op_pick_f rfl (decide_eq_false (by omega)) rfl) rfl rfl rfl ?_
  refine WL.end ?_
  refine NE.code ?_
  refine CE.cond_t rfl (decide_eq_true (by omega)) ?_
  refine CE.seq ?_
  refine CE.region ?_
  refine WL.det (op_assign rfl) rfl rfl rfl ?_
  refine WL.end ?_
  refine NE.code ?_
  refine CE.ret' ?_
  refine XE.ret_then ?_
  refine XE.leave1 Try.results5 rfl ?_
  refine ⟨rfl, (Mod.refl [] w)⟩

set_option maxRecDepth 100000 in
set_option maxHeartbeats 8000000 in
theorem law_fric (nu : Nat) (cu : Nat) (Au : Option Addr) (bu : Nat) (ou : Nat) (xsu : List Nat) (nv : Nat) (cv : Nat) (Av : Option Addr) (bv : Nat) (ov : Nat) (xsv : List Nat) (lnu : xsu.length = nu) (hAu : 0 < nu → Au = some ⟨bu, ou, none⟩) (hBu : ∀ i, xsu.getD i 0 < 256) (lnv : xsv.length = nv) (hAv : 0 < nv → Av = some ⟨bv, ov, none⟩) (hBv : ∀ i, xsv.getD i 0 < 256) (hnu : nu ≤ 4096) (hnv : nv ≤ 4096) (w : World) (ru : Rng w bu ou (bys xsu)) (rv : Rng w bv ov (bys xsv)) : Cl Try.prog 5 #[.slice Au nu cu, .slice Av nv cv] w fun v w' => v = .bool true ∧ Mod [] w w' := by
  refine Cl.of Try.func5 Try.ntmps5 rfl rfl (ρ := [(0, .slice Au nu cu), (1, .slice Av nv cv)]) rfl ?_
  refine CE.seq ?_
  refine CE.region ?_
  refine WL.det (op_assign rfl) rfl rfl rfl ?_
  refine WL.end ?_
  refine NE.code ?_
  refine CE.seq ?_
  refine CE.seq ?_
  refine CE.region ?_
  refine WL.det (op_move rfl) rfl rfl rfl ?_
  refine WL.call (oc_call (vs := [.slice Au nu cu]) (cap := []) rfl rfl rfl Try.call21 (c_f6big nu cu Au w)) rfl rfl (ltb rfl) ?_
  rintro _ _ ⟨rfl, rfl⟩
  refine WL.det (op_move rfl) rfl rfl rfl ?_
  refine WL.yes rfl rfl rfl (ltb rfl) rfl (decide_eq_false (by omega)) ?_
  refine WL.det (op_move rfl) rfl rfl rfl ?_
  refine WL.yes rfl rfl rfl (ltb rfl) rfl (decide_eq_false (by omega)) ?_
  refine WL.call (oc_call (vs := [.slice Av nv cv]) (cap := []) rfl rfl rfl Try.call21 (c_f6big nv cv Av w)) rfl rfl (ltb rfl) ?_
  rintro _ _ ⟨rfl, rfl⟩
  refine WL.det (op_pick_f rfl (decide_eq_false (by omega)) rfl) rfl rfl rfl ?_
  refine WL.end ?_
  refine NE.code ?_
  refine CE.cond_f rfl (decide_eq_false (by omega)) ?_
  refine CE.skip' ?_
  refine NE.code ?_
  refine CE.seq ?_
  refine CE.region ?_
  refine WL.det (op_move rfl) rfl rfl rfl ?_
  refine WL.call (oc_call (vs := [.slice Au nu cu]) (cap := []) rfl rfl rfl Try.call22 (c_P6PlainF nu cu Au bu ou xsu lnu hAu hBu (by omega) w ru)) rfl rfl (ltb rfl) ?_
  rintro _ w1 ⟨pl1, rfl, h1, h2, m1⟩
  refine WL.det (op_assign rfl) rfl rfl rfl ?_
  refine WL.end ?_
  refine NE.code ?_
  refine CE.seq ?_
  refine CE.region ?_
  refine WL.det (op_move rfl) rfl rfl rfl ?_
  refine WL.call (oc_call (vs := [.slice Av nv cv]) (cap := []) rfl rfl rfl Try.call22 (c_P6PlainF nv cv Av bv ov xsv lnv hAv hBv (by omega) w1 (rv.ext m1))) rfl rfl (ltb rfl) ?_
  rintro _ w2 ⟨pl2, rfl, h3, h4, m2⟩
  refine WL.det (op_assign rfl) rfl rfl rfl ?_
  refine WL.end ?_
  refine NE.code ?_
  refine CE.seq ?_
  refine CE.region ?_
  refine WL.det (op_move rfl) rfl rfl rfl ?_
  refine WL.det (op_move rfl) rfl rfl rfl ?_
  refine WL.call (oc_call (vs := [.slice Au nu cu, vI 64]) (cap := []) rfl rfl rfl Try.call23 (c_P6Pick nu cu Au bu ou xsu 64 lnu hAu hBu (by omega) (by omega) (by omega) w2 ((ru.ext m1).ext m2))) rfl rfl (ltb rfl) ?_
  rintro _ w3 ⟨u1, rfl, h5, m3⟩
  refine WL.det (op_cvt_if rfl Try.runUnderlying2 Try.runUnderlying25) rfl rfl rfl ?_
  refine WL.op (op_farith (e := (fop .quo .f32 (FloatKind.f32.nearest ((u1 : Nat) : Int)) 1098907648)) (.inr (.inr (.inr rfl))) rfl rfl rfl rfl rfl) rfl rfl (ltb rfl) ?_
  rintro _ w4 ⟨⟨f1, rfl, hf1, lf1⟩, m4⟩
  refine WL.op (op_farith (e := (fop .add .f32 pl2 (fop .quo .f32 (FloatKind.f32.nearest ((u1 : Nat) : Int)) 1098907648))) (.inl rfl) rfl rfl rfl hf1 rfl) rfl rfl (ltb rfl) ?_
  rintro _ w5 ⟨⟨f2, rfl, hf2, lf2⟩, m5⟩
  refine WL.det (op_assign rfl) rfl rfl rfl ?_
  refine WL.end ?_
  refine NE.code ?_
  refine CE.seq ?_
  refine CE.seq ?_
  refine CE.region ?_
  refine WL.det (op_move rfl) rfl rfl rfl ?_
  refine WL.det (op_flt (c := fLt .f32 pl2 0) rfl rfl rfl rfl rfl) rfl rfl rfl ?_
  refine WL.end ?_
  refine NE.code ?_
  rcases Bool.eq_false_or_eq_true (fLt .f32 pl2 0) with hb1 | hb1
  · refine CE.cond_t rfl hb1 ?_
    refine CE.region ?_
    refine WL.det (op_move rfl) rfl rfl rfl ?_
    refine WL.det (op_move rfl) rfl rfl rfl ?_
    refine WL.call (oc_call (vs := [.slice Au nu cu, vI 64]) (cap := []) rfl rfl rfl Try.call23 (c_P6Pick nu cu Au bu ou xsu 64 lnu hAu hBu (by omega) (by omega) (by omega) w5 (((((ru.ext m1).ext m2).ext m3).ext m4).ext m5))) rfl rfl (ltb rfl) ?_
    rintro _ w6 ⟨u2, rfl, h6, m6⟩
    refine WL.det (op_cvt_if rfl Try.runUnderlying2 Try.runUnderlying25) rfl rfl rfl ?_
    refine WL.op (op_farith (e := (fop .quo .f32 (FloatKind.f32.nearest ((u2 : Nat) : Int)) 1098907648)) (.inr (.inr (.inr rfl))) rfl rfl rfl rfl rfl) rfl rfl (ltb rfl) ?_
    rintro _ w7 ⟨⟨f3, rfl, hf3, lf3⟩, m7⟩
    refine WL.op (op_farith (e := (fop .sub .f32 pl2 (fop .quo .f32 (FloatKind.f32.nearest ((u2 : Nat) : Int)) 1098907648))) (.inr (.inl rfl)) rfl rfl rfl hf3 rfl) rfl rfl (ltb rfl) ?_
    rintro _ w8 ⟨⟨f4, rfl, hf4, lf4⟩, m8⟩
    refine WL.det (op_assign rfl) rfl rfl rfl ?_
    refine WL.end ?_
    refine NE.code ?_
    refine CE.seq ?_
    refine CE.region ?_
    refine WL.det (op_move rfl) rfl rfl rfl ?_
    refine WL.det (op_move rfl) rfl rfl rfl ?_
    refine WL.call (oc_call (vs := [vF pl1, vF pl2]) (cap := []) rfl rfl rfl Try.call24 (c_friction pl1 pl1 pl2 pl2 rfl rfl w8)) rfl rfl (ltb rfl) ?_
    rintro _ w9 ⟨r1, rfl, h7, h8, m9⟩
    refine WL.det (op_assign rfl) rfl rfl rfl ?_
    refine WL.end ?_
    refine NE.code ?_
    refine CE.seq ?_
    refine CE.region ?_
    refine WL.det (op_move rfl) rfl rfl rfl ?_
    refine WL.det (op_move rfl) rfl rfl rfl ?_
    refine WL.call (oc_call (vs := [vF pl1, vF f4]) (cap := []) rfl rfl rfl Try.call24 (c_friction pl1 pl1 f4 (fop .sub .f32 pl2 (fop .quo .f32 (FloatKind.f32.nearest ((u2 : Nat) : Int)) 1098907648)) rfl hf4 w9)) rfl rfl (ltb rfl) ?_
    rintro _ w10 ⟨r2, rfl, h9, h10, m10⟩
    refine WL.det (op_assign rfl) rfl rfl rfl ?_
    refine WL.end ?_
    refine NE.code ?_
    refine CE.seq ?_
    refine CE.region ?_
    refine WL.det (op_move rfl) rfl rfl rfl ?_
    refine WL.call (oc_call (vs := [vF pl1]) (cap := []) rfl rfl rfl Try.call25 (c_iFricTab pl1 h1 (by first | assumption | exact PlW.fin (by assumption)) w10)) rfl rfl (ltb rfl) ?_
    rintro _ w11 ⟨ys1, rfl, h11, h12, m11⟩
    refine WL.det (op_move rfl) rfl rfl rfl ?_
    refine WL.det (op_extract rfl rfl) rfl rfl rfl ?_
    refine WL.det (op_extract rfl rfl) rfl rfl rfl ?_
    refine WL.op (op_alloc (cs := fl (List.replicate 257 0)) Try.zeroValue51 rfl) rfl rfl (ltb rfl) ?_
    rintro _ w12 ⟨rfl, r3, m12, z1⟩
    refine WL.op0 (op_store (i := 0) (cs := fl ys1) rfl rfl rfl Try.sizeOf51 (fl_len h11) r3 rfl (by rw [fl_length, List.length_replicate]; decide) (fl_one _)) rfl rfl ?_
    rintro _ w13 ⟨r4, m13, z2⟩
    have r5 : Row w13 w11.heap.size 0 (fl ys1) := Row.congr r4 (splice_all ((fl_len (List.length_replicate)).trans (fl_len (h11)).symm))
    refine WL.det (op_assign rfl) rfl rfl rfl ?_
    refine WL.end ?_
    refine NE.code ?_
    refine CE.seq ?_
    refine CE.region ?_
    refine WL.det (op_move rfl) rfl rfl rfl ?_
    refine WL.call (oc_call (vs := [vF pl1]) (cap := []) rfl rfl rfl Try.call26 (c_sFricTab pl1 h1 (by first | assumption | exact PlW.fin (by assumption)) w13)) rfl rfl (ltb rfl) ?_
    rintro _ w14 ⟨ys2, rfl, h13, h14, m14⟩
    refine WL.det (op_move rfl) rfl rfl rfl ?_
    refine WL.det (op_extract rfl rfl) rfl rfl rfl ?_
    refine WL.det (op_extract rfl rfl) rfl rfl rfl ?_
    refine WL.op (op_alloc (cs := fl (List.replicate 257 0)) Try.zeroValue51 rfl) rfl rfl (ltb rfl) ?_
    rintro _ w15 ⟨rfl, r6, m15, z3⟩
    refine WL.op0 (op_store (i := 0) (cs := fl ys2) rfl rfl rfl Try.sizeOf51 (fl_len h13) r6 rfl (by rw [fl_length, List.length_replicate]; decide) (fl_one _)) rfl rfl ?_
    rintro _ w16 ⟨r7, m16, z4⟩
    have r8 : Row w16 w14.heap.size 0 (fl ys2) := Row.congr r7 (splice_all ((fl_len (List.length_replicate)).trans (fl_len (h13)).symm))
    refine WL.det (op_assign rfl) rfl rfl rfl ?_
    refine WL.end ?_
    refine NE.code ?_
    refine CE.seq ?_
    refine CE.seq ?_
    refine CE.region ?_
    refine WL.det (op_move rfl) rfl rfl rfl ?_
    refine WL.det (op_move rfl) rfl rfl rfl ?_
    refine WL.det (op_move rfl) rfl rfl rfl ?_
    refine WL.det (op_negf rfl) rfl rfl rfl ?_
    refine WL.call (oc_call (vs := [vF pl1, vF (Op.negFloat .f32 pl2)]) (cap := []) rfl rfl rfl Try.call24 (c_friction pl1 pl1 (Op.negFloat .f32 pl2) (Op.negFloat .f32 pl2) rfl (negf_congr rfl) w16)) rfl rfl (ltb rfl) ?_
    rintro _ w17 ⟨r9, rfl, h15, h16, m17⟩
    refine WL.det (op_fne (c := !(fEq .f32 (fricF pl1 pl2) (fricF pl1 (Op.negFloat .f32 pl2)))) rfl rfl h7 h15 rfl) rfl rfl rfl ?_
    refine WL.det (op_move rfl) rfl rfl rfl ?_
    refine WL.yes rfl rfl rfl (ltb rfl) rfl (bnot_t (law_even (by assumption) (by assumption))) ?_
    refine WL.det (op_move rfl) rfl rfl rfl ?_
    refine WL.yes rfl rfl rfl (ltb rfl) rfl (bnot_t (law_even (by assumption) (by assumption))) ?_
    refine WL.det (op_fgt (c := fGt .f32 (fricF pl1 pl2) 1065353216) rfl rfl h7 rfl rfl) rfl rfl rfl ?_
    refine WL.det (op_pick_f rfl (bnot_t (law_even (by assumption) (by assumption))) rfl) rfl rfl rfl ?_
    refine WL.det (op_move rfl) rfl rfl rfl ?_
    refine WL.yes rfl rfl rfl (ltb rfl) rfl (law_one (by assumption) (by assumption)).1 ?_
    refine WL.det (op_move rfl) rfl rfl rfl ?_
    refine WL.yes rfl rfl rfl (ltb rfl) rfl (law_one (by assumption) (by assumption)).1 ?_
    refine WL.det (op_fle (c := fLe .f32 (fricF pl1 pl2) 0) rfl rfl h7 rfl rfl) rfl rfl rfl ?_
    refine WL.det (op_pick_f rfl (law_one (by assumption) (by assumption)).1 rfl) rfl rfl rfl ?_
    refine WL.det (op_move rfl) rfl rfl rfl ?_
    refine WL.yes rfl rfl rfl (ltb rfl) rfl (law_one (by assumption) (by assumption)).2 ?_
    refine WL.det (op_move rfl) rfl rfl rfl ?_
    refine WL.yes rfl rfl rfl (ltb rfl) rfl (law_one (by assumption) (by assumption)).2 ?_
    refine WL.det (op_move rfl) rfl rfl rfl ?_
    refine WL.yes rfl rfl rfl (ltb rfl) rfl (law_one (by assumption) (by assumption)).2 ?_
    refine WL.det (op_fgt (c := fGt .f32 (fricF pl1 (fop .sub .f32 pl2 (fop .quo .f32 (FloatKind.f32.nearest ((u2 : Nat) : Int)) 1098907648))) (fricF pl1 pl2)) rfl rfl h9 h7 rfl) rfl rfl rfl ?_
    refine WL.det (op_pick_f rfl (law_one (by assumption) (by assumption)).2 rfl) rfl rfl rfl ?_
    refine WL.det (op_move rfl) rfl rfl rfl ?_
    refine WL.yes rfl rfl rfl (ltb rfl) rfl (law_less (by assumption) (far_minus (by assumption) (by assumption) rfl (by assumption))) ?_
    refine WL.det (op_move rfl) rfl rfl rfl ?_
    refine WL.yes rfl rfl rfl (ltb rfl) rfl (law_less (by assumption) (far_minus (by assumption) (by assumption) rfl (by assumption))) ?_
    refine WL.det (op_move rfl) rfl rfl rfl ?_
    refine WL.yes rfl rfl rfl (ltb rfl) rfl (law_less (by assumption) (far_minus (by assumption) (by assumption) rfl (by assumption))) ?_
    refine WL.det (op_move rfl) rfl rfl rfl ?_
    refine WL.yes rfl rfl rfl (ltb rfl) rfl (law_less (by assumption) (far_minus (by assumption) (by assumption) rfl (by assumption))) ?_
    refine WL.call (oc_call (vs := [vF pl1, vF pl2]) (cap := []) rfl rfl rfl Try.call27 (c_sFriction pl1 pl1 pl2 pl2 rfl rfl w17)) rfl rfl (ltb rfl) ?_
    rintro _ w18 ⟨r10, rfl, h17, h18, m18⟩
    refine WL.yes rfl rfl rfl (ltb rfl) rfl (law_less (by assumption) (far_minus (by assumption) (by assumption) rfl (by assumption))) ?_
    refine WL.det (op_fne (c := !(fEq .f32 (fricF pl1 pl2) (fricF pl1 pl2))) rfl rfl h7 h17 rfl) rfl rfl rfl ?_
    refine WL.det (op_pick_f rfl (law_less (by assumption) (far_minus (by assumption) (by assumption) rfl (by assumption))) rfl) rfl rfl rfl ?_
    refine WL.det (op_move rfl) rfl rfl rfl ?_
    refine WL.yes rfl rfl rfl (ltb rfl) rfl (bnot_t (law_self (by assumption) (by assumption))) ?_
    refine WL.det (op_move rfl) rfl rfl rfl ?_
    refine WL.yes rfl rfl rfl (ltb rfl) rfl (bnot_t (law_self (by assumption) (by assumption))) ?_
    refine WL.det (op_move rfl) rfl rfl rfl ?_
    refine WL.yes rfl rfl rfl (ltb rfl) rfl (bnot_t (law_self (by assumption) (by assumption))) ?_
    refine WL.det (op_nei rfl rfl) rfl rfl rfl ?_
    refine WL.det (op_pick_f rfl (bnot_t (law_self (by assumption) (by assumption))) rfl) rfl rfl rfl ?_
    refine WL.det (op_move rfl) rfl rfl rfl ?_
    refine WL.yes rfl rfl rfl (ltb rfl) rfl rfl ?_
    refine WL.det (op_move rfl) rfl rfl rfl ?_
    refine WL.yes rfl rfl rfl (ltb rfl) rfl rfl ?_
    refine WL.det (op_nei rfl rfl) rfl rfl rfl ?_
    refine WL.det (op_pick_f rfl rfl rfl) rfl rfl rfl ?_
    refine WL.det (op_move rfl) rfl rfl rfl ?_
    refine WL.yes rfl rfl rfl (ltb rfl) rfl rfl ?_
    refine WL.det (op_loadA (i := 0) (cs := fl ys1) rfl Try.isAgg51 Try.sizeOf51 (((((r5.ext m14).ext m15).mod m16 (nC (lE (lL (lL r3.lt (lT m13.size m14.size)) lR)) nN)).ext m17).ext m18).rng rfl (fl_whole h11) (fl_len h11)) rfl rfl rfl ?_
    refine WL.yes rfl rfl rfl (ltb rfl) rfl rfl ?_
    refine WL.det (op_loadA (i := 0) (cs := fl ys2) rfl Try.isAgg51 Try.sizeOf51 ((r8.ext m17).ext m18).rng rfl (fl_whole h13) (fl_len h13)) rfl rfl rfl ?_
    refine WL.yes rfl rfl rfl (ltb rfl) rfl rfl ?_
    refine WL.det (op_neA (c := allEq ys1 ys2 257) rfl rfl (by kernel_rfl) Try.underlying51 Try.underlying25 Try.sizeOf25 h11 h13 rfl) rfl rfl rfl ?_
    refine WL.det (op_pick_f rfl rfl rfl) rfl rfl rfl ?_
    refine WL.det (op_move rfl) rfl rfl rfl ?_
    refine WL.yes rfl rfl rfl (ltb rfl) rfl (bnot_t (tabs_same (by assumption) (by assumption) (by assumption))) ?_
    refine WL.det (op_move rfl) rfl rfl rfl ?_
    refine WL.yes rfl rfl rfl (ltb rfl) rfl (bnot_t (tabs_same (by assumption) (by assumption) (by assumption))) ?_
    refine WL.call (oc_call (vs := [vF pl1, vF 0]) (cap := []) rfl rfl rfl Try.call24 (c_friction pl1 pl1 0 0 rfl rfl w18)) rfl rfl (ltb rfl) ?_
    rintro _ w19 ⟨r11, rfl, h19, h20, m19⟩
    refine WL.yes rfl rfl rfl (ltb rfl) rfl (bnot_t (tabs_same (by assumption) (by assumption) (by assumption))) ?_
    refine WL.det (op_fne (c := !(fEq .f32 (fricF pl1 0) 1065353216)) rfl rfl h19 rfl rfl) rfl rfl rfl ?_
    refine WL.det (op_pick_f rfl (bnot_t (tabs_same (by assumption) (by assumption) (by assumption))) rfl) rfl rfl rfl ?_
    refine WL.end ?_
    refine NE.code ?_
    refine CE.cond_f rfl (bnot_t (law_still (by assumption))) ?_
    refine CE.skip' ?_
    refine NE.code ?_
    refine CE.seq ?_
    refine CE.region ?_
    refine WL.det (op_move rfl) rfl rfl rfl ?_
    refine WL.call (oc_call (vs := [.slice Au nu cu]) (cap := []) rfl rfl rfl Try.call28 (c_P6Bow nu cu Au bu ou xsu lnu hAu hBu (by omega) w19 ((((Rng.youngS ru (((Rng.youngS ru ((((((((((((ru.ext m1).ext m2).ext m3).ext m4).ext m5).ext m6).ext m7).ext m8).ext m9).ext m10).ext m11).ext m12) m13 (allge_cons (lT (lT (lT (lT (lT (lT (lT (lT (lT (lT (lT m1.size m2.size) m3.size) m4.size) m5.size) m6.size) m7.size) m8.size) m9.size) m10.size) m11.size) lR) allge_nil)).ext m14).ext m15) m16 (allge_cons (lT (lT (lT (lT (lT (lT (lT (lT (lT (lT (lT (lT (lT (lT m1.size m2.size) m3.size) m4.size) m5.size) m6.size) m7.size) m8.size) m9.size) m10.size) m11.size) m12.size) m13.size) m14.size) lR) allge_nil)).ext m17).ext m18).ext m19))) rfl rfl (ltb rfl) ?_
    rintro _ w20 ⟨b'1, d'1, nn1, mm1, ii1, hh1, xs1, ys3, c0_1, c1_1, t0_1, t1_1, sl_1, lo_1, rfl, h21, h22, h23, h24, h25, h26, h27, h28, h29, h30, h31, r12, r13, ge1, ge2, ne1, m20⟩
    refine WL.op (op_alloc (cs := [.slice none 0 0, vI 0, .slice none 0 0, vI 0, vI 0, vF 0, vF 0, vF 0, vF 0, vF 0, vF 0, vF 0]) Try.zeroValue36 rfl) rfl rfl (ltb rfl) ?_
    rintro _ w21 ⟨rfl, r14, m21, z5⟩
    refine WL.op0 (op_store (i := 0) (cs := [vS b'1 0 nn1 nn1, vI ((ii1 : Nat) : Int), vS d'1 0 mm1 mm1, vI ((hh1 : Nat) : Int), vI 1, vF c0_1, vF c1_1, vF 0, vF t0_1, vF t1_1, vF sl_1, vF lo_1]) rfl rfl rfl Try.sizeOf36 rfl r14 rfl (lB rfl) rfl) rfl rfl ?_
    rintro _ w22 ⟨r15, m22, z6⟩
    have r16 : Row w22 w20.heap.size 0 [vS b'1 0 nn1 nn1, vI ((ii1 : Nat) : Int), vS d'1 0 mm1 mm1, vI ((hh1 : Nat) : Int), vI 1, vF c0_1, vF c1_1, vF 0, vF t0_1, vF t1_1, vF sl_1, vF lo_1] := Row.congr r15 rfl
    refine WL.end ?_
    refine NE.code ?_
    refine CE.seq ?_
    refine CE.region ?_
    refine WL.det (op_loadA (i := 0) (cs := [vS b'1 0 nn1 nn1, vI ((ii1 : Nat) : Int), vS d'1 0 mm1 mm1, vI ((hh1 : Nat) : Int), vI 1, vF c0_1, vF c1_1, vF 0, vF t0_1, vF t1_1, vF sl_1, vF lo_1]) rfl Try.isAgg36 Try.sizeOf36 r16.rng rfl rfl rfl) rfl rfl rfl ?_
    refine WL.det (op_move rfl) rfl rfl rfl ?_
    refine WL.call (oc_call (vs := [.agg #[vS b'1 0 nn1 nn1, vI ((ii1 : Nat) : Int), vS d'1 0 mm1 mm1, vI ((hh1 : Nat) : Int), vI 1, vF c0_1, vF c1_1, vF 0, vF t0_1, vF t1_1, vF sl_1, vF lo_1], vF pl2]) (cap := []) rfl rfl rfl Try.call20 (c_iSticks nn1 nn1 b'1 xs1 mm1 mm1 d'1 ys3 ii1 hh1 (1 : Int) c0_1 c1_1 0 t0_1 t1_1 sl_1 lo_1 pl2 h21 h22 (by omega) (by omega) (by omega) (by omega) h29 h30 h27 h28 h3 (by assumption) w22 ((r12.ext m21).mod m22 (nC (lE (lL r12.lt lR)) nN)).rng ((r13.ext m21).mod m22 (nC (lE (lL r13.lt lR)) nN)).rng)) rfl rfl (ltb rfl) ?_
    rintro _ w23 ⟨rfl, m23⟩
    refine WL.det (op_move rfl) rfl rfl rfl ?_
    refine WL.det (op_extract rfl rfl) rfl rfl rfl ?_
    refine WL.det (op_extract rfl rfl) rfl rfl rfl ?_
    refine WL.det (op_assign rfl) rfl rfl rfl ?_
    refine WL.det (op_assign rfl) rfl rfl rfl ?_
    refine WL.end ?_
    refine NE.code ?_
    refine CE.seq ?_
    refine CE.region ?_
    refine WL.det (op_loadA (i := 0) (cs := [vS b'1 0 nn1 nn1, vI ((ii1 : Nat) : Int), vS d'1 0 mm1 mm1, vI ((hh1 : Nat) : Int), vI 1, vF c0_1, vF c1_1, vF 0, vF t0_1, vF t1_1, vF sl_1, vF lo_1]) rfl Try.isAgg36 Try.sizeOf36 (r16.ext m23).rng rfl rfl rfl) rfl rfl rfl ?_
    refine WL.det (op_move rfl) rfl rfl rfl ?_
    refine WL.call (oc_call (vs := [.agg #[vS b'1 0 nn1 nn1, vI ((ii1 : Nat) : Int), vS d'1 0 mm1 mm1, vI ((hh1 : Nat) : Int), vI 1, vF c0_1, vF c1_1, vF 0, vF t0_1, vF t1_1, vF sl_1, vF lo_1], vF pl2]) (cap := []) rfl rfl rfl Try.call19 (c_sSticks nn1 nn1 b'1 xs1 mm1 mm1 d'1 ys3 ii1 hh1 (1 : Int) c0_1 c1_1 0 t0_1 t1_1 sl_1 lo_1 pl2 h21 h22 (by omega) (by omega) (by omega) (by omega) h29 h30 h27 h28 h3 (by assumption) w23 (((r12.ext m21).mod m22 (nC (lE (lL r12.lt lR)) nN)).ext m23).rng (((r13.ext m21).mod m22 (nC (lE (lL r13.lt lR)) nN)).ext m23).rng)) rfl rfl (ltb rfl) ?_
    rintro _ w24 ⟨rfl, m24⟩
    refine WL.det (op_move rfl) rfl rfl rfl ?_
    refine WL.det (op_extract rfl rfl) rfl rfl rfl ?_
    refine WL.det (op_extract rfl rfl) rfl rfl rfl ?_
    refine WL.det (op_assign rfl) rfl rfl rfl ?_
    refine WL.det (op_assign rfl) rfl rfl rfl ?_
    refine WL.end ?_
    refine NE.code ?_
    refine CE.seq ?_
    refine CE.region ?_
    refine WL.det (op_move rfl) rfl rfl rfl ?_
    refine WL.call (oc_call (vs := [vF pl2]) (cap := []) rfl rfl rfl Try.call29 (c_jetAt pl2 pl2 rfl h3 w24)) rfl rfl (ltb rfl) ?_
    rintro _ w25 ⟨r17, rfl, h32, h33, m25⟩
    refine WL.det (op_assign rfl) rfl rfl rfl ?_
    refine WL.end ?_
    refine NE.code ?_
    refine CE.seq ?_
    refine CE.region ?_
    refine WL.det (op_move rfl) rfl rfl rfl ?_
    refine WL.det (op_move rfl) rfl rfl rfl ?_
    refine WL.det (op_eqi rfl rfl) rfl rfl rfl ?_
    refine WL.det (op_move rfl) rfl rfl rfl ?_
    refine WL.yes rfl rfl rfl (ltb rfl) rfl rfl ?_
    refine WL.det (op_move rfl) rfl rfl rfl ?_
    refine WL.yes rfl rfl rfl (ltb rfl) rfl rfl ?_
    refine WL.det (op_eqi rfl rfl) rfl rfl rfl ?_
    refine WL.det (op_pick_t rfl rfl rfl) rfl rfl rfl ?_
    refine WL.det (op_move rfl) rfl rfl rfl ?_
    refine WL.yes rfl rfl rfl (ltb rfl) rfl rfl ?_
    refine WL.det (op_move rfl) rfl rfl rfl ?_
    refine WL.yes rfl rfl rfl (ltb rfl) rfl rfl ?_
    refine WL.det (op_move rfl) rfl rfl rfl ?_
    refine WL.yes rfl rfl rfl (ltb rfl) rfl rfl ?_
    refine WL.det (op_eqb_same rfl rfl Try.underlying4) rfl rfl rfl ?_
    refine WL.det (op_pick_t rfl rfl rfl) rfl rfl rfl ?_
    refine WL.det (op_move rfl) rfl rfl rfl ?_
    refine WL.yes rfl rfl rfl (ltb rfl) rfl rfl ?_
    refine WL.det (op_move rfl) rfl rfl rfl ?_
    refine WL.yes rfl rfl rfl (ltb rfl) rfl rfl ?_
    refine WL.det (op_fge (c := fGe .f32 (jetF pl2) 3212836864) rfl rfl h32 rfl rfl) rfl rfl rfl ?_
    refine WL.det (op_pick_t rfl rfl rfl) rfl rfl rfl ?_
    refine WL.det (op_move rfl) rfl rfl rfl ?_
    refine WL.yes rfl rfl rfl (ltb rfl) rfl (jet_ok (by assumption)).1.1 ?_
    refine WL.det (op_move rfl) rfl rfl rfl ?_
    refine WL.yes rfl rfl rfl (ltb rfl) rfl (jet_ok (by assumption)).1.1 ?_
    refine WL.det (op_fle (c := fLe .f32 (jetF pl2) 1065353216) rfl rfl h32 rfl rfl) rfl rfl rfl ?_
    refine WL.det (op_pick_t rfl (jet_ok (by assumption)).1.1 rfl) rfl rfl rfl ?_
    refine WL.det (op_move rfl) rfl rfl rfl ?_
    refine WL.yes rfl rfl rfl (ltb rfl) rfl (jet_ok (by assumption)).1.2 ?_
    refine WL.det (op_move rfl) rfl rfl rfl ?_
    refine WL.yes rfl rfl rfl (ltb rfl) rfl (jet_ok (by assumption)).1.2 ?_
    refine WL.det (op_move rfl) rfl rfl rfl ?_
    refine WL.yes rfl rfl rfl (ltb rfl) rfl (jet_ok (by assumption)).1.2 ?_
    refine WL.det (op_negf rfl) rfl rfl rfl ?_
    refine WL.yes rfl rfl rfl (ltb rfl) rfl (jet_ok (by assumption)).1.2 ?_
    refine WL.call (oc_call (vs := [vF (Op.negFloat .f32 pl2)]) (cap := []) rfl rfl rfl Try.call29 (c_jetAt (Op.negFloat .f32 pl2) (Op.negFloat .f32 pl2) (negf_congr rfl) (negFloat_lt h3) w25)) rfl rfl (ltb rfl) ?_
    rintro _ w26 ⟨r18, rfl, h34, h35, m26⟩
    refine WL.yes rfl rfl rfl (ltb rfl) rfl (jet_ok (by assumption)).1.2 ?_
    refine WL.det (op_negf rfl) rfl rfl rfl ?_
    refine WL.yes rfl rfl rfl (ltb rfl) rfl (jet_ok (by assumption)).1.2 ?_
    refine WL.det (op_feq (c := fEq .f32 (jetF pl2) (Op.negFloat .f32 (jetF (Op.negFloat .f32 pl2)))) rfl rfl h32 (negf_congr h34) rfl) rfl rfl rfl ?_
    refine WL.det (op_pick_t rfl (jet_ok (by assumption)).1.2 rfl) rfl rfl rfl ?_
    refine WL.det (op_assign rfl) rfl rfl rfl ?_
    refine WL.end ?_
    refine NE.code ?_
    refine CE.ret' ?_
    refine XE.leave1 Try.results5 rfl ?_
    refine ⟨?_, (((((((((((((((((((((((((((Mod.refl [] w).nt m1).nt m2).nt m3).nt m4).nt m5).nt m6).nt m7).nt m8).nt m9).nt m10).nt m11).nt m12).then m13 ((aC (.inr (lT (lT (lT (lT (lT (lT (lT (lT (lT (lT (lT m1.size m2.size) m3.size) m4.size) m5.size) m6.size) m7.size) m8.size) m9.size) m10.size) m11.size) lR)) aN))).nt m14).nt m15).then m16 ((aC (.inr (lT (lT (lT (lT (lT (lT (lT (lT (lT (lT (lT (lT (lT (lT m1.size m2.size) m3.size) m4.size) m5.size) m6.size) m7.size) m8.size) m9.size) m10.size) m11.size) m12.size) m13.size) m14.size) lR)) aN))).nt m17).nt m18).nt m19).nt m20).nt m21).then m22 ((aC (.inr (lT (lT (lT (lT (lT (lT (lT (lT (lT (lT (lT (lT (lT (lT (lT (lT (lT (lT (lT (lT m1.size m2.size) m3.size) m4.size) m5.size) m6.size) m7.size) m8.size) m9.size) m10.size) m11.size) m12.size) m13.size) m14.size) m15.size) m16.size) m17.size) m18.size) m19.size) m20.size) lR)) aN))).nt m23).nt m24).nt m25).nt m26)⟩
    all_goals first | rfl | exact congrArg Value.bool (jet_ok (by assumption)).2
  · refine CE.cond_f rfl hb1 ?_
    refine CE.skip' ?_
    refine NE.code ?_
    refine CE.seq ?_
    refine CE.region ?_
    refine WL.det (op_move rfl) rfl rfl rfl ?_
    refine WL.det (op_move rfl) rfl rfl rfl ?_
    refine WL.call (oc_call (vs := [vF pl1, vF pl2]) (cap := []) rfl rfl rfl Try.call24 (c_friction pl1 pl1 pl2 pl2 rfl rfl w5)) rfl rfl (ltb rfl) ?_
    rintro _ w27 ⟨r19, rfl, h36, h37, m27⟩
    refine WL.det (op_assign rfl) rfl rfl rfl ?_
    refine WL.end ?_
    refine NE.code ?_
    refine CE.seq ?_
    refine CE.region ?_
    refine WL.det (op_move rfl) rfl rfl rfl ?_
    refine WL.det (op_move rfl) rfl rfl rfl ?_
    refine WL.call (oc_call (vs := [vF pl1, vF f2]) (cap := []) rfl rfl rfl Try.call24 (c_friction pl1 pl1 f2 (fop .add .f32 pl2 (fop .quo .f32 (FloatKind.f32.nearest ((u1 : Nat) : Int)) 1098907648)) rfl hf2 w27)) rfl rfl (ltb rfl) ?_
    rintro _ w28 ⟨r20, rfl, h38, h39, m28⟩
    refine WL.det (op_assign rfl) rfl rfl rfl ?_
    refine WL.end ?_
    refine NE.code ?_
    refine CE.seq ?_
    refine CE.region ?_
    refine WL.det (op_move rfl) rfl rfl rfl ?_
    refine WL.call (oc_call (vs := [vF pl1]) (cap := []) rfl rfl rfl Try.call25 (c_iFricTab pl1 h1 (by first | assumption | exact PlW.fin (by assumption)) w28)) rfl rfl (ltb rfl) ?_
    rintro _ w29 ⟨ys4, rfl, h40, h41, m29⟩
    refine WL.det (op_move rfl) rfl rfl rfl ?_
    refine WL.det (op_extract rfl rfl) rfl rfl rfl ?_
    refine WL.det (op_extract rfl rfl) rfl rfl rfl ?_
    refine WL.op (op_alloc (cs := fl (List.replicate 257 0)) Try.zeroValue51 rfl) rfl rfl (ltb rfl) ?_
    rintro _ w30 ⟨rfl, r21, m30, z7⟩
    refine WL.op0 (op_store (i := 0) (cs := fl ys4) rfl rfl rfl Try.sizeOf51 (fl_len h40) r21 rfl (by rw [fl_length, List.length_replicate]; decide) (fl_one _)) rfl rfl ?_
    rintro _ w31 ⟨r22, m31, z8⟩
    have r23 : Row w31 w29.heap.size 0 (fl ys4) := Row.congr r22 (splice_all ((fl_len (List.length_replicate)).trans (fl_len (h40)).symm))
    refine WL.det (op_assign rfl) rfl rfl rfl ?_
    refine WL.end ?_
    refine NE.code ?_
    refine CE.seq ?_
    refine CE.region ?_
    refine WL.det (op_move rfl) rfl rfl rfl ?_
    refine WL.call (oc_call (vs := [vF pl1]) (cap := []) rfl rfl rfl Try.call26 (c_sFricTab pl1 h1 (by first | assumption | exact PlW.fin (by assumption)) w31)) rfl rfl (ltb rfl) ?_
    rintro _ w32 ⟨ys5, rfl, h42, h43, m32⟩
    refine WL.det (op_move rfl) rfl rfl rfl ?_
    refine WL.det (op_extract rfl rfl) rfl rfl rfl ?_
    refine WL.det (op_extract rfl rfl) rfl rfl rfl ?_
    refine WL.op (op_alloc (cs := fl (List.replicate 257 0)) Try.zeroValue51 rfl) rfl rfl (ltb rfl) ?_
    rintro _ w33 ⟨rfl, r24, m33, z9⟩
    refine WL.op0 (op_store (i := 0) (cs := fl ys5) rfl rfl rfl Try.sizeOf51 (fl_len h42) r24 rfl (by rw [fl_length, List.length_replicate]; decide) (fl_one _)) rfl rfl ?_
    rintro _ w34 ⟨r25, m34, z10⟩
    have r26 : Row w34 w32.heap.size 0 (fl ys5) := Row.congr r25 (splice_all ((fl_len (List.length_replicate)).trans (fl_len (h42)).symm))
    refine WL.det (op_assign rfl) rfl rfl rfl ?_
    refine WL.end ?_
    refine NE.code ?_
    refine CE.seq ?_
    refine CE.seq ?_
    refine CE.region ?_
    refine WL.det (op_move rfl) rfl rfl rfl ?_
    refine WL.det (op_move rfl) rfl rfl rfl ?_
    refine WL.det (op_move rfl) rfl rfl rfl ?_
    refine WL.det (op_negf rfl) rfl rfl rfl ?_
    refine WL.call (oc_call (vs := [vF pl1, vF (Op.negFloat .f32 pl2)]) (cap := []) rfl rfl rfl Try.call24 (c_friction pl1 pl1 (Op.negFloat .f32 pl2) (Op.negFloat .f32 pl2) rfl (negf_congr rfl) w34)) rfl rfl (ltb rfl) ?_
    rintro _ w35 ⟨r27, rfl, h44, h45, m35⟩
    refine WL.det (op_fne (c := !(fEq .f32 (fricF pl1 pl2) (fricF pl1 (Op.negFloat .f32 pl2)))) rfl rfl h36 h44 rfl) rfl rfl rfl ?_
    refine WL.det (op_move rfl) rfl rfl rfl ?_
    refine WL.yes rfl rfl rfl (ltb rfl) rfl (bnot_t (law_even (by assumption) (by assumption))) ?_
    refine WL.det (op_move rfl) rfl rfl rfl ?_
    refine WL.yes rfl rfl rfl (ltb rfl) rfl (bnot_t (law_even (by assumption) (by assumption))) ?_
    refine WL.det (op_fgt (c := fGt .f32 (fricF pl1 pl2) 1065353216) rfl rfl h36 rfl rfl) rfl rfl rfl ?_
    refine WL.det (op_pick_f rfl (bnot_t (law_even (by assumption) (by assumption))) rfl) rfl rfl rfl ?_
    refine WL.det (op_move rfl) rfl rfl rfl ?_
    refine WL.yes rfl rfl rfl (ltb rfl) rfl (law_one (by assumption) (by assumption)).1 ?_
    refine WL.det (op_move rfl) rfl rfl rfl ?_
    refine WL.yes rfl rfl rfl (ltb rfl) rfl (law_one (by assumption) (by assumption)).1 ?_
    refine WL.det (op_fle (c := fLe .f32 (fricF pl1 pl2) 0) rfl rfl h36 rfl rfl) rfl rfl rfl ?_
    refine WL.det (op_pick_f rfl (law_one (by assumption) (by assumption)).1 rfl) rfl rfl rfl ?_
    refine WL.det (op_move rfl) rfl rfl rfl ?_
    refine WL.yes rfl rfl rfl (ltb rfl) rfl (law_one (by assumption) (by assumption)).2 ?_
    refine WL.det (op_move rfl) rfl rfl rfl ?_
    refine WL.yes rfl rfl rfl (ltb rfl) rfl (law_one (by assumption) (by assumption)).2 ?_
    refine WL.det (op_move rfl) rfl rfl rfl ?_
    refine WL.yes rfl rfl rfl (ltb rfl) rfl (law_one (by assumption) (by assumption)).2 ?_
    refine WL.det (op_fgt (c := fGt .f32 (fricF pl1 (fop .add .f32 pl2 (fop .quo .f32 (FloatKind.f32.nearest ((u1 : Nat) : Int)) 1098907648))) (fricF pl1 pl2)) rfl rfl h38 h36 rfl) rfl rfl rfl ?_
    refine WL.det (op_pick_f rfl (law_one (by assumption) (by assumption)).2 rfl) rfl rfl rfl ?_
    refine WL.det (op_move rfl) rfl rfl rfl ?_
    refine WL.yes rfl rfl rfl (ltb rfl) rfl (law_less (by assumption) (far_plus (by assumption) (by assumption) rfl (by assumption))) ?_
    refine WL.det (op_move rfl) rfl rfl rfl ?_
    refine WL.yes rfl rfl rfl (ltb rfl) rfl (law_less (by assumption) (far_plus (by assumption) (by assumption) rfl (by assumption))) ?_
    refine WL.det (op_move rfl) rfl rfl rfl ?_
    refine WL.yes rfl rfl rfl (ltb rfl) rfl (law_less (by assumption) (far_plus (by assumption) (by assumption) rfl (by assumption))) ?_
    refine WL.det (op_move rfl) rfl rfl rfl ?_
    refine WL.yes rfl rfl rfl (ltb rfl) rfl (law_less (by assumption) (far_plus (by assumption) (by assumption) rfl (by assumption))) ?_
    refine WL.call (oc_call (vs := [vF pl1, vF pl2]) (cap := []) rfl rfl rfl Try.call27 (c_sFriction pl1 pl1 pl2 pl2 rfl rfl w35)) rfl rfl (ltb rfl) ?_
    rintro _ w36 ⟨r28, rfl, h46, h47, m36⟩
    refine WL.yes rfl rfl rfl (ltb rfl) rfl (law_less (by assumption) (far_plus (by assumption) (by assumption) rfl (by assumption))) ?_
    refine WL.det (op_fne (c := !(fEq .f32 (fricF pl1 pl2) (fricF pl1 pl2))) rfl rfl h36 h46 rfl) rfl rfl rfl ?_
    refine WL.det (op_pick_f rfl (law_less (by assumption) (far_plus (by assumption) (by assumption) rfl (by assumption))) rfl) rfl rfl rfl ?_
    refine WL.det (op_move rfl) rfl rfl rfl ?_
    refine WL.yes rfl rfl rfl (ltb rfl) rfl (bnot_t (law_self (by assumption) (by assumption))) ?_
    refine WL.det (op_move rfl) rfl rfl rfl ?_
    refine WL.yes rfl rfl rfl (ltb rfl) rfl (bnot_t (law_self (by assumption) (by assumption))) ?_
    refine WL.det (op_move rfl) rfl rfl rfl ?_
    refine WL.yes rfl rfl rfl (ltb rfl) rfl (bnot_t (law_self (by assumption) (by assumption))) ?_
    refine WL.det (op_nei rfl rfl) rfl rfl rfl ?_
    refine WL.det (op_pick_f rfl (bnot_t (law_self (by assumption) (by assumption))) rfl) rfl rfl rfl ?_
    refine WL.det (op_move rfl) rfl rfl rfl ?_
    refine WL.yes rfl rfl rfl (ltb rfl) rfl rfl ?_
    refine WL.det (op_move rfl) rfl rfl rfl ?_
    refine WL.yes rfl rfl rfl (ltb rfl) rfl rfl ?_
    refine WL.det (op_nei rfl rfl) rfl rfl rfl ?_
    refine WL.det (op_pick_f rfl rfl rfl) rfl rfl rfl ?_
    refine WL.det (op_move rfl) rfl rfl rfl ?_
    refine WL.yes rfl rfl rfl (ltb rfl) rfl rfl ?_
    refine WL.det (op_loadA (i := 0) (cs := fl ys4) rfl Try.isAgg51 Try.sizeOf51 (((((r23.ext m32).ext m33).mod m34 (nC (lE (lL (lL r21.lt (lT m31.size m32.size)) lR)) nN)).ext m35).ext m36).rng rfl (fl_whole h40) (fl_len h40)) rfl rfl rfl ?_
    refine WL.yes rfl rfl rfl (ltb rfl) rfl rfl ?_
    refine WL.det (op_loadA (i := 0) (cs := fl ys5) rfl Try.isAgg51 Try.sizeOf51 ((r26.ext m35).ext m36).rng rfl (fl_whole h42) (fl_len h42)) rfl rfl rfl ?_
    refine WL.yes rfl rfl rfl (ltb rfl) rfl rfl ?_
    refine WL.det (op_neA (c := allEq ys4 ys5 257) rfl rfl (by kernel_rfl) Try.underlying51 Try.underlying25 Try.sizeOf25 h40 h42 rfl) rfl rfl rfl ?_
    refine WL.det (op_pick_f rfl rfl rfl) rfl rfl rfl ?_
    refine WL.det (op_move rfl) rfl rfl rfl ?_
    refine WL.yes rfl rfl rfl (ltb rfl) rfl (bnot_t (tabs_same (by assumption) (by assumption) (by assumption))) ?_
    refine WL.det (op_move rfl) rfl rfl rfl ?_
    refine WL.yes rfl rfl rfl (ltb rfl) rfl (bnot_t (tabs_same (by assumption) (by assumption) (by assumption))) ?_
    refine WL.call (oc_call (vs := [vF pl1, vF 0]) (cap := []) rfl rfl rfl Try.call24 (c_friction pl1 pl1 0 0 rfl rfl w36)) rfl rfl (ltb rfl) ?_
    rintro _ w37 ⟨r29, rfl, h48, h49, m37⟩
    refine WL.yes rfl rfl rfl (ltb rfl) rfl (bnot_t (tabs_same (by assumption) (by assumption) (by assumption))) ?_
    refine WL.det (op_fne (c := !(fEq .f32 (fricF pl1 0) 1065353216)) rfl rfl h48 rfl rfl) rfl rfl rfl ?_
    refine WL.det (op_pick_f rfl (bnot_t (tabs_same (by assumption) (by assumption) (by assumption))) rfl) rfl rfl rfl ?_
    refine WL.end ?_
    refine NE.code ?_
    refine CE.cond_f rfl (bnot_t (law_still (by assumption))) ?_
    refine CE.skip' ?_
    refine NE.code ?_
    refine CE.seq ?_
    refine CE.region ?_
    refine WL.det (op_move rfl) rfl rfl rfl ?_
    refine WL.call (oc_call (vs := [.slice Au nu cu]) (cap := []) rfl rfl rfl Try.call28 (c_P6Bow nu cu Au bu ou xsu lnu hAu hBu (by omega) w37 ((((Rng.youngS ru (((Rng.youngS ru (((((((((ru.ext m1).ext m2).ext m3).ext m4).ext m5).ext m27).ext m28).ext m29).ext m30) m31 (allge_cons (lT (lT (lT (lT (lT (lT (lT (lT m1.size m2.size) m3.size) m4.size) m5.size) m27.size) m28.size) m29.size) lR) allge_nil)).ext m32).ext m33) m34 (allge_cons (lT (lT (lT (lT (lT (lT (lT (lT (lT (lT (lT m1.size m2.size) m3.size) m4.size) m5.size) m27.size) m28.size) m29.size) m30.size) m31.size) m32.size) lR) allge_nil)).ext m35).ext m36).ext m37))) rfl rfl (ltb rfl) ?_
    rintro _ w38 ⟨b'2, d'2, nn2, mm2, ii2, hh2, xs2, ys6, c0_2, c1_2, t0_2, t1_2, sl_2, lo_2, rfl, h50, h51, h52, h53, h54, h55, h56, h57, h58, h59, h60, r30, r31, ge3, ge4, ne2, m38⟩
    refine WL.op (op_alloc (cs := [.slice none 0 0, vI 0, .slice none 0 0, vI 0, vI 0, vF 0, vF 0, vF 0, vF 0, vF 0, vF 0, vF 0]) Try.zeroValue36 rfl) rfl rfl (ltb rfl) ?_
    rintro _ w39 ⟨rfl, r32, m39, z11⟩
    refine WL.op0 (op_store (i := 0) (cs := [vS b'2 0 nn2 nn2, vI ((ii2 : Nat) : Int), vS d'2 0 mm2 mm2, vI ((hh2 : Nat) : Int), vI 1, vF c0_2, vF c1_2, vF 0, vF t0_2, vF t1_2, vF sl_2, vF lo_2]) rfl rfl rfl Try.sizeOf36 rfl r32 rfl (lB rfl) rfl) rfl rfl ?_
    rintro _ w40 ⟨r33, m40, z12⟩
    have r34 : Row w40 w38.heap.size 0 [vS b'2 0 nn2 nn2, vI ((ii2 : Nat) : Int), vS d'2 0 mm2 mm2, vI ((hh2 : Nat) : Int), vI 1, vF c0_2, vF c1_2, vF 0, vF t0_2, vF t1_2, vF sl_2, vF lo_2] := Row.congr r33 rfl
    refine WL.end ?_
    refine NE.code ?_
    refine CE.seq ?_
    refine CE.region ?_
    refine WL.det (op_loadA (i := 0) (cs := [vS b'2 0 nn2 nn2, vI ((ii2 : Nat) : Int), vS d'2 0 mm2 mm2, vI ((hh2 : Nat) : Int), vI 1, vF c0_2, vF c1_2, vF 0, vF t0_2, vF t1_2, vF sl_2, vF lo_2]) rfl Try.isAgg36 Try.sizeOf36 r34.rng rfl rfl rfl) rfl rfl rfl ?_
    refine WL.det (op_move rfl) rfl rfl rfl ?_
    refine WL.call (oc_call (vs := [.agg #[vS b'2 0 nn2 nn2, vI ((ii2 : Nat) : Int), vS d'2 0 mm2 mm2, vI ((hh2 : Nat) : Int), vI 1, vF c0_2, vF c1_2, vF 0, vF t0_2, vF t1_2, vF sl_2, vF lo_2], vF pl2]) (cap := []) rfl rfl rfl Try.call20 (c_iSticks nn2 nn2 b'2 xs2 mm2 mm2 d'2 ys6 ii2 hh2 (1 : Int) c0_2 c1_2 0 t0_2 t1_2 sl_2 lo_2 pl2 h50 h51 (by omega) (by omega) (by omega) (by omega) h58 h59 h56 h57 h3 (by assumption) w40 ((r30.ext m39).mod m40 (nC (lE (lL r30.lt lR)) nN)).rng ((r31.ext m39).mod m40 (nC (lE (lL r31.lt lR)) nN)).rng)) rfl rfl (ltb rfl) ?_
    rintro _ w41 ⟨rfl, m41⟩
    refine WL.det (op_move rfl) rfl rfl rfl ?_
    refine WL.det (op_extract rfl rfl) rfl rfl rfl ?_
    refine WL.det (op_extract rfl rfl) rfl rfl rfl ?_
    refine WL.det (op_assign rfl) rfl rfl rfl ?_
    refine WL.det (op_assign rfl) rfl rfl rfl ?_
    refine WL.end ?_
    refine NE.code ?_
    refine CE.seq ?_
    refine CE.region ?_
    refine WL.det (op_loadA (i := 0) (cs := [vS b'2 0 nn2 nn2, vI ((ii2 : Nat) : Int), vS d'2 0 mm2 mm2, vI ((hh2 : Nat) : Int), vI 1, vF c0_2, vF c1_2, vF 0, vF t0_2, vF t1_2, vF sl_2, vF lo_2]) rfl Try.isAgg36 Try.sizeOf36 (r34.ext m41).rng rfl rfl rfl) rfl rfl rfl ?_
    refine WL.det (op_move rfl) rfl rfl rfl ?_
    refine WL.call (oc_call (vs := [.agg #[vS b'2 0 nn2 nn2, vI ((ii2 : Nat) : Int), vS d'2 0 mm2 mm2, vI ((hh2 : Nat) : Int), vI 1, vF c0_2, vF c1_2, vF 0, vF t0_2, vF t1_2, vF sl_2, vF lo_2], vF pl2]) (cap := []) rfl rfl rfl Try.call19 (c_sSticks nn2 nn2 b'2 xs2 mm2 mm2 d'2 ys6 ii2 hh2 (1 : Int) c0_2 c1_2 0 t0_2 t1_2 sl_2 lo_2 pl2 h50 h51 (by omega) (by omega) (by omega) (by omega) h58 h59 h56 h57 h3 (by assumption) w41 (((r30.ext m39).mod m40 (nC (lE (lL r30.lt lR)) nN)).ext m41).rng (((r31.ext m39).mod m40 (nC (lE (lL r31.lt lR)) nN)).ext m41).rng)) rfl rfl (ltb rfl) ?_
    rintro _ w42 ⟨rfl, m42⟩
    refine WL.det (op_move rfl) rfl rfl rfl ?_
    refine WL.det (op_extract rfl rfl) rfl rfl rfl ?_
    refine WL.det (op_extract rfl rfl) rfl rfl rfl ?_
    refine WL.det (op_assign rfl) rfl rfl rfl ?_
    refine WL.det (op_assign rfl) rfl rfl rfl ?_
    refine WL.end ?_
    refine NE.code ?_
    refine CE.seq ?_
    refine CE.region ?_
    refine WL.det (op_move rfl) rfl rfl rfl ?_
    refine WL.call (oc_call (vs := [vF pl2]) (cap := []) rfl rfl rfl Try.call29 (c_jetAt pl2 pl2 rfl h3 w42)) rfl rfl (ltb rfl) ?_
    rintro _ w43 ⟨r35, rfl, h61, h62, m43⟩
    refine WL.det (op_assign rfl) rfl rfl rfl ?_
    refine WL.end ?_
    refine NE.code ?_
    refine CE.seq ?_
    refine CE.region ?_
    refine WL.det (op_move rfl) rfl rfl rfl ?_
    refine WL.det (op_move rfl) rfl rfl rfl ?_
    refine WL.det (op_eqi rfl rfl) rfl rfl rfl ?_
    refine WL.det (op_move rfl) rfl rfl rfl ?_
    refine WL.yes rfl rfl rfl (ltb rfl) rfl rfl ?_
    refine WL.det (op_move rfl) rfl rfl rfl ?_
    refine WL.yes rfl rfl rfl (ltb rfl) rfl rfl ?_
    refine WL.det (op_eqi rfl rfl) rfl rfl rfl ?_
    refine WL.det (op_pick_t rfl rfl rfl) rfl rfl rfl ?_
    refine WL.det (op_move rfl) rfl rfl rfl ?_
    refine WL.yes rfl rfl rfl (ltb rfl) rfl rfl ?_
    refine WL.det (op_move rfl) rfl rfl rfl ?_
    refine WL.yes rfl rfl rfl (ltb rfl) rfl rfl ?_
    refine WL.det (op_move rfl) rfl rfl rfl ?_
    refine WL.yes rfl rfl rfl (ltb rfl) rfl rfl ?_
    refine WL.det (op_eqb_same rfl rfl Try.underlying4) rfl rfl rfl ?_
    refine WL.det (op_pick_t rfl rfl rfl) rfl rfl rfl ?_
    refine WL.det (op_move rfl) rfl rfl rfl ?_
    refine WL.yes rfl rfl rfl (ltb rfl) rfl rfl ?_
    refine WL.det (op_move rfl) rfl rfl rfl ?_
    refine WL.yes rfl rfl rfl (ltb rfl) rfl rfl ?_
    refine WL.det (op_fge (c := fGe .f32 (jetF pl2) 3212836864) rfl rfl h61 rfl rfl) rfl rfl rfl ?_
    refine WL.det (op_pick_t rfl rfl rfl) rfl rfl rfl ?_
    refine WL.det (op_move rfl) rfl rfl rfl ?_
    refine WL.yes rfl rfl rfl (ltb rfl) rfl (jet_ok (by assumption)).1.1 ?_
    refine WL.det (op_move rfl) rfl rfl rfl ?_
    refine WL.yes rfl rfl rfl (ltb rfl) rfl (jet_ok (by assumption)).1.1 ?_
    refine WL.det (op_fle (c := fLe .f32 (jetF pl2) 1065353216) rfl rfl h61 rfl rfl) rfl rfl rfl ?_
    refine WL.det (op_pick_t rfl (jet_ok (by assumption)).1.1 rfl) rfl rfl rfl ?_
    refine WL.det (op_move rfl) rfl rfl rfl ?_
    refine WL.yes rfl rfl rfl (ltb rfl) rfl (jet_ok (by assumption)).1.2 ?_
    refine WL.det (op_move rfl) rfl rfl rfl ?_
    refine WL.yes rfl rfl rfl (ltb rfl) rfl (jet_ok (by assumption)).1.2 ?_
    refine WL.det (op_move rfl) rfl rfl rfl ?_
    refine WL.yes rfl rfl rfl (ltb rfl) rfl (jet_ok (by assumption)).1.2 ?_
    refine WL.det (op_negf rfl) rfl rfl rfl ?_
    refine WL.yes rfl rfl rfl (ltb rfl) rfl (jet_ok (by assumption)).1.2 ?_
    refine WL.call (oc_call (vs := [vF (Op.negFloat .f32 pl2)]) (cap := []) rfl rfl rfl Try.call29 (c_jetAt (Op.negFloat .f32 pl2) (Op.negFloat .f32 pl2) (negf_congr rfl) (negFloat_lt h3) w43)) rfl rfl (ltb rfl) ?_
    rintro _ w44 ⟨r36, rfl, h63, h64, m44⟩
    refine WL.yes rfl rfl rfl (ltb rfl) rfl (jet_ok (by assumption)).1.2 ?_
    refine WL.det (op_negf rfl) rfl rfl rfl ?_
    refine WL.yes rfl rfl rfl (ltb rfl) rfl (jet_ok (by assumption)).1.2 ?_
    refine WL.det (op_feq (c := fEq .f32 (jetF pl2) (Op.negFloat .f32 (jetF (Op.negFloat .f32 pl2)))) rfl rfl h61 (negf_congr h63) rfl) rfl rfl rfl ?_
    refine WL.det (op_pick_t rfl (jet_ok (by assumption)).1.2 rfl) rfl rfl rfl ?_
    refine WL.det (op_assign rfl) rfl rfl rfl ?_
    refine WL.end ?_
    refine NE.code ?_
    refine CE.ret' ?_
    refine XE.leave1 Try.results5 rfl ?_
    refine ⟨?_, ((((((((((((((((((((((((Mod.refl [] w).nt m1).nt m2).nt m3).nt m4).nt m5).nt m27).nt m28).nt m29).nt m30).then m31 ((aC (.inr (lT (lT (lT (lT (lT (lT (lT (lT m1.size m2.size) m3.size) m4.size) m5.size) m27.size) m28.size) m29.size) lR)) aN))).nt m32).nt m33).then m34 ((aC (.inr (lT (lT (lT (lT (lT (lT (lT (lT (lT (lT (lT m1.size m2.size) m3.size) m4.size) m5.size) m27.size) m28.size) m29.size) m30.size) m31.size) m32.size) lR)) aN))).nt m35).nt m36).nt m37).nt m38).nt m39).then m40 ((aC (.inr (lT (lT (lT (lT (lT (lT (lT (lT (lT (lT (lT (lT (lT (lT (lT (lT (lT m1.size m2.size) m3.size) m4.size) m5.size) m27.size) m28.size) m29.size) m30.size) m31.size) m32.size) m33.size) m34.size) m35.size) m36.size) m37.size) m38.size) lR)) aN))).nt m41).nt m42).nt m43).nt m44)⟩
    all_goals first | rfl | exact congrArg Value.bool (jet_ok (by assumption)).2

end Go.Proofs.Ytkgdhlhmckdcmaa
