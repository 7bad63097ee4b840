/- The law on tuning, walked. -/
import Derived.Test.YtabfdgpldcegiaaD15
import Derived.Test.YtabfdgpldcegiaaD6
import Derived.Test.YtabfdgpldcegiaaE8
import Derived.Test.YtabfdgpldcegiaaE20
import Derived.Test.YtabfdgpldcegiaaK1
set_option linter.unusedVariables false
set_option linter.unusedSimpArgs false
namespace Go.Proofs.Ytabfdgpldcegiaa

set_option maxRecDepth 100000 in
set_option maxHeartbeats 8000000 in
theorem law_tuned_over (nu : Nat) (cu : Nat) (Au : Option Addr) (bu : Nat) (ou : Nat) (xsu : List Nat) (nv : Nat) (cv : Nat) (Av : Option Addr) (bv : Nat) (ov : Nat) (xsv : List Nat) (lnu : xsu.length = nu) (hAu : 0 < nu → Au = some ⟨bu, ou, none⟩) (hBu : ∀ i, xsu.getD i 0 < 256) (lnv : xsv.length = nv) (hAv : 0 < nv → Av = some ⟨bv, ov, none⟩) (hBv : ∀ i, xsv.getD i 0 < 256) (hnu : 3000 < nu ∨ 3000 < nv) (w : World) (ru : Rng w bu ou (bys xsu)) (rv : Rng w bv ov (bys xsv)) : Cl Try.prog 12 #[.slice Au nu cu, .slice Av nv cv] w fun v w' => v = .bool true ∧ Mod [] w w' := by
  refine Cl.of Try.func12 Try.ntmps12 rfl rfl (ρ := [(0, .slice Au nu cu), (1, .slice Av nv cv)]) rfl ?_
  refine CE.seq ?_
  refine CE.region ?_
  refine WL.det (op_assign rfl) rfl rfl rfl ?_
  refine WL.end ?_
  refine NE.code ?_
  refine CE.seq ?_
  refine CE.seq ?_
  refine CE.region ?_
  refine WL.det (op_move rfl) rfl rfl rfl ?_
  refine WL.det (op_move rfl) rfl rfl rfl ?_
  refine WL.call (oc_call (vs := [.slice Au nu cu, .slice Av nv cv]) (cap := []) rfl rfl rfl Try.call14 (c_a2Long nu cu Au nv cv Av w)) rfl rfl (ltb rfl) ?_
  rintro _ _ ⟨rfl, rfl⟩
  refine WL.end ?_
  refine NE.code ?_
  refine CE.cond_t rfl (still_over2 hnu) ?_
  refine CE.seq ?_
  refine CE.region ?_
  refine WL.det (op_assign rfl) rfl rfl rfl ?_
  refine WL.end ?_
  refine NE.code ?_
  refine CE.ret' ?_
  refine XE.ret_then ?_
  refine XE.leave1 Try.results12 rfl ?_
  refine ⟨rfl, (Mod.refl [] w)⟩

set_option maxRecDepth 100000 in
set_option maxHeartbeats 8000000 in
theorem law_tuned (nu : Nat) (cu : Nat) (Au : Option Addr) (bu : Nat) (ou : Nat) (xsu : List Nat) (nv : Nat) (cv : Nat) (Av : Option Addr) (bv : Nat) (ov : Nat) (xsv : List Nat) (lnu : xsu.length = nu) (hAu : 0 < nu → Au = some ⟨bu, ou, none⟩) (hBu : ∀ i, xsu.getD i 0 < 256) (lnv : xsv.length = nv) (hAv : 0 < nv → Av = some ⟨bv, ov, none⟩) (hBv : ∀ i, xsv.getD i 0 < 256) (hnu : nu ≤ 3000) (hnv : nv ≤ 3000) (w : World) (ru : Rng w bu ou (bys xsu)) (rv : Rng w bv ov (bys xsv)) : Cl Try.prog 12 #[.slice Au nu cu, .slice Av nv cv] w fun v w' => v = .bool true ∧ Mod [] w w' := by
  refine Cl.of Try.func12 Try.ntmps12 rfl rfl (ρ := [(0, .slice Au nu cu), (1, .slice Av nv cv)]) rfl ?_
  refine CE.seq ?_
  refine CE.region ?_
  refine WL.det (op_assign rfl) rfl rfl rfl ?_
  refine WL.end ?_
  refine NE.code ?_
  refine CE.seq ?_
  refine CE.seq ?_
  refine CE.region ?_
  refine WL.det (op_move rfl) rfl rfl rfl ?_
  refine WL.det (op_move rfl) rfl rfl rfl ?_
  refine WL.call (oc_call (vs := [.slice Au nu cu, .slice Av nv cv]) (cap := []) rfl rfl rfl Try.call14 (c_a2Long nu cu Au nv cv Av w)) rfl rfl (ltb rfl) ?_
  rintro _ _ ⟨rfl, rfl⟩
  refine WL.end ?_
  refine NE.code ?_
  refine CE.cond_f rfl (still_in2 hnu hnv) ?_
  refine CE.skip' ?_
  refine NE.code ?_
  refine CE.seq ?_
  refine CE.region ?_
  refine WL.det (op_move rfl) rfl rfl rfl ?_
  refine WL.call (oc_call (vs := [.slice Au nu cu, vI 0, vI 256]) (cap := []) rfl rfl rfl Try.call16 (c_A2DigitX nu cu Au bu ou xsu 0 256 lnu hAu hBu (by omega) (by omega) w ru)) rfl rfl (ltb rfl) ?_
  rintro _ w1 ⟨rfl, h1, m1⟩
  refine WL.det (op_cvt_if rfl Try.runUnderlying2 Try.runUnderlying27) rfl rfl rfl ?_
  refine WL.op (op_farith (e := (fop .quo .f32 (FloatKind.f32.nearest (((digF xsu nu 0 256) : Nat) : Int)) 1090519040)) (.inr (.inr (.inr rfl))) rfl rfl rfl rfl rfl) rfl rfl (ltb rfl) ?_
  rintro _ w2 ⟨⟨f1, rfl, hf1, lf1⟩, m2⟩
  refine WL.op (op_farith (e := (fop .add .f32 1077936128 (fop .quo .f32 (FloatKind.f32.nearest (((digF xsu nu 0 256) : Nat) : Int)) 1090519040))) (.inl rfl) rfl rfl rfl hf1 rfl) rfl rfl (ltb rfl) ?_
  rintro _ w3 ⟨⟨f2, rfl, hf2, lf2⟩, m3⟩
  refine WL.det (op_assign rfl) rfl rfl rfl ?_
  refine WL.end ?_
  refine NE.code ?_
  refine CE.seq ?_
  refine CE.region ?_
  refine WL.det (op_move rfl) rfl rfl rfl ?_
  refine WL.call (oc_call (vs := [.slice Au nu cu, vI 1, vI 33]) (cap := []) rfl rfl rfl Try.call16 (c_A2DigitX nu cu Au bu ou xsu 1 33 lnu hAu hBu (by omega) (by omega) w3 (((ru.ext m1).ext m2).ext m3))) rfl rfl (ltb rfl) ?_
  rintro _ w4 ⟨rfl, h2, m4⟩
  refine WL.det (op_cvt_if rfl Try.runUnderlying2 Try.runUnderlying27) rfl rfl rfl ?_
  refine WL.op (op_farith (e := (fop .quo .f32 (FloatKind.f32.nearest (((digF xsu nu 1 33) : Nat) : Int)) 1115684864)) (.inr (.inr (.inr rfl))) rfl rfl rfl rfl rfl) rfl rfl (ltb rfl) ?_
  rintro _ w5 ⟨⟨f3, rfl, hf3, lf3⟩, m5⟩
  refine WL.det (op_assign rfl) rfl rfl rfl ?_
  refine WL.end ?_
  refine NE.code ?_
  refine CE.seq ?_
  refine CE.region ?_
  refine WL.det (op_move rfl) rfl rfl rfl ?_
  refine WL.det (op_move rfl) rfl rfl rfl ?_
  refine WL.call (oc_call (vs := [vF f2, vF f3, vF 1065353216]) (cap := []) rfl rfl rfl Try.call15 (c_NewStringT f2 f3 lf2 lf3 (by exact (newOk_tun (digF xsu nu 0 256) (digF xsu nu 1 33) (by assumption) (by assumption) (by assumption) (by assumption)).1) (by exact (newOk_tun (digF xsu nu 0 256) (digF xsu nu 1 33) (by assumption) (by assumption) (by assumption) (by assumption)).2) w5)) rfl rfl (ltb rfl) ?_
  rintro _ w6 ⟨n'1, b'1, ta1, da1, rfl, h3, r1, ge1, m6⟩
  refine WL.det (op_move rfl) rfl rfl rfl ?_
  refine WL.det (op_extract rfl rfl) rfl rfl rfl ?_
  refine WL.det (op_extract rfl rfl) rfl rfl rfl ?_
  refine WL.op (op_alloc (cs := [.slice none 0 0, vI 0, vI 0, vF 0, vF 0, vF 0, vF 0, vF 0, vI 0, vF 0, vF 0, vF 0, vF 0, vF 0, vF 0]) Try.zeroValue33 rfl) rfl rfl (ltb rfl) ?_
  rintro _ w7 ⟨rfl, r2, m7, z1⟩
  refine WL.op0 (op_store (i := 0) (cs := [vS b'1 0 n'1 n'1, vI 0, vI 3, vF ta1, vF 0, vF 0, vF 0, vF 0, vI 2, vF da1, vF f3, vF 0, vF 0, vF 0, vF 1065353216]) rfl rfl rfl Try.sizeOf33 rfl r2 rfl (lB rfl) rfl) rfl rfl ?_
  rintro _ w8 ⟨r3, m8, z2⟩
  have r4 : Row w8 w6.heap.size 0 [vS b'1 0 n'1 n'1, vI 0, vI 3, vF ta1, vF 0, vF 0, vF 0, vF 0, vI 2, vF da1, vF f3, vF 0, vF 0, vF 0, vF 1065353216] := Row.congr r3 rfl
  refine WL.det (op_assign rfl) rfl rfl rfl ?_
  refine WL.end ?_
  refine NE.code ?_
  refine CE.seq ?_
  refine CE.region ?_
  refine WL.det (op_move rfl) rfl rfl rfl ?_
  refine WL.det (op_move rfl) rfl rfl rfl ?_
  refine WL.call (oc_call (vs := [vF f2, vF f3, vF 1065353216]) (cap := []) rfl rfl rfl Try.call51 (c_sNewStringT n'1 ta1 da1 f2 f3 lf2 lf3 (by exact (newOk_tun (digF xsu nu 0 256) (digF xsu nu 1 33) (by assumption) (by assumption) (by assumption) (by assumption)).1) (by exact (newOk_tun (digF xsu nu 0 256) (digF xsu nu 1 33) (by assumption) (by assumption) (by assumption) (by assumption)).2) (by assumption) w8)) rfl rfl (ltb rfl) ?_
  rintro _ w9 ⟨b'2, rfl, r5, ge2, m9⟩
  refine WL.det (op_move rfl) rfl rfl rfl ?_
  refine WL.det (op_extract rfl rfl) rfl rfl rfl ?_
  refine WL.det (op_extract rfl rfl) rfl rfl rfl ?_
  refine WL.op (op_alloc (cs := [.slice none 0 0, vI 0, vI 0, vF 0, vF 0, vF 0, vF 0, vF 0, vI 0, vF 0, vF 0, vF 0, vF 0, vF 0, vF 0]) Try.zeroValue33 rfl) rfl rfl (ltb rfl) ?_
  rintro _ w10 ⟨rfl, r6, m10, z3⟩
  refine WL.op0 (op_store (i := 0) (cs := [vS b'2 0 n'1 n'1, vI 0, vI 3, vF ta1, vF 0, vF 0, vF 0, vF 0, vI 2, vF da1, vF f3, vF 0, vF 0, vF 0, vF 1065353216]) rfl rfl rfl Try.sizeOf33 rfl r6 rfl (lB rfl) rfl) rfl rfl ?_
  rintro _ w11 ⟨r7, m11, z4⟩
  have r8 : Row w11 w9.heap.size 0 [vS b'2 0 n'1 n'1, vI 0, vI 3, vF ta1, vF 0, vF 0, vF 0, vF 0, vI 2, vF da1, vF f3, vF 0, vF 0, vF 0, vF 1065353216] := Row.congr r7 rfl
  refine WL.det (op_assign rfl) rfl rfl rfl ?_
  refine WL.end ?_
  refine NE.code ?_
  refine CE.seq ?_
  refine CE.region ?_
  refine WL.det (op_loadA (i := 0) (cs := [vS b'1 0 n'1 n'1, vI 0, vI 3, vF ta1, vF 0, vF 0, vF 0, vF 0, vI 2, vF da1, vF f3, vF 0, vF 0, vF 0, vF 1065353216]) rfl Try.isAgg33 Try.sizeOf33 (((r4.ext m9).ext m10).mod m11 (nC (lE (lL (lL r2.lt (lT m8.size m9.size)) lR)) nN)).rng rfl rfl rfl) rfl rfl rfl ?_
  refine WL.call (oc_call (vs := [.agg #[vS b'1 0 n'1 n'1, vI 0, vI 3, vF ta1, vF 0, vF 0, vF 0, vF 0, vI 2, vF da1, vF f3, vF 0, vF 0, vF 0, vF 1065353216]]) (cap := []) rfl rfl rfl Try.call52 (c_PeriodOf n'1 n'1 b'1 (List.replicate n'1 0) 0 (3 : Int) ta1 0 0 0 0 (2 : Int) da1 f3 0 0 0 1065353216 List.length_replicate (by first | omega | (have := (lawT_of (digF xsu nu 0 256) (digF xsu nu 1 33) (by assumption) (by assumption) (by assumption) (by assumption) (by assumption)).n34; omega)) (by first | assumption | exact new_valid (lawT_of (digF xsu nu 0 256) (digF xsu nu 1 33) (by assumption) (by assumption) (by assumption) (by assumption) (by assumption)).l) w11 (((((r1.ext m7).mod m8 (nC (lE (lL r1.lt lR)) nN)).ext m9).ext m10).mod m11 (nC (lE (lL (lL r1.lt (lT (lT m7.size m8.size) m9.size)) lR)) nN)).rng)) rfl rfl (ltb rfl) ?_
  rintro _ w12 ⟨r_1, rfl, h4, h5, m12⟩
  refine WL.det (op_move rfl) rfl rfl rfl ?_
  refine WL.det (op_extract rfl rfl) rfl rfl rfl ?_
  refine WL.det (op_extract rfl rfl) rfl rfl rfl ?_
  refine WL.det (op_assign rfl) rfl rfl rfl ?_
  refine WL.det (op_assign rfl) rfl rfl rfl ?_
  refine WL.end ?_
  refine NE.code ?_
  refine CE.seq ?_
  refine CE.region ?_
  refine WL.det (op_loadA (i := 0) (cs := [vS b'1 0 n'1 n'1, vI 0, vI 3, vF ta1, vF 0, vF 0, vF 0, vF 0, vI 2, vF da1, vF f3, vF 0, vF 0, vF 0, vF 1065353216]) rfl Try.isAgg33 Try.sizeOf33 ((((r4.ext m9).ext m10).mod m11 (nC (lE (lL (lL r2.lt (lT m8.size m9.size)) lR)) nN)).ext m12).rng rfl rfl rfl) rfl rfl rfl ?_
  refine WL.call (oc_call (vs := [.agg #[vS b'1 0 n'1 n'1, vI 0, vI 3, vF ta1, vF 0, vF 0, vF 0, vF 0, vI 2, vF da1, vF f3, vF 0, vF 0, vF 0, vF 1065353216]]) (cap := []) rfl rfl rfl Try.call24 (c_iSilentT n'1 n'1 b'1 ta1 da1 f3 (List.replicate n'1 0) (by first | exact hT.l | exact (lawT_of (digF xsu nu 0 256) (digF xsu nu 1 33) (by assumption) (by assumption) (by assumption) (by assumption) (by assumption)).l) (rfl) List.length_replicate w12 ((((((r1.ext m7).mod m8 (nC (lE (lL r1.lt lR)) nN)).ext m9).ext m10).mod m11 (nC (lE (lL (lL r1.lt (lT (lT m7.size m8.size) m9.size)) lR)) nN)).ext m12).rng)) rfl rfl (ltb rfl) ?_
  rintro _ w13 ⟨rfl, m13⟩
  refine WL.det (op_move rfl) rfl rfl rfl ?_
  refine WL.det (op_extract rfl rfl) rfl rfl rfl ?_
  refine WL.det (op_extract rfl rfl) rfl rfl rfl ?_
  refine WL.det (op_assign rfl) rfl rfl rfl ?_
  refine WL.det (op_assign rfl) rfl rfl rfl ?_
  refine WL.end ?_
  refine NE.code ?_
  refine CE.seq ?_
  refine CE.seq ?_
  refine CE.region ?_
  refine WL.det (op_move rfl) rfl rfl rfl ?_
  refine WL.det (op_move rfl) rfl rfl rfl ?_
  refine WL.det (op_nei rfl rfl) rfl rfl rfl ?_
  refine WL.det (op_move rfl) rfl rfl rfl ?_
  refine WL.yes rfl rfl rfl (ltb rfl) rfl rfl ?_
  refine WL.det (op_move rfl) rfl rfl rfl ?_
  refine WL.yes rfl rfl rfl (ltb rfl) rfl rfl ?_
  refine WL.det (op_nei rfl rfl) rfl rfl rfl ?_
  refine WL.det (op_pick_f rfl rfl rfl) rfl rfl rfl ?_
  refine WL.det (op_move rfl) rfl rfl rfl ?_
  refine WL.yes rfl rfl rfl (ltb rfl) rfl rfl ?_
  refine WL.det (op_loadA (i := 0) (cs := [vS b'1 0 n'1 n'1, vI 0, vI 3, vF ta1, vF 0, vF 0, vF 0, vF 0, vI 2, vF da1, vF f3, vF 0, vF 0, vF 0, vF 1065353216]) rfl Try.isAgg33 Try.sizeOf33 (((((r4.ext m9).ext m10).mod m11 (nC (lE (lL (lL r2.lt (lT m8.size m9.size)) lR)) nN)).ext m12).ext m13).rng rfl rfl rfl) rfl rfl rfl ?_
  refine WL.yes rfl rfl rfl (ltb rfl) rfl rfl ?_
  refine WL.det (op_loadA (i := 0) (cs := [vS b'2 0 n'1 n'1, vI 0, vI 3, vF ta1, vF 0, vF 0, vF 0, vF 0, vI 2, vF da1, vF f3, vF 0, vF 0, vF 0, vF 1065353216]) rfl Try.isAgg33 Try.sizeOf33 ((r8.ext m12).ext m13).rng rfl rfl rfl) rfl rfl rfl ?_
  refine WL.yes rfl rfl rfl (ltb rfl) rfl rfl ?_
  refine WL.call (oc_call (vs := [.agg #[vS b'1 0 n'1 n'1, vI 0, vI 3, vF ta1, vF 0, vF 0, vF 0, vF 0, vI 2, vF da1, vF f3, vF 0, vF 0, vF 0, vF 1065353216], .agg #[vS b'2 0 n'1 n'1, vI 0, vI 3, vF ta1, vF 0, vF 0, vF 0, vF 0, vI 2, vF da1, vF f3, vF 0, vF 0, vF 0, vF 1065353216]]) (cap := []) rfl rfl rfl Try.call20 (c_SameT n'1 n'1 b'1 ta1 da1 f3 (List.replicate n'1 0) n'1 b'2 (List.replicate n'1 0) (by first | exact hT.l | exact (lawT_of (digF xsu nu 0 256) (digF xsu nu 1 33) (by assumption) (by assumption) (by assumption) (by assumption) (by assumption)).l) List.length_replicate List.length_replicate (by first | with_reducible exact Cn.refl _ | assumption | exact Cn.eq2 (by assumption) (by assumption)) w13 (((((((r1.ext m7).mod m8 (nC (lE (lL r1.lt lR)) nN)).ext m9).ext m10).mod m11 (nC (lE (lL (lL r1.lt (lT (lT m7.size m8.size) m9.size)) lR)) nN)).ext m12).ext m13).rng ((((r5.ext m10).mod m11 (nC (lE (lL r5.lt lR)) nN)).ext m12).ext m13).rng)) rfl rfl (ltb rfl) ?_
  rintro _ w14 ⟨rfl, m14⟩
  refine WL.yes rfl rfl rfl (ltb rfl) rfl rfl ?_
  refine WL.det (op_not rfl) rfl rfl rfl ?_
  refine WL.det (op_pick_f rfl rfl rfl) rfl rfl rfl ?_
  refine WL.det (op_move rfl) rfl rfl rfl ?_
  refine WL.yes rfl rfl rfl (ltb rfl) rfl rfl ?_
  refine WL.det (op_move rfl) rfl rfl rfl ?_
  refine WL.yes rfl rfl rfl (ltb rfl) rfl rfl ?_
  refine WL.det (op_nei rfl rfl) rfl rfl rfl ?_
  refine WL.det (op_pick_f rfl rfl rfl) rfl rfl rfl ?_
  refine WL.det (op_move rfl) rfl rfl rfl ?_
  refine WL.yes rfl rfl rfl (ltb rfl) rfl rfl ?_
  refine WL.det (op_move rfl) rfl rfl rfl ?_
  refine WL.yes rfl rfl rfl (ltb rfl) rfl rfl ?_
  refine WL.det (op_move rfl) rfl rfl rfl ?_
  refine WL.yes rfl rfl rfl (ltb rfl) rfl rfl ?_
  refine WL.op (op_farith (e := (fop .sub .f32 (perF n'1 ta1 f3) (fop .add .f32 1077936128 (fop .quo .f32 (FloatKind.f32.nearest (((digF xsu nu 0 256) : Nat) : Int)) 1090519040)))) (.inr (.inl rfl)) rfl rfl h4 hf2 rfl) rfl rfl (ltb rfl) ?_
  rintro _ w15 ⟨⟨f4, rfl, hf4, lf4⟩, m15⟩
  refine WL.yes rfl rfl rfl (ltb rfl) rfl rfl ?_
  refine WL.det (op_fgt (c := fGt .f32 (fop .sub .f32 (perF n'1 ta1 f3) (fop .add .f32 1077936128 (fop .quo .f32 (FloatKind.f32.nearest (((digF xsu nu 0 256) : Nat) : Int)) 1090519040))) 981668463) rfl rfl hf4 rfl rfl) rfl rfl rfl ?_
  refine WL.det (op_pick_f rfl rfl rfl) rfl rfl rfl ?_
  refine WL.det (op_move rfl) rfl rfl rfl ?_
  refine WL.yes rfl rfl rfl (ltb rfl) rfl ((tun_near (digF xsu nu 0 256) (digF xsu nu 1 33) (by assumption) (by assumption) (by assumption) (by assumption) (by assumption))).1 ?_
  refine WL.det (op_move rfl) rfl rfl rfl ?_
  refine WL.yes rfl rfl rfl (ltb rfl) rfl ((tun_near (digF xsu nu 0 256) (digF xsu nu 1 33) (by assumption) (by assumption) (by assumption) (by assumption) (by assumption))).1 ?_
  refine WL.det (op_move rfl) rfl rfl rfl ?_
  refine WL.yes rfl rfl rfl (ltb rfl) rfl ((tun_near (digF xsu nu 0 256) (digF xsu nu 1 33) (by assumption) (by assumption) (by assumption) (by assumption) (by assumption))).1 ?_
  refine WL.op (op_farith (e := (fop .sub .f32 (perF n'1 ta1 f3) (fop .add .f32 1077936128 (fop .quo .f32 (FloatKind.f32.nearest (((digF xsu nu 0 256) : Nat) : Int)) 1090519040)))) (.inr (.inl rfl)) rfl rfl h4 hf2 rfl) rfl rfl (ltb rfl) ?_
  rintro _ w16 ⟨⟨f5, rfl, hf5, lf5⟩, m16⟩
  refine WL.yes rfl rfl rfl (ltb rfl) rfl ((tun_near (digF xsu nu 0 256) (digF xsu nu 1 33) (by assumption) (by assumption) (by assumption) (by assumption) (by assumption))).1 ?_
  refine WL.det (op_flt (c := fLt .f32 (fop .sub .f32 (perF n'1 ta1 f3) (fop .add .f32 1077936128 (fop .quo .f32 (FloatKind.f32.nearest (((digF xsu nu 0 256) : Nat) : Int)) 1090519040))) 3129152111) rfl rfl hf5 rfl rfl) rfl rfl rfl ?_
  refine WL.det (op_pick_f rfl ((tun_near (digF xsu nu 0 256) (digF xsu nu 1 33) (by assumption) (by assumption) (by assumption) (by assumption) (by assumption))).1 rfl) rfl rfl rfl ?_
  refine WL.det (op_move rfl) rfl rfl rfl ?_
  refine WL.yes rfl rfl rfl (ltb rfl) rfl ((tun_near (digF xsu nu 0 256) (digF xsu nu 1 33) (by assumption) (by assumption) (by assumption) (by assumption) (by assumption))).2 ?_
  refine WL.det (op_move rfl) rfl rfl rfl ?_
  refine WL.yes rfl rfl rfl (ltb rfl) rfl ((tun_near (digF xsu nu 0 256) (digF xsu nu 1 33) (by assumption) (by assumption) (by assumption) (by assumption) (by assumption))).2 ?_
  refine WL.det (op_nei rfl rfl) rfl rfl rfl ?_
  refine WL.det (op_pick_f rfl ((tun_near (digF xsu nu 0 256) (digF xsu nu 1 33) (by assumption) (by assumption) (by assumption) (by assumption) (by assumption))).2 rfl) rfl rfl rfl ?_
  refine WL.det (op_move rfl) rfl rfl rfl ?_
  refine WL.yes rfl rfl rfl (ltb rfl) rfl rfl ?_
  refine WL.det (op_move rfl) rfl rfl rfl ?_
  refine WL.yes rfl rfl rfl (ltb rfl) rfl rfl ?_
  refine WL.det (op_not rfl) rfl rfl rfl ?_
  refine WL.det (op_pick_f rfl rfl rfl) rfl rfl rfl ?_
  refine WL.end ?_
  refine NE.code ?_
  refine CE.cond_f rfl rfl ?_
  refine CE.skip' ?_
  refine NE.code ?_
  refine CE.seq ?_
  refine CE.region ?_
  refine WL.det (op_move rfl) rfl rfl rfl ?_
  refine WL.call (oc_call (vs := [.slice Av nv cv, vI 0, vI 16]) (cap := []) rfl rfl rfl Try.call16 (c_A2DigitX nv cv Av bv ov xsv 0 16 lnv hAv hBv (by omega) (by omega) w16 ((((((Rng.youngS rv (((Rng.youngS rv (((((((rv.ext m1).ext m2).ext m3).ext m4).ext m5).ext m6).ext m7) m8 (allge_cons (lT (lT (lT (lT (lT (lT m1.size m2.size) m3.size) m4.size) m5.size) m6.size) lR) allge_nil)).ext m9).ext m10) m11 (allge_cons (lT (lT (lT (lT (lT (lT (lT (lT (lT m1.size m2.size) m3.size) m4.size) m5.size) m6.size) m7.size) m8.size) m9.size) lR) allge_nil)).ext m12).ext m13).ext m14).ext m15).ext m16))) rfl rfl (ltb rfl) ?_
  rintro _ w17 ⟨rfl, h6, m17⟩
  refine WL.det (op_cvt_if rfl Try.runUnderlying2 Try.runUnderlying27) rfl rfl rfl ?_
  refine WL.op (op_farith (e := (fop .quo .f32 (FloatKind.f32.nearest (((digF xsv nv 0 16) : Nat) : Int)) 1098907648)) (.inr (.inr (.inr rfl))) rfl rfl rfl rfl rfl) rfl rfl (ltb rfl) ?_
  rintro _ w18 ⟨⟨f6, rfl, hf6, lf6⟩, m18⟩
  refine WL.det (op_assign rfl) rfl rfl rfl ?_
  refine WL.end ?_
  refine NE.code ?_
  refine CE.seq ?_
  refine CE.region ?_
  refine WL.det (op_loadA (i := 0) (cs := [vS b'1 0 n'1 n'1, vI 0, vI 3, vF ta1, vF 0, vF 0, vF 0, vF 0, vI 2, vF da1, vF f3, vF 0, vF 0, vF 0, vF 1065353216]) rfl Try.isAgg33 Try.sizeOf33 ((((((((((r4.ext m9).ext m10).mod m11 (nC (lE (lL (lL r2.lt (lT m8.size m9.size)) lR)) nN)).ext m12).ext m13).ext m14).ext m15).ext m16).ext m17).ext m18).rng rfl rfl rfl) rfl rfl rfl ?_
  refine WL.det (op_move rfl) rfl rfl rfl ?_
  refine WL.call (oc_call (vs := [.agg #[vS b'1 0 n'1 n'1, vI 0, vI 3, vF ta1, vF 0, vF 0, vF 0, vF 0, vI 2, vF da1, vF f3, vF 0, vF 0, vF 0, vF 1065353216], vF f6, vF 1056964608]) (cap := []) rfl rfl rfl Try.call31 (c_iPluckT n'1 n'1 b'1 ta1 da1 f3 (List.replicate n'1 0) f6 1056964608 (by first | exact hT.l | exact (lawT_of (digF xsu nu 0 256) (digF xsu nu 1 33) (by assumption) (by assumption) (by assumption) (by assumption) (by assumption)).l) List.length_replicate (W32.zeros _) lf6 (by decide +kernel) (by first | assumption | exact hP9 | exact place9 (k := digF xsv nv 0 16) (by assumption) (by assumption)) (by decide +kernel) w18 ((((((((((((r1.ext m7).mod m8 (nC (lE (lL r1.lt lR)) nN)).ext m9).ext m10).mod m11 (nC (lE (lL (lL r1.lt (lT (lT m7.size m8.size) m9.size)) lR)) nN)).ext m12).ext m13).ext m14).ext m15).ext m16).ext m17).ext m18).rng)) rfl rfl (ltb rfl) ?_
  rintro _ w19 ⟨b'3, c'1, zs1, rfl, h7, h8, h9, r9, ge3, m19⟩
  refine WL.det (op_move rfl) rfl rfl rfl ?_
  refine WL.det (op_extract rfl rfl) rfl rfl rfl ?_
  refine WL.det (op_extract rfl rfl) rfl rfl rfl ?_
  refine WL.op (op_alloc (cs := [.slice none 0 0, vI 0, vI 0, vF 0, vF 0, vF 0, vF 0, vF 0, vI 0, vF 0, vF 0, vF 0, vF 0, vF 0, vF 0]) Try.zeroValue33 rfl) rfl rfl (ltb rfl) ?_
  rintro _ w20 ⟨rfl, r10, m20, z5⟩
  refine WL.op0 (op_store (i := 0) (cs := [vS b'3 0 n'1 c'1, vI 0, vI 3, vF ta1, vF 0, vF 0, vF 0, vF 0, vI 2, vF da1, vF f3, vF 0, vF 0, vF 0, vF 1065353216]) rfl rfl rfl Try.sizeOf33 rfl r10 rfl (lB rfl) rfl) rfl rfl ?_
  rintro _ w21 ⟨r11, m21, z6⟩
  have r12 : Row w21 w19.heap.size 0 [vS b'3 0 n'1 c'1, vI 0, vI 3, vF ta1, vF 0, vF 0, vF 0, vF 0, vI 2, vF da1, vF f3, vF 0, vF 0, vF 0, vF 1065353216] := Row.congr r11 rfl
  refine WL.det (op_assign rfl) rfl rfl rfl ?_
  refine WL.end ?_
  refine NE.code ?_
  refine CE.seq ?_
  refine CE.region ?_
  refine WL.det (op_loadA (i := 0) (cs := [vS b'3 0 n'1 c'1, vI 0, vI 3, vF ta1, vF 0, vF 0, vF 0, vF 0, vI 2, vF da1, vF f3, vF 0, vF 0, vF 0, vF 1065353216]) rfl Try.isAgg33 Try.sizeOf33 r12.rng rfl rfl rfl) rfl rfl rfl ?_
  refine WL.det (op_move rfl) rfl rfl rfl ?_
  refine WL.call (oc_call (vs := [.agg #[vS b'3 0 n'1 c'1, vI 0, vI 3, vF ta1, vF 0, vF 0, vF 0, vF 0, vI 2, vF da1, vF f3, vF 0, vF 0, vF 0, vF 1065353216], vF f6, vF 3204448256]) (cap := []) rfl rfl rfl Try.call31 (c_iPluckT n'1 c'1 b'3 ta1 da1 f3 zs1 f6 3204448256 (by first | exact hT.l | exact (lawT_of (digF xsu nu 0 256) (digF xsu nu 1 33) (by assumption) (by assumption) (by assumption) (by assumption) (by assumption)).l) h7 h8 lf6 (by decide +kernel) (by first | assumption | exact hP9 | exact place9 (k := digF xsv nv 0 16) (by assumption) (by assumption)) (by decide +kernel) w21 ((r9.ext m20).mod m21 (nC (lE (lL r9.lt lR)) nN)).rng)) rfl rfl (ltb rfl) ?_
  rintro _ w22 ⟨b'4, c'2, zs2, rfl, h10, h11, h12, r13, ge4, m22⟩
  refine WL.det (op_move rfl) rfl rfl rfl ?_
  refine WL.det (op_extract rfl rfl) rfl rfl rfl ?_
  refine WL.det (op_extract rfl rfl) rfl rfl rfl ?_
  refine WL.op (op_alloc (cs := [.slice none 0 0, vI 0, vI 0, vF 0, vF 0, vF 0, vF 0, vF 0, vI 0, vF 0, vF 0, vF 0, vF 0, vF 0, vF 0]) Try.zeroValue33 rfl) rfl rfl (ltb rfl) ?_
  rintro _ w23 ⟨rfl, r14, m23, z7⟩
  refine WL.op0 (op_store (i := 0) (cs := [vS b'4 0 n'1 c'2, vI 0, vI 3, vF ta1, vF 0, vF 0, vF 0, vF 0, vI 2, vF da1, vF f3, vF 0, vF 0, vF 0, vF 1065353216]) rfl rfl rfl Try.sizeOf33 rfl r14 rfl (lB rfl) rfl) rfl rfl ?_
  rintro _ w24 ⟨r15, m24, z8⟩
  have r16 : Row w24 w22.heap.size 0 [vS b'4 0 n'1 c'2, vI 0, vI 3, vF ta1, vF 0, vF 0, vF 0, vF 0, vI 2, vF da1, vF f3, vF 0, vF 0, vF 0, vF 1065353216] := Row.congr r15 rfl
  refine WL.det (op_assign rfl) rfl rfl rfl ?_
  refine WL.end ?_
  refine NE.code ?_
  refine CE.seq ?_
  refine CE.region ?_
  refine WL.det (op_loadA (i := 0) (cs := [vS b'1 0 n'1 n'1, vI 0, vI 3, vF ta1, vF 0, vF 0, vF 0, vF 0, vI 2, vF da1, vF f3, vF 0, vF 0, vF 0, vF 1065353216]) rfl Try.isAgg33 Try.sizeOf33 ((((((((((((((((r4.ext m9).ext m10).mod m11 (nC (lE (lL (lL r2.lt (lT m8.size m9.size)) lR)) nN)).ext m12).ext m13).ext m14).ext m15).ext m16).ext m17).ext m18).ext m19).ext m20).mod m21 (nC (lE (lL (lL r2.lt (lT (lT (lT (lT (lT (lT (lT (lT (lT (lT (lT m8.size m9.size) m10.size) m11.size) m12.size) m13.size) m14.size) m15.size) m16.size) m17.size) m18.size) m19.size)) lR)) nN)).ext m22).ext m23).mod m24 (nC (lE (lL (lL r2.lt (lT (lT (lT (lT (lT (lT (lT (lT (lT (lT (lT (lT (lT (lT m8.size m9.size) m10.size) m11.size) m12.size) m13.size) m14.size) m15.size) m16.size) m17.size) m18.size) m19.size) m20.size) m21.size) m22.size)) lR)) nN)).rng rfl rfl rfl) rfl rfl rfl ?_
  refine WL.det (op_move rfl) rfl rfl rfl ?_
  refine WL.op (op_buildSl (qs := [(0, vF 1048576000)]) (cells := #[vF 1048576000]) rfl Try.runUnderlying24 Try.sizeOf27 Try.zeroValue27 (by decide) (by decide) (by kernel_rfl)) rfl rfl (ltb rfl) ?_
  rintro _ w25 ⟨rfl, r17, m25, z9⟩
  refine WL.call (oc_call (vs := [.agg #[vS b'1 0 n'1 n'1, vI 0, vI 3, vF ta1, vF 0, vF 0, vF 0, vF 0, vI 2, vF da1, vF f3, vF 0, vF 0, vF 0, vF 1065353216], vF f6, vS w24.heap.size 0 1 1]) (cap := []) rfl rfl rfl Try.call42 (c_iStrikeT n'1 n'1 b'1 ta1 da1 f3 (List.replicate n'1 0) f6 1 w24.heap.size (by first | exact hT.l | exact (lawT_of (digF xsu nu 0 256) (digF xsu nu 1 33) (by assumption) (by assumption) (by assumption) (by assumption) (by assumption)).l) List.length_replicate (W32.zeros _) lf6 (by first | assumption | exact hP9 | exact place9 (k := digF xsv nv 0 16) (by assumption) (by assumption)) w25 (((((((((((((((((((r1.ext m7).mod m8 (nC (lE (lL r1.lt lR)) nN)).ext m9).ext m10).mod m11 (nC (lE (lL (lL r1.lt (lT (lT m7.size m8.size) m9.size)) lR)) nN)).ext m12).ext m13).ext m14).ext m15).ext m16).ext m17).ext m18).ext m19).ext m20).mod m21 (nC (lE (lL (lL r1.lt (lT (lT (lT (lT (lT (lT (lT (lT (lT (lT (lT (lT m7.size m8.size) m9.size) m10.size) m11.size) m12.size) m13.size) m14.size) m15.size) m16.size) m17.size) m18.size) m19.size)) lR)) nN)).ext m22).ext m23).mod m24 (nC (lE (lL (lL r1.lt (lT (lT (lT (lT (lT (lT (lT (lT (lT (lT (lT (lT (lT (lT (lT m7.size m8.size) m9.size) m10.size) m11.size) m12.size) m13.size) m14.size) m15.size) m16.size) m17.size) m18.size) m19.size) m20.size) m21.size) m22.size)) lR)) nN)).ext m25).rng r17.rng)) rfl rfl (ltb rfl) ?_
  rintro _ w26 ⟨b'5, c'3, zs3, rfl, h13, h14, h15, r18, ge5, m26⟩
  refine WL.det (op_move rfl) rfl rfl rfl ?_
  refine WL.det (op_extract rfl rfl) rfl rfl rfl ?_
  refine WL.det (op_extract rfl rfl) rfl rfl rfl ?_
  refine WL.op (op_alloc (cs := [.slice none 0 0, vI 0, vI 0, vF 0, vF 0, vF 0, vF 0, vF 0, vI 0, vF 0, vF 0, vF 0, vF 0, vF 0, vF 0]) Try.zeroValue33 rfl) rfl rfl (ltb rfl) ?_
  rintro _ w27 ⟨rfl, r19, m27, z10⟩
  refine WL.op0 (op_store (i := 0) (cs := [vS b'5 0 n'1 c'3, vI 0, vI 3, vF ta1, vF 0, vF 0, vF 0, vF 0, vI 2, vF da1, vF f3, vF 0, vF 0, vF 0, vF 1065353216]) rfl rfl rfl Try.sizeOf33 rfl r19 rfl (lB rfl) rfl) rfl rfl ?_
  rintro _ w28 ⟨r20, m28, z11⟩
  have r21 : Row w28 w26.heap.size 0 [vS b'5 0 n'1 c'3, vI 0, vI 3, vF ta1, vF 0, vF 0, vF 0, vF 0, vI 2, vF da1, vF f3, vF 0, vF 0, vF 0, vF 1065353216] := Row.congr r20 rfl
  refine WL.det (op_assign rfl) rfl rfl rfl ?_
  refine WL.end ?_
  refine NE.code ?_
  refine CE.seq ?_
  refine CE.region ?_
  refine WL.det (op_loadA (i := 0) (cs := [vS b'1 0 n'1 n'1, vI 0, vI 3, vF ta1, vF 0, vF 0, vF 0, vF 0, vI 2, vF da1, vF f3, vF 0, vF 0, vF 0, vF 1065353216]) rfl Try.isAgg33 Try.sizeOf33 ((((((((((((((((((((r4.ext m9).ext m10).mod m11 (nC (lE (lL (lL r2.lt (lT m8.size m9.size)) lR)) nN)).ext m12).ext m13).ext m14).ext m15).ext m16).ext m17).ext m18).ext m19).ext m20).mod m21 (nC (lE (lL (lL r2.lt (lT (lT (lT (lT (lT (lT (lT (lT (lT (lT (lT m8.size m9.size) m10.size) m11.size) m12.size) m13.size) m14.size) m15.size) m16.size) m17.size) m18.size) m19.size)) lR)) nN)).ext m22).ext m23).mod m24 (nC (lE (lL (lL r2.lt (lT (lT (lT (lT (lT (lT (lT (lT (lT (lT (lT (lT (lT (lT m8.size m9.size) m10.size) m11.size) m12.size) m13.size) m14.size) m15.size) m16.size) m17.size) m18.size) m19.size) m20.size) m21.size) m22.size)) lR)) nN)).ext m25).ext m26).ext m27).mod m28 (nC (lE (lL (lL r2.lt (lT (lT (lT (lT (lT (lT (lT (lT (lT (lT (lT (lT (lT (lT (lT (lT (lT (lT m8.size m9.size) m10.size) m11.size) m12.size) m13.size) m14.size) m15.size) m16.size) m17.size) m18.size) m19.size) m20.size) m21.size) m22.size) m23.size) m24.size) m25.size) m26.size)) lR)) nN)).rng rfl rfl rfl) rfl rfl rfl ?_
  refine WL.det (op_move rfl) rfl rfl rfl ?_
  refine WL.op (op_buildSl (qs := [(0, vF 1048576000)]) (cells := #[vF 1048576000]) rfl Try.runUnderlying24 Try.sizeOf27 Try.zeroValue27 (by decide) (by decide) (by kernel_rfl)) rfl rfl (ltb rfl) ?_
  rintro _ w29 ⟨rfl, r22, m29, z12⟩
  refine WL.call (oc_call (vs := [.agg #[vS b'1 0 n'1 n'1, vI 0, vI 3, vF ta1, vF 0, vF 0, vF 0, vF 0, vI 2, vF da1, vF f3, vF 0, vF 0, vF 0, vF 1065353216], vF f6, vS w28.heap.size 0 1 1]) (cap := []) rfl rfl rfl Try.call40 (c_sStrikeT n'1 n'1 b'1 ta1 da1 f3 (List.replicate n'1 0) f6 1 w28.heap.size (by first | exact hT.l | exact (lawT_of (digF xsu nu 0 256) (digF xsu nu 1 33) (by assumption) (by assumption) (by assumption) (by assumption) (by assumption)).l) List.length_replicate (W32.zeros _) lf6 (by first | assumption | exact hP9 | exact place9 (k := digF xsv nv 0 16) (by assumption) (by assumption)) w29 (((((((((((((((((((((((r1.ext m7).mod m8 (nC (lE (lL r1.lt lR)) nN)).ext m9).ext m10).mod m11 (nC (lE (lL (lL r1.lt (lT (lT m7.size m8.size) m9.size)) lR)) nN)).ext m12).ext m13).ext m14).ext m15).ext m16).ext m17).ext m18).ext m19).ext m20).mod m21 (nC (lE (lL (lL r1.lt (lT (lT (lT (lT (lT (lT (lT (lT (lT (lT (lT (lT m7.size m8.size) m9.size) m10.size) m11.size) m12.size) m13.size) m14.size) m15.size) m16.size) m17.size) m18.size) m19.size)) lR)) nN)).ext m22).ext m23).mod m24 (nC (lE (lL (lL r1.lt (lT (lT (lT (lT (lT (lT (lT (lT (lT (lT (lT (lT (lT (lT (lT m7.size m8.size) m9.size) m10.size) m11.size) m12.size) m13.size) m14.size) m15.size) m16.size) m17.size) m18.size) m19.size) m20.size) m21.size) m22.size)) lR)) nN)).ext m25).ext m26).ext m27).mod m28 (nC (lE (lL (lL r1.lt (lT (lT (lT (lT (lT (lT (lT (lT (lT (lT (lT (lT (lT (lT (lT (lT (lT (lT (lT m7.size m8.size) m9.size) m10.size) m11.size) m12.size) m13.size) m14.size) m15.size) m16.size) m17.size) m18.size) m19.size) m20.size) m21.size) m22.size) m23.size) m24.size) m25.size) m26.size)) lR)) nN)).ext m29).rng r22.rng)) rfl rfl (ltb rfl) ?_
  rintro _ w30 ⟨b'6, c'4, zs4, rfl, h16, h17, h18, r23, ge6, m30⟩
  refine WL.det (op_move rfl) rfl rfl rfl ?_
  refine WL.det (op_extract rfl rfl) rfl rfl rfl ?_
  refine WL.det (op_extract rfl rfl) rfl rfl rfl ?_
  refine WL.op (op_alloc (cs := [.slice none 0 0, vI 0, vI 0, vF 0, vF 0, vF 0, vF 0, vF 0, vI 0, vF 0, vF 0, vF 0, vF 0, vF 0, vF 0]) Try.zeroValue33 rfl) rfl rfl (ltb rfl) ?_
  rintro _ w31 ⟨rfl, r24, m31, z13⟩
  refine WL.op0 (op_store (i := 0) (cs := [vS b'6 0 n'1 c'4, vI 0, vI 3, vF ta1, vF 0, vF 0, vF 0, vF 0, vI 2, vF da1, vF f3, vF 0, vF 0, vF 0, vF 1065353216]) rfl rfl rfl Try.sizeOf33 rfl r24 rfl (lB rfl) rfl) rfl rfl ?_
  rintro _ w32 ⟨r25, m32, z14⟩
  have r26 : Row w32 w30.heap.size 0 [vS b'6 0 n'1 c'4, vI 0, vI 3, vF ta1, vF 0, vF 0, vF 0, vF 0, vI 2, vF da1, vF f3, vF 0, vF 0, vF 0, vF 1065353216] := Row.congr r25 rfl
  refine WL.det (op_assign rfl) rfl rfl rfl ?_
  refine WL.end ?_
  refine NE.code ?_
  refine CE.seq ?_
  refine CE.seq ?_
  refine CE.region ?_
  refine WL.det (op_move rfl) rfl rfl rfl ?_
  refine WL.det (op_nei rfl rfl) rfl rfl rfl ?_
  refine WL.det (op_move rfl) rfl rfl rfl ?_
  refine WL.yes rfl rfl rfl (ltb rfl) rfl rfl ?_
  refine WL.det (op_move rfl) rfl rfl rfl ?_
  refine WL.yes rfl rfl rfl (ltb rfl) rfl rfl ?_
  refine WL.det (op_nei rfl rfl) rfl rfl rfl ?_
  refine WL.det (op_pick_f rfl rfl rfl) rfl rfl rfl ?_
  refine WL.det (op_move rfl) rfl rfl rfl ?_
  refine WL.yes rfl rfl rfl (ltb rfl) rfl rfl ?_
  refine WL.det (op_move rfl) rfl rfl rfl ?_
  refine WL.yes rfl rfl rfl (ltb rfl) rfl rfl ?_
  refine WL.det (op_move rfl) rfl rfl rfl ?_
  refine WL.yes rfl rfl rfl (ltb rfl) rfl rfl ?_
  refine WL.det (op_nei rfl rfl) rfl rfl rfl ?_
  refine WL.det (op_pick_f rfl rfl rfl) rfl rfl rfl ?_
  refine WL.det (op_move rfl) rfl rfl rfl ?_
  refine WL.yes rfl rfl rfl (ltb rfl) rfl rfl ?_
  refine WL.det (op_move rfl) rfl rfl rfl ?_
  refine WL.yes rfl rfl rfl (ltb rfl) rfl rfl ?_
  refine WL.det (op_nei rfl rfl) rfl rfl rfl ?_
  refine WL.det (op_pick_f rfl rfl rfl) rfl rfl rfl ?_
  refine WL.det (op_move rfl) rfl rfl rfl ?_
  refine WL.yes rfl rfl rfl (ltb rfl) rfl rfl ?_
  refine WL.det (op_loadA (i := 0) (cs := [vS b'5 0 n'1 c'3, vI 0, vI 3, vF ta1, vF 0, vF 0, vF 0, vF 0, vI 2, vF da1, vF f3, vF 0, vF 0, vF 0, vF 1065353216]) rfl Try.isAgg33 Try.sizeOf33 ((((r21.ext m29).ext m30).ext m31).mod m32 (nC (lE (lL (lL r19.lt (lT (lT m28.size m29.size) m30.size)) lR)) nN)).rng rfl rfl rfl) rfl rfl rfl ?_
  refine WL.yes rfl rfl rfl (ltb rfl) rfl rfl ?_
  refine WL.det (op_loadA (i := 0) (cs := [vS b'6 0 n'1 c'4, vI 0, vI 3, vF ta1, vF 0, vF 0, vF 0, vF 0, vI 2, vF da1, vF f3, vF 0, vF 0, vF 0, vF 1065353216]) rfl Try.isAgg33 Try.sizeOf33 r26.rng rfl rfl rfl) rfl rfl rfl ?_
  refine WL.yes rfl rfl rfl (ltb rfl) rfl rfl ?_
  refine WL.call (oc_call (vs := [.agg #[vS b'5 0 n'1 c'3, vI 0, vI 3, vF ta1, vF 0, vF 0, vF 0, vF 0, vI 2, vF da1, vF f3, vF 0, vF 0, vF 0, vF 1065353216], .agg #[vS b'6 0 n'1 c'4, vI 0, vI 3, vF ta1, vF 0, vF 0, vF 0, vF 0, vI 2, vF da1, vF f3, vF 0, vF 0, vF 0, vF 1065353216]]) (cap := []) rfl rfl rfl Try.call20 (c_SameT n'1 c'3 b'5 ta1 da1 f3 zs3 c'4 b'6 zs4 (by first | exact hT.l | exact (lawT_of (digF xsu nu 0 256) (digF xsu nu 1 33) (by assumption) (by assumption) (by assumption) (by assumption) (by assumption)).l) h13 h16 (by first | with_reducible exact Cn.refl _ | assumption | exact Cn.eq2 (by assumption) (by assumption)) w32 ((((((r18.ext m27).mod m28 (nC (lE (lL r18.lt lR)) nN)).ext m29).ext m30).ext m31).mod m32 (nC (lE (lL (lL r18.lt (lT (lT (lT m27.size m28.size) m29.size) m30.size)) lR)) nN)).rng ((r23.ext m31).mod m32 (nC (lE (lL r23.lt lR)) nN)).rng)) rfl rfl (ltb rfl) ?_
  rintro _ w33 ⟨rfl, m33⟩
  refine WL.yes rfl rfl rfl (ltb rfl) rfl rfl ?_
  refine WL.det (op_not rfl) rfl rfl rfl ?_
  refine WL.det (op_pick_f rfl rfl rfl) rfl rfl rfl ?_
  refine WL.end ?_
  refine NE.code ?_
  refine CE.cond_f rfl rfl ?_
  refine CE.skip' ?_
  refine NE.code ?_
  refine CE.seq ?_
  refine CE.region ?_
  refine WL.det (op_assign rfl) rfl rfl rfl ?_
  refine WL.end ?_
  refine NE.code ?_
  refine CE.seq ?_
  refine CE.seq ?_
  refine CE.region ?_
  refine WL.det (op_fieldAddr (off' := 0) rfl Try.runUnderlying33 rfl rfl Try.sizeOf26 rfl) rfl rfl rfl ?_
  refine WL.det (op_fieldAddr (off' := 0) rfl Try.runUnderlying26 rfl rfl Try.sizeOf24 rfl) rfl rfl rfl ?_
  refine WL.det (op_load1 (i := 0) rfl Try.isAgg24 ((((((((((((r12.ext m22).ext m23).mod m24 (nC (lE (lL (lL r10.lt (lT m21.size m22.size)) lR)) nN)).ext m25).ext m26).ext m27).mod m28 (nC (lE (lL (lL r10.lt (lT (lT (lT (lT (lT m21.size m22.size) m23.size) m24.size) m25.size) m26.size)) lR)) nN)).ext m29).ext m30).ext m31).mod m32 (nC (lE (lL (lL r10.lt (lT (lT (lT (lT (lT (lT (lT (lT (lT m21.size m22.size) m23.size) m24.size) m25.size) m26.size) m27.size) m28.size) m29.size) m30.size)) lR)) nN)).ext m33).rng rfl rfl) rfl rfl rfl ?_
  refine WL.det (op_len rfl Try.runUnderlying24) rfl rfl rfl ?_
  refine WL.det (op_fieldAddr (off' := 0) rfl Try.runUnderlying33 rfl rfl Try.sizeOf26 rfl) rfl rfl rfl ?_
  refine WL.det (op_fieldAddr (off' := 0) rfl Try.runUnderlying26 rfl rfl Try.sizeOf24 rfl) rfl rfl rfl ?_
  refine WL.det (op_load1 (i := 0) rfl Try.isAgg24 (((((((((r16.ext m25).ext m26).ext m27).mod m28 (nC (lE (lL (lL r14.lt (lT (lT m24.size m25.size) m26.size)) lR)) nN)).ext m29).ext m30).ext m31).mod m32 (nC (lE (lL (lL r14.lt (lT (lT (lT (lT (lT (lT m24.size m25.size) m26.size) m27.size) m28.size) m29.size) m30.size)) lR)) nN)).ext m33).rng rfl rfl) rfl rfl rfl ?_
  refine WL.det (op_len rfl Try.runUnderlying24) rfl rfl rfl ?_
  refine WL.det (op_nei_f rfl rfl rfl) rfl rfl rfl ?_
  refine WL.end ?_
  refine NE.code ?_
  refine CE.cond_f rfl rfl ?_
  refine CE.skip' ?_
  refine NE.code ?_
  refine CE.seq ?_
  refine CE.seq ?_
  refine CE.region ?_
  refine WL.det (op_assign rfl) rfl rfl rfl ?_
  refine WL.end ?_
  refine NE.code ?_
  have hT := (lawT_of (digF xsu nu 0 256) (digF xsu nu 1 33) (by assumption) (by assumption) (by assumption) (by assumption) (by assumption))
  have hn9 := hT.n34
  have hd9 : digF xsv nv 0 16 < 16 := by assumption
  have hpl : f6 = plW (digF xsv nv 0 16) := plW_of hd9 (by assumption)
  have hfr : (posF (fop .mul .f32 f6 (FloatKind.f32.nearest ((n'1 : Nat) : Int)))) < n'1 := by rw [hpl]; exact strike_pos hT.n2 hT.n34 hd9
  have hPk := plucked hT.n2 hT.n34 hd9 hpl (by assumption) (by assumption) (by assumption)
  have hSt : Cn zs3 (chg (strikeF [1048576000] 1 (posF (fop .mul .f32 f6 (FloatKind.f32.nearest ((n'1 : Nat) : Int))))) n'1 0 (List.replicate n'1 0) n'1) := by assumption
  refine CE.block ?_
  refine CE.loop (fun (z : Nat × Nat) => [(25, vI ((z.1 : Nat) : Int)), (24, vF z.2), (4, .bool false), (7, vP w6.heap.size 0), (16, vP w19.heap.size 0), (18, vP w22.heap.size 0), (20, vP w26.heap.size 0)]) (fun (z : Nat × Nat) => fun W => (z.1 ≤ n'1) ∧ (cn .f32 z.2 = cn .f32 (sumS (posF (fop .mul .f32 f6 (FloatKind.f32.nearest ((n'1 : Nat) : Int)))) z.1)) ∧ Mod [] w33 W) (fun (z : Nat × Nat) => n'1 - z.1) (0, 0) (⟨rfl, rfl, rfl, rfl, rfl, rfl, rfl, trivial⟩) ⟨(by omega), (by (unfold sumS; rw [if_pos (Nat.zero_le _)])), Mod.refl _ _⟩ ?_
  rintro ⟨i, sw⟩ w34 ⟨hi, hs, m34⟩
  replace hi : i ≤ n'1 := hi
  replace hs : cn .f32 sw = cn .f32 (sumS (posF (fop .mul .f32 f6 (FloatKind.f32.nearest ((n'1 : Nat) : Int)))) i) := hs
  show CE _ _ _ _ [(25, vI ((i : Nat) : Int)), (24, vF sw), (4, .bool false), (7, vP w6.heap.size 0), (16, vP w19.heap.size 0), (18, vP w22.heap.size 0), (20, vP w26.heap.size 0)] _
  refine CE.seq ?_
  refine CE.seq ?_
  refine CE.region ?_
  refine WL.det (op_move rfl) rfl rfl rfl ?_
  refine WL.det (op_fieldAddr (off' := 0) rfl Try.runUnderlying33 rfl rfl Try.sizeOf26 rfl) rfl rfl rfl ?_
  refine WL.det (op_fieldAddr (off' := 0) rfl Try.runUnderlying26 rfl rfl Try.sizeOf24 rfl) rfl rfl rfl ?_
  refine WL.det (op_load1 (i := 0) rfl Try.isAgg24 ((((((((((r16.ext m25).ext m26).ext m27).mod m28 (nC (lE (lL (lL r14.lt (lT (lT m24.size m25.size) m26.size)) lR)) nN)).ext m29).ext m30).ext m31).mod m32 (nC (lE (lL (lL r14.lt (lT (lT (lT (lT (lT (lT m24.size m25.size) m26.size) m27.size) m28.size) m29.size) m30.size)) lR)) nN)).ext m33).ext m34).rng rfl rfl) rfl rfl rfl ?_
  refine WL.det (op_len rfl Try.runUnderlying24) rfl rfl rfl ?_
  refine WL.det (op_lti rfl rfl) rfl rfl rfl ?_
  refine WL.end ?_
  refine NE.code ?_
  rcases Bool.eq_false_or_eq_true (decide (((i : Nat) : Int) < ((n'1 : Nat) : Int))) with hb1 | hb1
  · have hp1 := of_decide_eq_true hb1
    refine CE.cond_t rfl hb1 ?_
    refine CE.skip' ?_
    refine NE.code ?_
    refine CE.seq ?_
    refine CE.block ?_
    refine CE.seq ?_
    refine CE.seq ?_
    refine CE.region ?_
    refine WL.det (op_fieldAddr (off' := 0) rfl Try.runUnderlying33 rfl rfl Try.sizeOf26 rfl) rfl rfl rfl ?_
    refine WL.det (op_fieldAddr (off' := 0) rfl Try.runUnderlying26 rfl rfl Try.sizeOf24 rfl) rfl rfl rfl ?_
    refine WL.det (op_load1 (i := 0) rfl Try.isAgg24 ((((((((((r16.ext m25).ext m26).ext m27).mod m28 (nC (lE (lL (lL r14.lt (lT (lT m24.size m25.size) m26.size)) lR)) nN)).ext m29).ext m30).ext m31).mod m32 (nC (lE (lL (lL r14.lt (lT (lT (lT (lT (lT (lT m24.size m25.size) m26.size) m27.size) m28.size) m29.size) m30.size)) lR)) nN)).ext m33).ext m34).rng rfl rfl) rfl rfl rfl ?_
    refine WL.det (op_move rfl) rfl rfl rfl ?_
    refine WL.det (op_indexSl (off' := 0 + i) rfl rfl rfl Try.runUnderlying24 Try.sizeOf27 (by omega) (by omega) (by omega)) rfl rfl rfl ?_
    refine WL.det (op_load1 (i := i) rfl Try.isAgg27 ((((((((((((r13.ext m23).mod m24 (nC (lE (lL r13.lt lR)) nN)).ext m25).ext m26).ext m27).mod m28 (nC (lE (lL (lL r13.lt (lT (lT (lT m23.size m24.size) m25.size) m26.size)) lR)) nN)).ext m29).ext m30).ext m31).mod m32 (nC (lE (lL (lL r13.lt (lT (lT (lT (lT (lT (lT (lT m23.size m24.size) m25.size) m26.size) m27.size) m28.size) m29.size) m30.size)) lR)) nN)).ext m33).ext m34).rng rfl (fl_get (by have eL : List.length zs2 = n'1 := h10; omega))) rfl rfl rfl ?_
    refine WL.det (op_fne (c := !(fEq .f32 (zs2.getD i 0) 0)) rfl rfl rfl rfl rfl) rfl rfl rfl ?_
    refine WL.det (op_move rfl) rfl rfl rfl ?_
    refine WL.yes rfl rfl rfl (ltb rfl) rfl (bnot_t (hPk i (by omega)).1) ?_
    refine WL.det (op_fieldAddr (off' := 0) rfl Try.runUnderlying33 rfl rfl Try.sizeOf26 rfl) rfl rfl rfl ?_
    refine WL.yes rfl rfl rfl (ltb rfl) rfl (bnot_t (hPk i (by omega)).1) ?_
    refine WL.det (op_fieldAddr (off' := 0) rfl Try.runUnderlying26 rfl rfl Try.sizeOf24 rfl) rfl rfl rfl ?_
    refine WL.yes rfl rfl rfl (ltb rfl) rfl (bnot_t (hPk i (by omega)).1) ?_
    refine WL.det (op_load1 (i := 0) rfl Try.isAgg24 (((((((((((((r12.ext m22).ext m23).mod m24 (nC (lE (lL (lL r10.lt (lT m21.size m22.size)) lR)) nN)).ext m25).ext m26).ext m27).mod m28 (nC (lE (lL (lL r10.lt (lT (lT (lT (lT (lT m21.size m22.size) m23.size) m24.size) m25.size) m26.size)) lR)) nN)).ext m29).ext m30).ext m31).mod m32 (nC (lE (lL (lL r10.lt (lT (lT (lT (lT (lT (lT (lT (lT (lT m21.size m22.size) m23.size) m24.size) m25.size) m26.size) m27.size) m28.size) m29.size) m30.size)) lR)) nN)).ext m33).ext m34).rng rfl rfl) rfl rfl rfl ?_
    refine WL.yes rfl rfl rfl (ltb rfl) rfl (bnot_t (hPk i (by omega)).1) ?_
    refine WL.det (op_move rfl) rfl rfl rfl ?_
    refine WL.yes rfl rfl rfl (ltb rfl) rfl (bnot_t (hPk i (by omega)).1) ?_
    refine WL.det (op_indexSl (off' := 0 + i) rfl rfl rfl Try.runUnderlying24 Try.sizeOf27 (by omega) (by omega) (by omega)) rfl rfl rfl ?_
    refine WL.yes rfl rfl rfl (ltb rfl) rfl (bnot_t (hPk i (by omega)).1) ?_
    refine WL.det (op_load1 (i := i) rfl Try.isAgg27 (((((((((((((((r9.ext m20).mod m21 (nC (lE (lL r9.lt lR)) nN)).ext m22).ext m23).mod m24 (nC (lE (lL (lL r9.lt (lT (lT m20.size m21.size) m22.size)) lR)) nN)).ext m25).ext m26).ext m27).mod m28 (nC (lE (lL (lL r9.lt (lT (lT (lT (lT (lT (lT m20.size m21.size) m22.size) m23.size) m24.size) m25.size) m26.size)) lR)) nN)).ext m29).ext m30).ext m31).mod m32 (nC (lE (lL (lL r9.lt (lT (lT (lT (lT (lT (lT (lT (lT (lT (lT m20.size m21.size) m22.size) m23.size) m24.size) m25.size) m26.size) m27.size) m28.size) m29.size) m30.size)) lR)) nN)).ext m33).ext m34).rng rfl (fl_get (by have eL : List.length zs1 = n'1 := h7; omega))) rfl rfl rfl ?_
    refine WL.yes rfl rfl rfl (ltb rfl) rfl (bnot_t (hPk i (by omega)).1) ?_
    refine WL.det (op_fgt (c := fGt .f32 (zs1.getD i 0) 1056966286) rfl rfl rfl rfl rfl) rfl rfl rfl ?_
    refine WL.det (op_pick_f rfl (bnot_t (hPk i (by omega)).1) rfl) rfl rfl rfl ?_
    refine WL.det (op_move rfl) rfl rfl rfl ?_
    refine WL.yes rfl rfl rfl (ltb rfl) rfl (hPk i (by omega)).2.1 ?_
    refine WL.det (op_fieldAddr (off' := 0) rfl Try.runUnderlying33 rfl rfl Try.sizeOf26 rfl) rfl rfl rfl ?_
    refine WL.yes rfl rfl rfl (ltb rfl) rfl (hPk i (by omega)).2.1 ?_
    refine WL.det (op_fieldAddr (off' := 0) rfl Try.runUnderlying26 rfl rfl Try.sizeOf24 rfl) rfl rfl rfl ?_
    refine WL.yes rfl rfl rfl (ltb rfl) rfl (hPk i (by omega)).2.1 ?_
    refine WL.det (op_load1 (i := 0) rfl Try.isAgg24 (((((((((((((r12.ext m22).ext m23).mod m24 (nC (lE (lL (lL r10.lt (lT m21.size m22.size)) lR)) nN)).ext m25).ext m26).ext m27).mod m28 (nC (lE (lL (lL r10.lt (lT (lT (lT (lT (lT m21.size m22.size) m23.size) m24.size) m25.size) m26.size)) lR)) nN)).ext m29).ext m30).ext m31).mod m32 (nC (lE (lL (lL r10.lt (lT (lT (lT (lT (lT (lT (lT (lT (lT m21.size m22.size) m23.size) m24.size) m25.size) m26.size) m27.size) m28.size) m29.size) m30.size)) lR)) nN)).ext m33).ext m34).rng rfl rfl) rfl rfl rfl ?_
    refine WL.yes rfl rfl rfl (ltb rfl) rfl (hPk i (by omega)).2.1 ?_
    refine WL.det (op_move rfl) rfl rfl rfl ?_
    refine WL.yes rfl rfl rfl (ltb rfl) rfl (hPk i (by omega)).2.1 ?_
    refine WL.det (op_indexSl (off' := 0 + i) rfl rfl rfl Try.runUnderlying24 Try.sizeOf27 (by omega) (by omega) (by omega)) rfl rfl rfl ?_
    refine WL.yes rfl rfl rfl (ltb rfl) rfl (hPk i (by omega)).2.1 ?_
    refine WL.det (op_load1 (i := i) rfl Try.isAgg27 (((((((((((((((r9.ext m20).mod m21 (nC (lE (lL r9.lt lR)) nN)).ext m22).ext m23).mod m24 (nC (lE (lL (lL r9.lt (lT (lT m20.size m21.size) m22.size)) lR)) nN)).ext m25).ext m26).ext m27).mod m28 (nC (lE (lL (lL r9.lt (lT (lT (lT (lT (lT (lT m20.size m21.size) m22.size) m23.size) m24.size) m25.size) m26.size)) lR)) nN)).ext m29).ext m30).ext m31).mod m32 (nC (lE (lL (lL r9.lt (lT (lT (lT (lT (lT (lT (lT (lT (lT (lT m20.size m21.size) m22.size) m23.size) m24.size) m25.size) m26.size) m27.size) m28.size) m29.size) m30.size)) lR)) nN)).ext m33).ext m34).rng rfl (fl_get (by have eL : List.length zs1 = n'1 := h7; omega))) rfl rfl rfl ?_
    refine WL.yes rfl rfl rfl (ltb rfl) rfl (hPk i (by omega)).2.1 ?_
    refine WL.det (op_flt (c := fLt .f32 (zs1.getD i 0) 0) rfl rfl rfl rfl rfl) rfl rfl rfl ?_
    refine WL.det (op_pick_f rfl (hPk i (by omega)).2.1 rfl) rfl rfl rfl ?_
    refine WL.end ?_
    refine NE.code ?_
    refine CE.cond_f rfl (hPk i (by omega)).2.2 ?_
    refine CE.skip' ?_
    refine NE.code ?_
    refine CE.region ?_
    refine WL.det (op_move rfl) rfl rfl rfl ?_
    refine WL.det (op_fieldAddr (off' := 0) rfl Try.runUnderlying33 rfl rfl Try.sizeOf26 rfl) rfl rfl rfl ?_
    refine WL.det (op_fieldAddr (off' := 0) rfl Try.runUnderlying26 rfl rfl Try.sizeOf24 rfl) rfl rfl rfl ?_
    refine WL.det (op_load1 (i := 0) rfl Try.isAgg24 ((((((r21.ext m29).ext m30).ext m31).mod m32 (nC (lE (lL (lL r19.lt (lT (lT m28.size m29.size) m30.size)) lR)) nN)).ext m33).ext m34).rng rfl rfl) rfl rfl rfl ?_
    refine WL.det (op_move rfl) rfl rfl rfl ?_
    refine WL.det (op_indexSl (off' := 0 + i) rfl rfl rfl Try.runUnderlying24 Try.sizeOf27 (by omega) (by omega) (by omega)) rfl rfl rfl ?_
    refine WL.det (op_load1 (i := i) rfl Try.isAgg27 ((((((((r18.ext m27).mod m28 (nC (lE (lL r18.lt lR)) nN)).ext m29).ext m30).ext m31).mod m32 (nC (lE (lL (lL r18.lt (lT (lT (lT m27.size m28.size) m29.size) m30.size)) lR)) nN)).ext m33).ext m34).rng rfl (fl_get (by have eL : List.length zs3 = n'1 := h13; omega))) rfl rfl rfl ?_
    refine WL.op (op_farith (e := (fop .add .f32 (sumS (posF (fop .mul .f32 f6 (FloatKind.f32.nearest ((n'1 : Nat) : Int)))) i) (zs3.getD i 0))) (.inl rfl) rfl rfl hs rfl rfl) rfl rfl (ltb rfl) ?_
    rintro _ w35 ⟨⟨f7, rfl, hf7, lf7⟩, m35⟩
    refine WL.det (op_assign rfl) rfl rfl rfl ?_
    refine WL.end ?_
    refine NE.blk ?_
    refine NE.code ?_
    refine CE.region ?_
    refine WL.det (op_move rfl) rfl rfl rfl ?_
    refine WL.det (op_add (r := ((i + 1 : Nat) : Int)) rfl rfl (w_i64 (by omega) (by omega))) rfl rfl rfl ?_
    refine WL.det (op_assign rfl) rfl rfl rfl ?_
    refine WL.end ?_
    exact NE.again ((i + 1), f7) (⟨rfl, rfl, rfl, rfl, rfl, rfl, rfl, trivial⟩) ⟨(by omega), (by exact sumS_next hSt (by omega) (by assumption)), (m34.nt m35)⟩ (by first | (dsimp only; omega) | omega)
  · have hp1 := of_decide_eq_false hb1
    refine CE.cond_f rfl hb1 ?_
    refine CE.exit' ?_
    refine XE.exit_then ?_
    refine XE.exit_then ?_
    refine XE.exit_here ?_
    refine NE.code ?_
    refine CE.seq ?_
    refine CE.region ?_
    refine WL.det (op_loadA (i := 0) (cs := [vS b'3 0 n'1 c'1, vI 0, vI 3, vF ta1, vF 0, vF 0, vF 0, vF 0, vI 2, vF da1, vF f3, vF 0, vF 0, vF 0, vF 1065353216]) rfl Try.isAgg33 Try.sizeOf33 (((((((((((((r12.ext m22).ext m23).mod m24 (nC (lE (lL (lL r10.lt (lT m21.size m22.size)) lR)) nN)).ext m25).ext m26).ext m27).mod m28 (nC (lE (lL (lL r10.lt (lT (lT (lT (lT (lT m21.size m22.size) m23.size) m24.size) m25.size) m26.size)) lR)) nN)).ext m29).ext m30).ext m31).mod m32 (nC (lE (lL (lL r10.lt (lT (lT (lT (lT (lT (lT (lT (lT (lT m21.size m22.size) m23.size) m24.size) m25.size) m26.size) m27.size) m28.size) m29.size) m30.size)) lR)) nN)).ext m33).ext m34).rng rfl rfl rfl) rfl rfl rfl ?_
    refine WL.det (op_fieldAddr (off' := 0) rfl Try.runUnderlying33 rfl rfl Try.sizeOf26 rfl) rfl rfl rfl ?_
    refine WL.det (op_fieldAddr (off' := 0) rfl Try.runUnderlying26 rfl rfl Try.sizeOf24 rfl) rfl rfl rfl ?_
    refine WL.det (op_load1 (i := 0) rfl Try.isAgg24 ((((((((((((((((((((((((((r4.ext m9).ext m10).mod m11 (nC (lE (lL (lL r2.lt (lT m8.size m9.size)) lR)) nN)).ext m12).ext m13).ext m14).ext m15).ext m16).ext m17).ext m18).ext m19).ext m20).mod m21 (nC (lE (lL (lL r2.lt (lT (lT (lT (lT (lT (lT (lT (lT (lT (lT (lT m8.size m9.size) m10.size) m11.size) m12.size) m13.size) m14.size) m15.size) m16.size) m17.size) m18.size) m19.size)) lR)) nN)).ext m22).ext m23).mod m24 (nC (lE (lL (lL r2.lt (lT (lT (lT (lT (lT (lT (lT (lT (lT (lT (lT (lT (lT (lT m8.size m9.size) m10.size) m11.size) m12.size) m13.size) m14.size) m15.size) m16.size) m17.size) m18.size) m19.size) m20.size) m21.size) m22.size)) lR)) nN)).ext m25).ext m26).ext m27).mod m28 (nC (lE (lL (lL r2.lt (lT (lT (lT (lT (lT (lT (lT (lT (lT (lT (lT (lT (lT (lT (lT (lT (lT (lT m8.size m9.size) m10.size) m11.size) m12.size) m13.size) m14.size) m15.size) m16.size) m17.size) m18.size) m19.size) m20.size) m21.size) m22.size) m23.size) m24.size) m25.size) m26.size)) lR)) nN)).ext m29).ext m30).ext m31).mod m32 (nC (lE (lL (lL r2.lt (lT (lT (lT (lT (lT (lT (lT (lT (lT (lT (lT (lT (lT (lT (lT (lT (lT (lT (lT (lT (lT (lT m8.size m9.size) m10.size) m11.size) m12.size) m13.size) m14.size) m15.size) m16.size) m17.size) m18.size) m19.size) m20.size) m21.size) m22.size) m23.size) m24.size) m25.size) m26.size) m27.size) m28.size) m29.size) m30.size)) lR)) nN)).ext m33).ext m34).rng rfl rfl) rfl rfl rfl ?_
    refine WL.det (op_len rfl Try.runUnderlying24) rfl rfl rfl ?_
    refine WL.call (oc_call (vs := [.agg #[vS b'3 0 n'1 c'1, vI 0, vI 3, vF ta1, vF 0, vF 0, vF 0, vF 0, vI 2, vF da1, vF f3, vF 0, vF 0, vF 0, vF 1065353216], vI ((n'1 : Nat) : Int)]) (cap := []) rfl rfl rfl Try.call23 (c_iPlayT n'1 c'1 b'3 ta1 da1 f3 zs1 (by first | exact hT.l | exact (lawT_of (digF xsu nu 0 256) (digF xsu nu 1 33) (by assumption) (by assumption) (by assumption) (by assumption) (by assumption)).l) h7 h8 w34 (((((((((((((((r9.ext m20).mod m21 (nC (lE (lL r9.lt lR)) nN)).ext m22).ext m23).mod m24 (nC (lE (lL (lL r9.lt (lT (lT m20.size m21.size) m22.size)) lR)) nN)).ext m25).ext m26).ext m27).mod m28 (nC (lE (lL (lL r9.lt (lT (lT (lT (lT (lT (lT m20.size m21.size) m22.size) m23.size) m24.size) m25.size) m26.size)) lR)) nN)).ext m29).ext m30).ext m31).mod m32 (nC (lE (lL (lL r9.lt (lT (lT (lT (lT (lT (lT (lT (lT (lT (lT m20.size m21.size) m22.size) m23.size) m24.size) m25.size) m26.size) m27.size) m28.size) m29.size) m30.size)) lR)) nN)).ext m33).ext m34).rng)) rfl rfl (ltb rfl) ?_
    rintro _ w36 ⟨zz1, b'7, c'5, e'1, c3'1, A'1, rfl, h19, r27, ge7, m36⟩
    refine WL.det (op_move rfl) rfl rfl rfl ?_
    refine WL.det (op_extract rfl rfl) rfl rfl rfl ?_
    refine WL.det (op_extract rfl rfl) rfl rfl rfl ?_
    refine WL.det (op_extract rfl rfl) rfl rfl rfl ?_
    refine WL.op (op_alloc (cs := [.slice none 0 0, vI 0, vI 0, vF 0, vF 0, vF 0, vF 0, vF 0, vI 0, vF 0, vF 0, vF 0, vF 0, vF 0, vF 0]) Try.zeroValue33 rfl) rfl rfl (ltb rfl) ?_
    rintro _ w37 ⟨rfl, r28, m37, z15⟩
    refine WL.op0 (op_store (i := 0) (cs := [vS b'7 0 n'1 c'5, vI ((zz1.i : Nat) : Int), vI 3, vF ta1, vF 0, vF 0, vF (zz1.t0), vF (zz1.t1), vI 2, vF da1, vF f3, vF 0, vF (zz1.d0), vF (zz1.d1), vF 1065353216]) rfl rfl rfl Try.sizeOf33 rfl r28 rfl (lB rfl) rfl) rfl rfl ?_
    rintro _ w38 ⟨r29, m38, z16⟩
    have r30 : Row w38 w36.heap.size 0 [vS b'7 0 n'1 c'5, vI ((zz1.i : Nat) : Int), vI 3, vF ta1, vF 0, vF 0, vF (zz1.t0), vF (zz1.t1), vI 2, vF da1, vF f3, vF 0, vF (zz1.d0), vF (zz1.d1), vF 1065353216] := Row.congr r29 rfl
    refine WL.det (op_assign rfl) rfl rfl rfl ?_
    refine WL.det (op_assign rfl) rfl rfl rfl ?_
    refine WL.end ?_
    refine NE.code ?_
    refine CE.seq ?_
    refine CE.seq ?_
    refine CE.region ?_
    refine WL.det (op_move rfl) rfl rfl rfl ?_
    refine WL.det (op_nei rfl rfl) rfl rfl rfl ?_
    refine WL.det (op_move rfl) rfl rfl rfl ?_
    refine WL.yes rfl rfl rfl (ltb rfl) rfl rfl ?_
    refine WL.det (op_move rfl) rfl rfl rfl ?_
    refine WL.yes rfl rfl rfl (ltb rfl) rfl rfl ?_
    refine WL.det (op_fne (c := !(fEq .f32 (sumS (posF (fop .mul .f32 f6 (FloatKind.f32.nearest ((n'1 : Nat) : Int)))) i) 1048576000)) rfl rfl hs rfl rfl) rfl rfl rfl ?_
    refine WL.det (op_pick_f rfl rfl rfl) rfl rfl rfl ?_
    refine WL.end ?_
    refine NE.code ?_
    refine CE.cond_f rfl (bnot_t (sumS_end (Nat.lt_of_lt_of_le hfr (by omega)))) ?_
    refine CE.skip' ?_
    refine NE.code ?_
    refine CE.seq ?_
    refine CE.seq ?_
    refine CE.region ?_
    refine WL.det (op_assign rfl) rfl rfl rfl ?_
    refine WL.end ?_
    refine NE.code ?_
    refine CE.block ?_
    refine CE.loop (fun (j : Nat) => [(29, vI ((j : Nat) : Int)), (4, .bool false), (16, vP w19.heap.size 0), (27, .slice A'1 n'1 c3'1)]) (fun (j : Nat) => fun W => (j ≤ n'1) ∧ Mod [] w38 W) (fun (j : Nat) => n'1 - j) 0 (⟨rfl, rfl, rfl, rfl, trivial⟩) ⟨(by omega), Mod.refl _ _⟩ ?_
    rintro j w39 ⟨hj, m39⟩
    show CE _ _ _ _ [(29, vI ((j : Nat) : Int)), (4, .bool false), (16, vP w19.heap.size 0), (27, .slice A'1 n'1 c3'1)] _
    refine CE.seq ?_
    refine CE.seq ?_
    refine CE.region ?_
    refine WL.det (op_move rfl) rfl rfl rfl ?_
    refine WL.det (op_move rfl) rfl rfl rfl ?_
    refine WL.det (op_len rfl Try.runUnderlying24) rfl rfl rfl ?_
    refine WL.det (op_lti rfl rfl) rfl rfl rfl ?_
    refine WL.end ?_
    refine NE.code ?_
    rcases Bool.eq_false_or_eq_true (decide (((j : Nat) : Int) < ((n'1 : Nat) : Int))) with hb2 | hb2
    · have hp2 := of_decide_eq_true hb2
      refine CE.cond_t rfl hb2 ?_
      refine CE.skip' ?_
      refine NE.code ?_
      refine CE.seq ?_
      refine CE.block ?_
      refine CE.seq ?_
      refine CE.draw (fun _ => none) [0, 1, 2, 3, 4, 5, 6, 7, 8, 9] [10, 11] [] (by kernel_rfl) (by kernel_rfl) ?_
      have md1 : Mod [] w39 w39.drew := (Mod.refl _ _).drew
      generalize w39.drew = w40 at md1 ⊢
      refine DR.det (i := 0) rfl rfl (by kernel_rfl) (.free rfl) rfl rfl (fun wD mD => op_move rfl) ?_
      refine DR.det (i := 1) rfl rfl (by kernel_rfl) (.free rfl) rfl rfl (fun wD mD => op_move rfl) ?_
      refine DR.det (i := 2) rfl rfl (by kernel_rfl) (.free rfl) rfl rfl (fun wD mD => op_indexSl (off' := 0 + j) rfl (h19 (by omega)) rfl Try.runUnderlying24 Try.sizeOf27 (by omega) (by omega) (by omega)) ?_
      refine DR.det (i := 3) rfl rfl (by kernel_rfl) (.free rfl) rfl rfl (fun wD mD => op_load1 (i := j) rfl Try.isAgg27 (((((r27.ext m37).mod m38 (nC (lE (lL r27.lt lR)) nN)).ext m39).ext md1).ext mD).rng rfl (fl_get (by have eL : List.length zs1 = n'1 := h7; omega))) ?_
      refine DR.det (i := 4) rfl rfl (by kernel_rfl) (.free rfl) rfl rfl (fun wD mD => op_fieldAddr (off' := 0) rfl Try.runUnderlying33 rfl rfl Try.sizeOf26 rfl) ?_
      refine DR.det (i := 5) rfl rfl (by kernel_rfl) (.free rfl) rfl rfl (fun wD mD => op_fieldAddr (off' := 0) rfl Try.runUnderlying26 rfl rfl Try.sizeOf24 rfl) ?_
      refine DR.det (i := 6) rfl rfl (by kernel_rfl) (.free rfl) rfl rfl (fun wD mD => op_load1 (i := 0) rfl Try.isAgg24 (((((((((((((((((((r12.ext m22).ext m23).mod m24 (nC (lE (lL (lL r10.lt (lT m21.size m22.size)) lR)) nN)).ext m25).ext m26).ext m27).mod m28 (nC (lE (lL (lL r10.lt (lT (lT (lT (lT (lT m21.size m22.size) m23.size) m24.size) m25.size) m26.size)) lR)) nN)).ext m29).ext m30).ext m31).mod m32 (nC (lE (lL (lL r10.lt (lT (lT (lT (lT (lT (lT (lT (lT (lT m21.size m22.size) m23.size) m24.size) m25.size) m26.size) m27.size) m28.size) m29.size) m30.size)) lR)) nN)).ext m33).ext m34).ext m36).ext m37).mod m38 (nC (lE (lL (lL r10.lt (lT (lT (lT (lT (lT (lT (lT (lT (lT (lT (lT (lT (lT (lT m21.size m22.size) m23.size) m24.size) m25.size) m26.size) m27.size) m28.size) m29.size) m30.size) m31.size) m32.size) m33.size) m34.size) m36.size)) lR)) nN)).ext m39).ext md1).ext mD).rng rfl rfl) ?_
      refine DR.det (i := 7) rfl rfl (by kernel_rfl) (.free rfl) rfl rfl (fun wD mD => op_move rfl) ?_
      refine DR.det (i := 8) rfl rfl (by kernel_rfl) (.free rfl) rfl rfl (fun wD mD => op_indexSl (off' := 0 + j) rfl rfl rfl Try.runUnderlying24 Try.sizeOf27 (by omega) (by omega) (by omega)) ?_
      refine DR.det (i := 9) rfl rfl (by kernel_rfl) (.free rfl) rfl rfl (fun wD mD => op_load1 (i := j) rfl Try.isAgg27 (((((((((((((((((((((r9.ext m20).mod m21 (nC (lE (lL r9.lt lR)) nN)).ext m22).ext m23).mod m24 (nC (lE (lL (lL r9.lt (lT (lT m20.size m21.size) m22.size)) lR)) nN)).ext m25).ext m26).ext m27).mod m28 (nC (lE (lL (lL r9.lt (lT (lT (lT (lT (lT (lT m20.size m21.size) m22.size) m23.size) m24.size) m25.size) m26.size)) lR)) nN)).ext m29).ext m30).ext m31).mod m32 (nC (lE (lL (lL r9.lt (lT (lT (lT (lT (lT (lT (lT (lT (lT (lT m20.size m21.size) m22.size) m23.size) m24.size) m25.size) m26.size) m27.size) m28.size) m29.size) m30.size)) lR)) nN)).ext m33).ext m34).ext m36).ext m37).mod m38 (nC (lE (lL (lL r9.lt (lT (lT (lT (lT (lT (lT (lT (lT (lT (lT (lT (lT (lT (lT (lT m20.size m21.size) m22.size) m23.size) m24.size) m25.size) m26.size) m27.size) m28.size) m29.size) m30.size) m31.size) m32.size) m33.size) m34.size) m36.size)) lR)) nN)).ext m39).ext md1).ext mD).rng rfl (fl_get (by have eL : List.length zs1 = n'1 := h7; omega))) ?_
      refine DR.done rfl ?_
      intro w41 m40
      refine WO.call rfl (.free rfl) rfl (ltb rfl) (oc_call (vs := [vF (zs1.getD j 0), vF (zs1.getD j 0)]) (cap := []) rfl rfl rfl Try.call35 (c_SameSample (zs1.getD j 0) (zs1.getD j 0) (zs1.getD j 0) (zs1.getD j 0) rfl rfl w41)) ?_
      rintro _ _ ⟨rfl, rfl⟩
      refine WO.det (op_not rfl) rfl (.free rfl) rfl rfl ?_
      refine WO.end ?_
      refine NE.code ?_
      refine CE.cond_f rfl (bnot_t (beq_self_eq_true _)) ?_
      refine CE.skip' ?_
      refine NE.blk ?_
      refine NE.code ?_
      refine CE.region ?_
      refine WL.det (op_move rfl) rfl rfl rfl ?_
      refine WL.det (op_add (r := ((j + 1 : Nat) : Int)) rfl rfl (w_i64 (by omega) (by omega))) rfl rfl rfl ?_
      refine WL.det (op_assign rfl) rfl rfl rfl ?_
      refine WL.end ?_
      exact NE.again (j + 1) (⟨rfl, rfl, rfl, rfl, trivial⟩) ⟨(by omega), ((m39.nt md1).nt m40)⟩ (by first | (dsimp only; omega) | omega)
    · have hp2 := of_decide_eq_false hb2
      refine CE.cond_f rfl hb2 ?_
      refine CE.exit' ?_
      refine XE.exit_then ?_
      refine XE.exit_then ?_
      refine XE.exit_here ?_
      refine NE.code ?_
      refine CE.seq ?_
      refine CE.region ?_
      refine WL.det (op_assign rfl) rfl rfl rfl ?_
      refine WL.end ?_
      refine NE.code ?_
      refine CE.ret' ?_
      refine XE.leave1 Try.results12 rfl ?_
      refine ⟨rfl, (((((((((((((((((((((((((((((((((((((((Mod.refl [] w).nt m1).nt m2).nt m3).nt m4).nt m5).nt m6).nt m7).then m8 ((aC (.inr (lT (lT (lT (lT (lT (lT m1.size m2.size) m3.size) m4.size) m5.size) m6.size) lR)) aN))).nt m9).nt m10).then m11 ((aC (.inr (lT (lT (lT (lT (lT (lT (lT (lT (lT m1.size m2.size) m3.size) m4.size) m5.size) m6.size) m7.size) m8.size) m9.size) lR)) aN))).nt m12).nt m13).nt m14).nt m15).nt m16).nt m17).nt m18).nt m19).nt m20).then m21 ((aC (.inr (lT (lT (lT (lT (lT (lT (lT (lT (lT (lT (lT (lT (lT (lT (lT (lT (lT (lT (lT m1.size m2.size) m3.size) m4.size) m5.size) m6.size) m7.size) m8.size) m9.size) m10.size) m11.size) m12.size) m13.size) m14.size) m15.size) m16.size) m17.size) m18.size) m19.size) lR)) aN))).nt m22).nt m23).then m24 ((aC (.inr (lT (lT (lT (lT (lT (lT (lT (lT (lT (lT (lT (lT (lT (lT (lT (lT (lT (lT (lT (lT (lT (lT m1.size m2.size) m3.size) m4.size) m5.size) m6.size) m7.size) m8.size) m9.size) m10.size) m11.size) m12.size) m13.size) m14.size) m15.size) m16.size) m17.size) m18.size) m19.size) m20.size) m21.size) m22.size) lR)) aN))).nt m25).nt m26).nt m27).then m28 ((aC (.inr (lT (lT (lT (lT (lT (lT (lT (lT (lT (lT (lT (lT (lT (lT (lT (lT (lT (lT (lT (lT (lT (lT (lT (lT (lT (lT m1.size m2.size) m3.size) m4.size) m5.size) m6.size) m7.size) m8.size) m9.size) m10.size) m11.size) m12.size) m13.size) m14.size) m15.size) m16.size) m17.size) m18.size) m19.size) m20.size) m21.size) m22.size) m23.size) m24.size) m25.size) m26.size) lR)) aN))).nt m29).nt m30).nt m31).then m32 ((aC (.inr (lT (lT (lT (lT (lT (lT (lT (lT (lT (lT (lT (lT (lT (lT (lT (lT (lT (lT (lT (lT (lT (lT (lT (lT (lT (lT (lT (lT (lT (lT m1.size m2.size) m3.size) m4.size) m5.size) m6.size) m7.size) m8.size) m9.size) m10.size) m11.size) m12.size) m13.size) m14.size) m15.size) m16.size) m17.size) m18.size) m19.size) m20.size) m21.size) m22.size) m23.size) m24.size) m25.size) m26.size) m27.size) m28.size) m29.size) m30.size) lR)) aN))).nt m33).nt m34).nt m36).nt m37).then m38 ((aC (.inr (lT (lT (lT (lT (lT (lT (lT (lT (lT (lT (lT (lT (lT (lT (lT (lT (lT (lT (lT (lT (lT (lT (lT (lT (lT (lT (lT (lT (lT (lT (lT (lT (lT (lT (lT m1.size m2.size) m3.size) m4.size) m5.size) m6.size) m7.size) m8.size) m9.size) m10.size) m11.size) m12.size) m13.size) m14.size) m15.size) m16.size) m17.size) m18.size) m19.size) m20.size) m21.size) m22.size) m23.size) m24.size) m25.size) m26.size) m27.size) m28.size) m29.size) m30.size) m31.size) m32.size) m33.size) m34.size) m36.size) lR)) aN))).nt m39)⟩

end Go.Proofs.Ytabfdgpldcegiaa
