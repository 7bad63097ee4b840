/- The law on silence, walked. -/
import Derived.Test.YtabfdgpldcegiaaD11
import Derived.Test.YtabfdgpldcegiaaD6
import Derived.Test.YtabfdgpldcegiaaE8
import Derived.Test.YtabfdgpldcegiaaE20
set_option linter.unusedVariables false
set_option linter.unusedSimpArgs false
namespace Go.Proofs.Ytabfdgpldcegiaa

set_option maxRecDepth 100000 in
set_option maxHeartbeats 8000000 in
theorem law_silence6_over (nu : Nat) (cu : Nat) (Au : Option Addr) (bu : Nat) (ou : Nat) (xsu : List Nat) (nv : Nat) (cv : Nat) (Av : Option Addr) (bv : Nat) (ov : Nat) (xsv : List Nat) (lnu : xsu.length = nu) (hAu : 0 < nu → Au = some ⟨bu, ou, none⟩) (hBu : ∀ i, xsu.getD i 0 < 256) (lnv : xsv.length = nv) (hAv : 0 < nv → Av = some ⟨bv, ov, none⟩) (hBv : ∀ i, xsv.getD i 0 < 256) (hnu : 3000 < nu ∨ 3000 < nv) (w : World) (ru : Rng w bu ou (bys xsu)) (rv : Rng w bv ov (bys xsv)) : Cl Try.prog 3 #[.slice Au nu cu, .slice Av nv cv] w fun v w' => v = .bool true ∧ Mod [] w w' := by
  refine Cl.of Try.func3 Try.ntmps3 rfl rfl (ρ := [(0, .slice Au nu cu), (1, .slice Av nv cv)]) rfl ?_
  refine CE.seq ?_
  refine CE.region ?_
  refine WL.det (op_assign rfl) rfl rfl rfl ?_
  refine WL.end ?_
  refine NE.code ?_
  refine CE.seq ?_
  refine CE.seq ?_
  refine CE.region ?_
  refine WL.det (op_move rfl) rfl rfl rfl ?_
  refine WL.det (op_move rfl) rfl rfl rfl ?_
  refine WL.call (oc_call (vs := [.slice Au nu cu, .slice Av nv cv]) (cap := []) rfl rfl rfl Try.call14 (c_a2Long nu cu Au nv cv Av w)) rfl rfl (ltb rfl) ?_
  rintro _ _ ⟨rfl, rfl⟩
  refine WL.end ?_
  refine NE.code ?_
  refine CE.cond_t rfl (still_over2 hnu) ?_
  refine CE.seq ?_
  refine CE.region ?_
  refine WL.det (op_assign rfl) rfl rfl rfl ?_
  refine WL.end ?_
  refine NE.code ?_
  refine CE.ret' ?_
  refine XE.ret_then ?_
  refine XE.leave1 Try.results3 rfl ?_
  refine ⟨rfl, (Mod.refl [] w)⟩

set_option maxRecDepth 100000 in
set_option maxHeartbeats 8000000 in
theorem law_silence6 (nu : Nat) (cu : Nat) (Au : Option Addr) (bu : Nat) (ou : Nat) (xsu : List Nat) (nv : Nat) (cv : Nat) (Av : Option Addr) (bv : Nat) (ov : Nat) (xsv : List Nat) (lnu : xsu.length = nu) (hAu : 0 < nu → Au = some ⟨bu, ou, none⟩) (hBu : ∀ i, xsu.getD i 0 < 256) (lnv : xsv.length = nv) (hAv : 0 < nv → Av = some ⟨bv, ov, none⟩) (hBv : ∀ i, xsv.getD i 0 < 256) (hnu : nu ≤ 3000) (hnv : nv ≤ 3000) (w : World) (ru : Rng w bu ou (bys xsu)) (rv : Rng w bv ov (bys xsv)) : Cl Try.prog 3 #[.slice Au nu cu, .slice Av nv cv] w fun v w' => v = .bool true ∧ Mod [] w w' := by
  refine Cl.of Try.func3 Try.ntmps3 rfl rfl (ρ := [(0, .slice Au nu cu), (1, .slice Av nv cv)]) rfl ?_
  refine CE.seq ?_
  refine CE.region ?_
  refine WL.det (op_assign rfl) rfl rfl rfl ?_
  refine WL.end ?_
  refine NE.code ?_
  refine CE.seq ?_
  refine CE.seq ?_
  refine CE.region ?_
  refine WL.det (op_move rfl) rfl rfl rfl ?_
  refine WL.det (op_move rfl) rfl rfl rfl ?_
  refine WL.call (oc_call (vs := [.slice Au nu cu, .slice Av nv cv]) (cap := []) rfl rfl rfl Try.call14 (c_a2Long nu cu Au nv cv Av w)) rfl rfl (ltb rfl) ?_
  rintro _ _ ⟨rfl, rfl⟩
  refine WL.end ?_
  refine NE.code ?_
  refine CE.cond_f rfl (still_in2 hnu hnv) ?_
  refine CE.skip' ?_
  refine NE.code ?_
  refine CE.seq ?_
  refine CE.region ?_
  refine WL.det (op_move rfl) rfl rfl rfl ?_
  refine WL.call (oc_call (vs := [.slice Au nu cu, vI 0, vI 40]) (cap := []) rfl rfl rfl Try.call16 (c_A2DigitX nu cu Au bu ou xsu 0 40 lnu hAu hBu (by omega) (by omega) w ru)) rfl rfl (ltb rfl) ?_
  rintro _ w1 ⟨rfl, h1, m1⟩
  refine WL.det (op_cvt_if rfl Try.runUnderlying2 Try.runUnderlying27) rfl rfl rfl ?_
  refine WL.op (op_farith (e := (fop .quo .f32 (FloatKind.f32.nearest (((digF xsu nu 0 40) : Nat) : Int)) 1090519040)) (.inr (.inr (.inr rfl))) rfl rfl rfl rfl rfl) rfl rfl (ltb rfl) ?_
  rintro _ w2 ⟨⟨f1, rfl, hf1, lf1⟩, m2⟩
  refine WL.op (op_farith (e := (fop .add .f32 1077936128 (fop .quo .f32 (FloatKind.f32.nearest (((digF xsu nu 0 40) : Nat) : Int)) 1090519040))) (.inl rfl) rfl rfl rfl hf1 rfl) rfl rfl (ltb rfl) ?_
  rintro _ w3 ⟨⟨f2, rfl, hf2, lf2⟩, m3⟩
  refine WL.det (op_move rfl) rfl rfl rfl ?_
  refine WL.call (oc_call (vs := [.slice Au nu cu, vI 1, vI 17]) (cap := []) rfl rfl rfl Try.call16 (c_A2DigitX nu cu Au bu ou xsu 1 17 lnu hAu hBu (by omega) (by omega) w3 (((ru.ext m1).ext m2).ext m3))) rfl rfl (ltb rfl) ?_
  rintro _ w4 ⟨rfl, h2, m4⟩
  refine WL.det (op_cvt_if rfl Try.runUnderlying2 Try.runUnderlying27) rfl rfl rfl ?_
  refine WL.op (op_farith (e := (fop .quo .f32 (FloatKind.f32.nearest (((digF xsu nu 1 17) : Nat) : Int)) 1115684864)) (.inr (.inr (.inr rfl))) rfl rfl rfl rfl rfl) rfl rfl (ltb rfl) ?_
  rintro _ w5 ⟨⟨f3, rfl, hf3, lf3⟩, m5⟩
  refine WL.det (op_move rfl) rfl rfl rfl ?_
  refine WL.call (oc_call (vs := [.slice Au nu cu, vI 2, vI 48]) (cap := []) rfl rfl rfl Try.call16 (c_A2DigitX nu cu Au bu ou xsu 2 48 lnu hAu hBu (by omega) (by omega) w5 (((((ru.ext m1).ext m2).ext m3).ext m4).ext m5))) rfl rfl (ltb rfl) ?_
  rintro _ w6 ⟨rfl, h3, m6⟩
  refine WL.det (op_cvt_if rfl Try.runUnderlying2 Try.runUnderlying27) rfl rfl rfl ?_
  refine WL.op (op_farith (e := (fop .quo .f32 (FloatKind.f32.nearest (((digF xsu nu 2 48) : Nat) : Int)) 1115684864)) (.inr (.inr (.inr rfl))) rfl rfl rfl rfl rfl) rfl rfl (ltb rfl) ?_
  rintro _ w7 ⟨⟨f4, rfl, hf4, lf4⟩, m7⟩
  refine WL.call (oc_call (vs := [vF f2, vF f3, vF f4]) (cap := []) rfl rfl rfl Try.call15 (c_NewString f2 f3 f4 lf2 lf3 lf4 (by first | assumption | exact newOk_of (p := digF xsu nu 0 40) (q := digF xsu nu 1 17) (by assumption) (by assumption) (by assumption) (by assumption)) (by first | assumption | exact (sixOk_of (q := digF xsu nu 2 48) (by assumption) (by assumption)).1) w7)) rfl rfl (ltb rfl) ?_
  rintro _ w8 ⟨n'1, b'1, ta1, da1, rfl, h4, h5, h6, h7, h8, h9, r1, ge1, m8⟩
  refine WL.det (op_move rfl) rfl rfl rfl ?_
  refine WL.det (op_extract rfl rfl) rfl rfl rfl ?_
  refine WL.det (op_extract rfl rfl) rfl rfl rfl ?_
  refine WL.op (op_alloc (cs := [.slice none 0 0, vI 0, vI 0, vF 0, vF 0, vF 0, vF 0, vF 0, vI 0, vF 0, vF 0, vF 0, vF 0, vF 0, vF 0]) Try.zeroValue33 rfl) rfl rfl (ltb rfl) ?_
  rintro _ w9 ⟨rfl, r2, m9, z1⟩
  refine WL.op0 (op_store (i := 0) (cs := [vS b'1 0 n'1 n'1, vI 0, vI 3, vF ta1, vF 0, vF 0, vF 0, vF 0, vI 2, vF da1, vF f3, vF 0, vF 0, vF 0, vF f4]) rfl rfl rfl Try.sizeOf33 rfl r2 rfl (lB rfl) rfl) rfl rfl ?_
  rintro _ w10 ⟨r3, m10, z2⟩
  have r4 : Row w10 w8.heap.size 0 [vS b'1 0 n'1 n'1, vI 0, vI 3, vF ta1, vF 0, vF 0, vF 0, vF 0, vI 2, vF da1, vF f3, vF 0, vF 0, vF 0, vF f4] := Row.congr r3 rfl
  refine WL.det (op_assign rfl) rfl rfl rfl ?_
  refine WL.end ?_
  refine NE.code ?_
  refine CE.seq ?_
  refine CE.drawF (fun | 2 => some (fun _ wA uA wB => uA = vF (plainF xsv nv) ∧ (plainF xsv nv < wid .f32) ∧ (finF (plainF xsv nv) = true) ∧ Mod [] wA wB) | 4 => some (fun _ wA uA wB => uA = vI (((digF xsv nv 0 256) : Nat) : Int) ∧ (digF xsv nv 0 256 < 256) ∧ Mod [] wA wB) | 6 => some (fun _ wA uA wB => ∃ (b' : Nat) (c' : Nat) (zs : List Nat), uA = .tuple #[.agg #[vS b' 0 n'1 c', vI 0, vI 3, vF ta1, vF 0, vF 0, vF 0, vF 0, vI 2, vF da1, vF f3, vF 0, vF 0, vF 0, vF f4], .int .u32 ((sdAt (digF xsv nv 0 256) n'1 : Nat) : Int), vI 0] ∧ (zs.length = n'1) ∧ (W32 zs) ∧ (Cn zs (chg (noiseG (plainF xsv nv) (digF xsv nv 0 256)) n'1 0 (List.replicate n'1 0) n'1)) ∧ Row wB b' 0 (fl zs) ∧ wA.heap.size ≤ b' ∧ Mod [] wA wB) | _ => none) [0, 1, 2, 3, 4, 5, 6, 7, 8, 9, 10, 11, 12, 13] [14] [] (fun ρ W => ∃ (e1_6_0 : Nat) (e1_6_1 : Nat) (e1_6_2 : List Nat) (e1_11_0 : Nat), ρ = [(1, .slice Av nv cv), (4, .bool false), (5, vP w8.heap.size 0), (6, vI 0), (7, vP e1_11_0 0), (8, .int .u32 ((sdAt (digF xsv nv 0 256) n'1 : Nat) : Int)), (61, vI 0)] ∧ Row W e1_6_0 0 (fl e1_6_2) ∧ Row W e1_11_0 0 [vS e1_6_0 0 n'1 e1_6_1, vI 0, vI 3, vF ta1, vF 0, vF 0, vF 0, vF 0, vI 2, vF da1, vF f3, vF 0, vF 0, vF 0, vF f4] ∧ w10.heap.size ≤ e1_6_0 ∧ w10.heap.size ≤ e1_11_0 ∧ e1_6_0 ≠ e1_11_0 ∧ (e1_6_2.length = n'1) ∧ (W32 e1_6_2) ∧ (Cn e1_6_2 (chg (noiseG (plainF xsv nv) (digF xsv nv 0 256)) n'1 0 (List.replicate n'1 0) n'1)) ∧ Mod [] w10 W) (by kernel_rfl) (by kernel_rfl) ?_ ?_
  have md1 : Mod [] w10 w10.drew := (Mod.refl _ _).drew
  generalize w10.drew = w11 at md1 ⊢
  · refine DR.det (i := 0) rfl rfl (by kernel_rfl) (.free rfl) rfl rfl (fun wD mD => op_loadA (i := 0) (cs := [vS b'1 0 n'1 n'1, vI 0, vI 3, vF ta1, vF 0, vF 0, vF 0, vF 0, vI 2, vF da1, vF f3, vF 0, vF 0, vF 0, vF f4]) rfl Try.isAgg33 Try.sizeOf33 ((r4.ext md1).ext mD).rng rfl rfl rfl) ?_
    refine DR.det (i := 1) rfl rfl (by kernel_rfl) (.free rfl) rfl rfl (fun wD mD => op_move rfl) ?_
    refine DR.call (i := 2) (fun uA => uA = vF (plainF xsv nv) ∧ (plainF xsv nv < wid .f32) ∧ (finF (plainF xsv nv) = true)) rfl rfl (by kernel_rfl) (.free rfl) rfl (ltb rfl) ⟨_, rfl, plainF_lt _ _, plainF_fin _ _⟩ (vs := [.func (.func 18) #[] #[], .slice Av nv cv]) rfl (fun wD mD => oc_call (vs := [.slice Av nv cv]) (cap := []) rfl rfl rfl Try.call18 (c_A2PlainX nv cv Av bv ov xsv lnv hAv hBv (by omega) wD (((Rng.youngS rv (((((((((rv.ext m1).ext m2).ext m3).ext m4).ext m5).ext m6).ext m7).ext m8).ext m9) m10 (allge_cons (lT (lT (lT (lT (lT (lT (lT (lT m1.size m2.size) m3.size) m4.size) m5.size) m6.size) m7.size) m8.size) lR) allge_nil)).ext md1).ext mD))) ?_ ?_
    · rintro w1 _ w2 m1 ⟨rfl, p0, p1, m2⟩; exact ⟨⟨rfl, p0, p1⟩, m2⟩
    rintro _ ⟨rfl, h10, h11⟩
    refine DR.det (i := 3) rfl rfl (by kernel_rfl) (.free rfl) rfl rfl (fun wD mD => op_move rfl) ?_
    refine DR.call (i := 4) (fun uA => uA = vI (((digF xsv nv 0 256) : Nat) : Int) ∧ (digF xsv nv 0 256 < 256)) rfl rfl (by kernel_rfl) (.free rfl) rfl (ltb rfl) ⟨_, rfl, digF_lt (by omega)⟩ (vs := [.func (.func 16) #[] #[], .slice Av nv cv, vI 0, vI 256]) rfl (fun wD mD => oc_call (vs := [.slice Av nv cv, vI 0, vI 256]) (cap := []) rfl rfl rfl Try.call16 (c_A2DigitX nv cv Av bv ov xsv 0 256 lnv hAv hBv (by omega) (by omega) wD (((Rng.youngS rv (((((((((rv.ext m1).ext m2).ext m3).ext m4).ext m5).ext m6).ext m7).ext m8).ext m9) m10 (allge_cons (lT (lT (lT (lT (lT (lT (lT (lT m1.size m2.size) m3.size) m4.size) m5.size) m6.size) m7.size) m8.size) lR) allge_nil)).ext md1).ext mD))) ?_ ?_
    · rintro w1 _ w2 m1 ⟨rfl, p0, m2⟩; exact ⟨⟨rfl, p0⟩, m2⟩
    rintro _ ⟨rfl, h12⟩
    refine DR.det (i := 5) rfl rfl (by kernel_rfl) (.free rfl) rfl rfl (fun wD mD => op_cvt_ii (r := (((digF xsv nv 0 256) : Nat) : Int)) rfl Try.runUnderlying2 Try.runUnderlying37 (w_u32 (by omega) (by omega))) ?_
    refine DR.fork (is := [6, 11]) (by kernel_rfl) (by decide) (all2 ?_ ?_)
    · refine DP.call (i := 6) rfl rfl (.free rfl) rfl (ltb rfl) (vs := [.func (.func 17) #[] #[], .agg #[vS b'1 0 n'1 n'1, vI 0, vI 3, vF ta1, vF 0, vF 0, vF 0, vF 0, vI 2, vF da1, vF f3, vF 0, vF 0, vF 0, vF f4], vF (plainF xsv nv), .int .u32 (((digF xsv nv 0 256) : Nat) : Int)]) rfl ?_
      intro w12 m11
      refine ⟨oc_call (vs := [.agg #[vS b'1 0 n'1 n'1, vI 0, vI 3, vF ta1, vF 0, vF 0, vF 0, vF 0, vI 2, vF da1, vF f3, vF 0, vF 0, vF 0, vF f4], vF (plainF xsv nv), .int .u32 (((digF xsv nv 0 256) : Nat) : Int)]) (cap := []) rfl rfl rfl Try.call17 (c_iNoise n'1 n'1 b'1 (List.replicate n'1 0) 0 (3 : Int) ta1 0 0 0 0 (2 : Int) da1 f3 0 0 0 f4 (plainF xsv nv) (digF xsv nv 0 256) List.length_replicate (by omega) (by omega) (W32.zeros _) (by omega) (by first | assumption | exact W32.get (by assumption) _ | decide +kernel) (by first | assumption | exact W32.get (by assumption) _ | decide +kernel) (by first | assumption | exact W32.get (by assumption) _ | decide +kernel) (by first | assumption | exact W32.get (by assumption) _ | decide +kernel) h10 (by first | assumption | exact new_valid (by first | assumption | exact lawS_of (digF xsu nu 0 40) (digF xsu nu 1 17) (digF xsu nu 2 48) (by assumption) (by assumption) (by assumption) (by assumption) (by assumption) (by assumption) (by assumption) (by assumption) (by assumption) (by assumption))) (by assumption) w12 ((((r1.ext m9).mod m10 (nC (lE (lL r1.lt lR)) nN)).ext md1).ext m11).rng), ?_⟩
      rintro _ w13 ⟨b'2, c'1, zs1, rfl, h13, h14, h15, r5, ge2, m12⟩
      refine ⟨(((Mod.refl [] w11).nt m11).nt m12), ?_⟩
      refine DR.det (i := 7) rfl rfl (by kernel_rfl) (.free rfl) rfl rfl (fun wD mD => op_move rfl) ?_
      refine DR.det (i := 8) rfl rfl (by kernel_rfl) (.free rfl) rfl rfl (fun wD mD => op_extract rfl rfl) ?_
      refine DR.det (i := 9) rfl rfl (by kernel_rfl) (.free rfl) rfl rfl (fun wD mD => op_extract rfl rfl) ?_
      refine DR.det (i := 10) rfl rfl (by kernel_rfl) (.free rfl) rfl rfl (fun wD mD => op_extract rfl rfl) ?_
      refine DR.one1 (i := 11) rfl rfl (by kernel_rfl) (.free rfl) rfl (ltb rfl) ?_
      intro w14 m13
      refine Op1.mono (op_alloc (cs := [.slice none 0 0, vI 0, vI 0, vF 0, vF 0, vF 0, vF 0, vF 0, vI 0, vF 0, vF 0, vF 0, vF 0, vF 0, vF 0]) Try.zeroValue33 rfl) ?_
      rintro _ w15 ⟨rfl, r6, m14, z3⟩
      refine ⟨(((((Mod.refl [] w11).nt m11).nt m12).nt m13).nt m14), ?_⟩
      refine DR.st1 (i := 12) rfl rfl (by kernel_rfl) (.free rfl) rfl ?_
      intro w16 m15
      refine Op1.mono (op_store (i := 0) (cs := [vS b'2 0 n'1 c'1, vI 0, vI 3, vF ta1, vF 0, vF 0, vF 0, vF 0, vI 2, vF da1, vF f3, vF 0, vF 0, vF 0, vF f4]) rfl rfl rfl Try.sizeOf33 rfl (r6.ext m15) rfl (lB rfl) rfl) ?_
      rintro _ w17 ⟨r7, m16, z4⟩
      have r8 : Row w17 w14.heap.size 0 [vS b'2 0 n'1 c'1, vI 0, vI 3, vF ta1, vF 0, vF 0, vF 0, vF 0, vI 2, vF da1, vF f3, vF 0, vF 0, vF 0, vF f4] := Row.congr r7 rfl
      refine ⟨(((((((Mod.refl [] w11).nt m11).nt m12).nt m13).nt m14).nt m15).then m16 ((aC (.inr (lT (lT (lT m11.size m12.size) m13.size) lR)) aN))), ?_⟩
      refine DR.rebase ?_
      refine DR.det (i := 13) rfl rfl (by kernel_rfl) (.free rfl) rfl rfl (fun wD mD => op_assign rfl) ?_
      refine DR.sub [(1, .slice Av nv cv), (4, .bool false), (5, vP w8.heap.size 0), (6, vI 0), (7, vP w14.heap.size 0), (8, .int .u32 ((sdAt (digF xsv nv 0 256) n'1 : Nat) : Int)), (61, vI 0)] ⟨rfl, rfl, rfl, rfl, rfl, rfl, rfl, trivial⟩ ?_
      refine DR.meet rfl ?_
      intro w18 m17
      exact ⟨b'2, c'1, zs1, w14.heap.size, rfl, (((((r5.ext m13).ext m14).ext m15).mod m16 (nC (lE (lL (lL r5.lt m13.size) lR)) nN)).ext m17), (r8.ext m17), (lT (lT md1.size m11.size) ge2), (lT (lT (lT (lT md1.size m11.size) m12.size) m13.size) lR), (lE (lL (lL r5.lt m13.size) lR)), h13, h14, h15, (((((((((Mod.refl [] w10).nt md1).nt m11).nt m12).nt m13).nt m14).nt m15).then m16 ((aC (.inr (lT (lT (lT (lT md1.size m11.size) m12.size) m13.size) lR)) aN))).nt m17)⟩
    · refine DP.op (i := 11) rfl rfl (.free rfl) rfl (ltb rfl) ?_
      intro w19 m18
      refine Op1.mono (op_alloc (cs := [.slice none 0 0, vI 0, vI 0, vF 0, vF 0, vF 0, vF 0, vF 0, vI 0, vF 0, vF 0, vF 0, vF 0, vF 0, vF 0]) Try.zeroValue33 rfl) ?_
      rintro _ w20 ⟨rfl, r9, m19, z5⟩
      refine ⟨(((Mod.refl [] w11).nt m18).nt m19), ?_⟩
      refine DR.one (i := 6) rfl rfl (by kernel_rfl) (.free rfl) rfl (ltb rfl) (vs := [.func (.func 17) #[] #[], .agg #[vS b'1 0 n'1 n'1, vI 0, vI 3, vF ta1, vF 0, vF 0, vF 0, vF 0, vI 2, vF da1, vF f3, vF 0, vF 0, vF 0, vF f4], vF (plainF xsv nv), .int .u32 (((digF xsv nv 0 256) : Nat) : Int)]) rfl ?_
      intro w21 m20
      refine ⟨oc_call (vs := [.agg #[vS b'1 0 n'1 n'1, vI 0, vI 3, vF ta1, vF 0, vF 0, vF 0, vF 0, vI 2, vF da1, vF f3, vF 0, vF 0, vF 0, vF f4], vF (plainF xsv nv), .int .u32 (((digF xsv nv 0 256) : Nat) : Int)]) (cap := []) rfl rfl rfl Try.call17 (c_iNoise n'1 n'1 b'1 (List.replicate n'1 0) 0 (3 : Int) ta1 0 0 0 0 (2 : Int) da1 f3 0 0 0 f4 (plainF xsv nv) (digF xsv nv 0 256) List.length_replicate (by omega) (by omega) (W32.zeros _) (by omega) (by first | assumption | exact W32.get (by assumption) _ | decide +kernel) (by first | assumption | exact W32.get (by assumption) _ | decide +kernel) (by first | assumption | exact W32.get (by assumption) _ | decide +kernel) (by first | assumption | exact W32.get (by assumption) _ | decide +kernel) h10 (by first | assumption | exact new_valid (by first | assumption | exact lawS_of (digF xsu nu 0 40) (digF xsu nu 1 17) (digF xsu nu 2 48) (by assumption) (by assumption) (by assumption) (by assumption) (by assumption) (by assumption) (by assumption) (by assumption) (by assumption) (by assumption))) (by assumption) w21 ((((((r1.ext m9).mod m10 (nC (lE (lL r1.lt lR)) nN)).ext md1).ext m18).ext m19).ext m20).rng), ?_⟩
      rintro _ w22 ⟨b'3, c'2, zs2, rfl, h16, h17, h18, r10, ge3, m21⟩
      refine ⟨(((((Mod.refl [] w11).nt m18).nt m19).nt m20).nt m21), ?_⟩
      refine DR.det (i := 7) rfl rfl (by kernel_rfl) (.free rfl) rfl rfl (fun wD mD => op_move rfl) ?_
      refine DR.det (i := 8) rfl rfl (by kernel_rfl) (.free rfl) rfl rfl (fun wD mD => op_extract rfl rfl) ?_
      refine DR.det (i := 9) rfl rfl (by kernel_rfl) (.free rfl) rfl rfl (fun wD mD => op_extract rfl rfl) ?_
      refine DR.det (i := 10) rfl rfl (by kernel_rfl) (.free rfl) rfl rfl (fun wD mD => op_extract rfl rfl) ?_
      refine DR.st1 (i := 12) rfl rfl (by kernel_rfl) (.free rfl) rfl ?_
      intro w23 m22
      refine Op1.mono (op_store (i := 0) (cs := [vS b'3 0 n'1 c'2, vI 0, vI 3, vF ta1, vF 0, vF 0, vF 0, vF 0, vI 2, vF da1, vF f3, vF 0, vF 0, vF 0, vF f4]) rfl rfl rfl Try.sizeOf33 rfl (((r9.ext m20).ext m21).ext m22) rfl (lB rfl) rfl) ?_
      rintro _ w24 ⟨r11, m23, z6⟩
      have r12 : Row w24 w19.heap.size 0 [vS b'3 0 n'1 c'2, vI 0, vI 3, vF ta1, vF 0, vF 0, vF 0, vF 0, vI 2, vF da1, vF f3, vF 0, vF 0, vF 0, vF f4] := Row.congr r11 rfl
      refine ⟨(((((((Mod.refl [] w11).nt m18).nt m19).nt m20).nt m21).nt m22).then m23 ((aC (.inr (lT m18.size lR)) aN))), ?_⟩
      refine DR.rebase ?_
      refine DR.det (i := 13) rfl rfl (by kernel_rfl) (.free rfl) rfl rfl (fun wD mD => op_assign rfl) ?_
      refine DR.sub [(1, .slice Av nv cv), (4, .bool false), (5, vP w8.heap.size 0), (6, vI 0), (7, vP w19.heap.size 0), (8, .int .u32 ((sdAt (digF xsv nv 0 256) n'1 : Nat) : Int)), (61, vI 0)] ⟨rfl, rfl, rfl, rfl, rfl, rfl, rfl, trivial⟩ ?_
      refine DR.meet rfl ?_
      intro w25 m24
      exact ⟨b'3, c'2, zs2, w19.heap.size, rfl, (((r10.ext m22).mod m23 (nC (lG (lL (lL r9.lt m20.size) ge3)) nN)).ext m24), (r12.ext m24), (lT (lT (lT (lT md1.size m18.size) m19.size) m20.size) ge3), (lT (lT md1.size m18.size) lR), (lG (lL (lL r9.lt m20.size) ge3)), h16, h17, h18, (((((((((Mod.refl [] w10).nt md1).nt m18).nt m19).nt m20).nt m21).nt m22).then m23 ((aC (.inr (lT (lT md1.size m18.size) lR)) aN))).nt m24)⟩
  · rintro _ w26 ⟨e1_6_0, e1_6_1, e1_6_2, e1_11_0, rfl, rr1_0, rr1_1, ge4, ge5, ne1, hp1_6_0, hp1_6_1, hp1_6_2, m25⟩
    refine WO.det (op_assign rfl) rfl (.free rfl) rfl rfl ?_
    refine WO.end ?_
    refine NE.code ?_
    refine CE.seq ?_
    refine CE.drawF (fun | 2 => some (fun _ wA uA wB => uA = vF (plainF xsv nv) ∧ (plainF xsv nv < wid .f32) ∧ (finF (plainF xsv nv) = true) ∧ Mod [] wA wB) | 4 => some (fun _ wA uA wB => uA = vI (((digF xsv nv 0 256) : Nat) : Int) ∧ (digF xsv nv 0 256 < 256) ∧ Mod [] wA wB) | 6 => some (fun _ wA uA wB => ∃ (b' : Nat) (c' : Nat) (zs : List Nat), uA = .tuple #[.agg #[vS b' 0 n'1 c', vI 0, vI 3, vF ta1, vF 0, vF 0, vF 0, vF 0, vI 2, vF da1, vF f3, vF 0, vF 0, vF 0, vF f4], .int .u32 ((sdAt (digF xsv nv 0 256) n'1 : Nat) : Int), vI 0] ∧ (zs.length = n'1) ∧ (W32 zs) ∧ (Cn zs (chg (noiseG (plainF xsv nv) (digF xsv nv 0 256)) n'1 0 (List.replicate n'1 0) n'1)) ∧ Row wB b' 0 (fl zs) ∧ wA.heap.size ≤ b' ∧ Mod [] wA wB) | _ => none) [0, 1, 2, 3, 4, 5, 6, 7, 8, 9, 10, 11, 12, 13] [14] [] (fun ρ W => ∃ (e2_6_0 : Nat) (e2_6_1 : Nat) (e2_6_2 : List Nat) (e2_11_0 : Nat), ρ = [(4, .bool false), (6, vI 0), (7, vP e1_11_0 0), (8, .int .u32 ((sdAt (digF xsv nv 0 256) n'1 : Nat) : Int)), (9, vI 0), (10, vP e2_11_0 0), (11, .int .u32 ((sdAt (digF xsv nv 0 256) n'1 : Nat) : Int)), (72, vI 0)] ∧ Row W e2_6_0 0 (fl e2_6_2) ∧ Row W e2_11_0 0 [vS e2_6_0 0 n'1 e2_6_1, vI 0, vI 3, vF ta1, vF 0, vF 0, vF 0, vF 0, vI 2, vF da1, vF f3, vF 0, vF 0, vF 0, vF f4] ∧ w26.heap.size ≤ e2_6_0 ∧ w26.heap.size ≤ e2_11_0 ∧ e2_6_0 ≠ e2_11_0 ∧ (e2_6_2.length = n'1) ∧ (W32 e2_6_2) ∧ (Cn e2_6_2 (chg (noiseG (plainF xsv nv) (digF xsv nv 0 256)) n'1 0 (List.replicate n'1 0) n'1)) ∧ Mod [] w26 W) (by kernel_rfl) (by kernel_rfl) ?_ ?_
    have md2 : Mod [] w26 w26.drew := (Mod.refl _ _).drew
    generalize w26.drew = w27 at md2 ⊢
    · refine DR.det (i := 0) rfl rfl (by kernel_rfl) (.free rfl) rfl rfl (fun wD mD => op_loadA (i := 0) (cs := [vS b'1 0 n'1 n'1, vI 0, vI 3, vF ta1, vF 0, vF 0, vF 0, vF 0, vI 2, vF da1, vF f3, vF 0, vF 0, vF 0, vF f4]) rfl Try.isAgg33 Try.sizeOf33 (((r4.ext m25).ext md2).ext mD).rng rfl rfl rfl) ?_
      refine DR.det (i := 1) rfl rfl (by kernel_rfl) (.free rfl) rfl rfl (fun wD mD => op_move rfl) ?_
      refine DR.call (i := 2) (fun uA => uA = vF (plainF xsv nv) ∧ (plainF xsv nv < wid .f32) ∧ (finF (plainF xsv nv) = true)) rfl rfl (by kernel_rfl) (.free rfl) rfl (ltb rfl) ⟨_, rfl, plainF_lt _ _, plainF_fin _ _⟩ (vs := [.func (.func 18) #[] #[], .slice Av nv cv]) rfl (fun wD mD => oc_call (vs := [.slice Av nv cv]) (cap := []) rfl rfl rfl Try.call18 (c_A2PlainX nv cv Av bv ov xsv lnv hAv hBv (by omega) wD ((((Rng.youngS rv (((((((((rv.ext m1).ext m2).ext m3).ext m4).ext m5).ext m6).ext m7).ext m8).ext m9) m10 (allge_cons (lT (lT (lT (lT (lT (lT (lT (lT m1.size m2.size) m3.size) m4.size) m5.size) m6.size) m7.size) m8.size) lR) allge_nil)).ext m25).ext md2).ext mD))) ?_ ?_
      · rintro w1 _ w2 m1 ⟨rfl, p0, p1, m2⟩; exact ⟨⟨rfl, p0, p1⟩, m2⟩
      rintro _ ⟨rfl, h19, h20⟩
      refine DR.det (i := 3) rfl rfl (by kernel_rfl) (.free rfl) rfl rfl (fun wD mD => op_move rfl) ?_
      refine DR.call (i := 4) (fun uA => uA = vI (((digF xsv nv 0 256) : Nat) : Int) ∧ (digF xsv nv 0 256 < 256)) rfl rfl (by kernel_rfl) (.free rfl) rfl (ltb rfl) ⟨_, rfl, digF_lt (by omega)⟩ (vs := [.func (.func 16) #[] #[], .slice Av nv cv, vI 0, vI 256]) rfl (fun wD mD => oc_call (vs := [.slice Av nv cv, vI 0, vI 256]) (cap := []) rfl rfl rfl Try.call16 (c_A2DigitX nv cv Av bv ov xsv 0 256 lnv hAv hBv (by omega) (by omega) wD ((((Rng.youngS rv (((((((((rv.ext m1).ext m2).ext m3).ext m4).ext m5).ext m6).ext m7).ext m8).ext m9) m10 (allge_cons (lT (lT (lT (lT (lT (lT (lT (lT m1.size m2.size) m3.size) m4.size) m5.size) m6.size) m7.size) m8.size) lR) allge_nil)).ext m25).ext md2).ext mD))) ?_ ?_
      · rintro w1 _ w2 m1 ⟨rfl, p0, m2⟩; exact ⟨⟨rfl, p0⟩, m2⟩
      rintro _ ⟨rfl, h21⟩
      refine DR.det (i := 5) rfl rfl (by kernel_rfl) (.free rfl) rfl rfl (fun wD mD => op_cvt_ii (r := (((digF xsv nv 0 256) : Nat) : Int)) rfl Try.runUnderlying2 Try.runUnderlying37 (w_u32 (by omega) (by omega))) ?_
      refine DR.fork (is := [6, 11]) (by kernel_rfl) (by decide) (all2 ?_ ?_)
      · refine DP.call (i := 6) rfl rfl (.free rfl) rfl (ltb rfl) (vs := [.func (.func 19) #[] #[], .agg #[vS b'1 0 n'1 n'1, vI 0, vI 3, vF ta1, vF 0, vF 0, vF 0, vF 0, vI 2, vF da1, vF f3, vF 0, vF 0, vF 0, vF f4], vF (plainF xsv nv), .int .u32 (((digF xsv nv 0 256) : Nat) : Int)]) rfl ?_
        intro w28 m26
        refine ⟨oc_call (vs := [.agg #[vS b'1 0 n'1 n'1, vI 0, vI 3, vF ta1, vF 0, vF 0, vF 0, vF 0, vI 2, vF da1, vF f3, vF 0, vF 0, vF 0, vF f4], vF (plainF xsv nv), .int .u32 (((digF xsv nv 0 256) : Nat) : Int)]) (cap := []) rfl rfl rfl Try.call19 (c_sNoise n'1 n'1 b'1 (List.replicate n'1 0) 0 (3 : Int) ta1 0 0 0 0 (2 : Int) da1 f3 0 0 0 f4 (plainF xsv nv) (digF xsv nv 0 256) List.length_replicate (by omega) (by omega) (W32.zeros _) (by omega) (by first | assumption | exact W32.get (by assumption) _ | decide +kernel) (by first | assumption | exact W32.get (by assumption) _ | decide +kernel) (by first | assumption | exact W32.get (by assumption) _ | decide +kernel) (by first | assumption | exact W32.get (by assumption) _ | decide +kernel) h19 (by first | assumption | exact new_valid (by first | assumption | exact lawS_of (digF xsu nu 0 40) (digF xsu nu 1 17) (digF xsu nu 2 48) (by assumption) (by assumption) (by assumption) (by assumption) (by assumption) (by assumption) (by assumption) (by assumption) (by assumption) (by assumption))) (by assumption) w28 (((((r1.ext m9).mod m10 (nC (lE (lL r1.lt lR)) nN)).ext m25).ext md2).ext m26).rng), ?_⟩
        rintro _ w29 ⟨b'4, c'3, zs3, rfl, h22, h23, h24, r13, ge6, m27⟩
        refine ⟨(((Mod.refl [] w27).nt m26).nt m27), ?_⟩
        refine DR.det (i := 7) rfl rfl (by kernel_rfl) (.free rfl) rfl rfl (fun wD mD => op_move rfl) ?_
        refine DR.det (i := 8) rfl rfl (by kernel_rfl) (.free rfl) rfl rfl (fun wD mD => op_extract rfl rfl) ?_
        refine DR.det (i := 9) rfl rfl (by kernel_rfl) (.free rfl) rfl rfl (fun wD mD => op_extract rfl rfl) ?_
        refine DR.det (i := 10) rfl rfl (by kernel_rfl) (.free rfl) rfl rfl (fun wD mD => op_extract rfl rfl) ?_
        refine DR.one1 (i := 11) rfl rfl (by kernel_rfl) (.free rfl) rfl (ltb rfl) ?_
        intro w30 m28
        refine Op1.mono (op_alloc (cs := [.slice none 0 0, vI 0, vI 0, vF 0, vF 0, vF 0, vF 0, vF 0, vI 0, vF 0, vF 0, vF 0, vF 0, vF 0, vF 0]) Try.zeroValue33 rfl) ?_
        rintro _ w31 ⟨rfl, r14, m29, z7⟩
        refine ⟨(((((Mod.refl [] w27).nt m26).nt m27).nt m28).nt m29), ?_⟩
        refine DR.st1 (i := 12) rfl rfl (by kernel_rfl) (.free rfl) rfl ?_
        intro w32 m30
        refine Op1.mono (op_store (i := 0) (cs := [vS b'4 0 n'1 c'3, vI 0, vI 3, vF ta1, vF 0, vF 0, vF 0, vF 0, vI 2, vF da1, vF f3, vF 0, vF 0, vF 0, vF f4]) rfl rfl rfl Try.sizeOf33 rfl (r14.ext m30) rfl (lB rfl) rfl) ?_
        rintro _ w33 ⟨r15, m31, z8⟩
        have r16 : Row w33 w30.heap.size 0 [vS b'4 0 n'1 c'3, vI 0, vI 3, vF ta1, vF 0, vF 0, vF 0, vF 0, vI 2, vF da1, vF f3, vF 0, vF 0, vF 0, vF f4] := Row.congr r15 rfl
        refine ⟨(((((((Mod.refl [] w27).nt m26).nt m27).nt m28).nt m29).nt m30).then m31 ((aC (.inr (lT (lT (lT m26.size m27.size) m28.size) lR)) aN))), ?_⟩
        refine DR.rebase ?_
        refine DR.det (i := 13) rfl rfl (by kernel_rfl) (.free rfl) rfl rfl (fun wD mD => op_assign rfl) ?_
        refine DR.sub [(4, .bool false), (6, vI 0), (7, vP e1_11_0 0), (8, .int .u32 ((sdAt (digF xsv nv 0 256) n'1 : Nat) : Int)), (9, vI 0), (10, vP w30.heap.size 0), (11, .int .u32 ((sdAt (digF xsv nv 0 256) n'1 : Nat) : Int)), (72, vI 0)] ⟨rfl, rfl, rfl, rfl, rfl, rfl, rfl, rfl, trivial⟩ ?_
        refine DR.meet rfl ?_
        intro w34 m32
        exact ⟨b'4, c'3, zs3, w30.heap.size, rfl, (((((r13.ext m28).ext m29).ext m30).mod m31 (nC (lE (lL (lL r13.lt m28.size) lR)) nN)).ext m32), (r16.ext m32), (lT (lT md2.size m26.size) ge6), (lT (lT (lT (lT md2.size m26.size) m27.size) m28.size) lR), (lE (lL (lL r13.lt m28.size) lR)), h22, h23, h24, (((((((((Mod.refl [] w26).nt md2).nt m26).nt m27).nt m28).nt m29).nt m30).then m31 ((aC (.inr (lT (lT (lT (lT md2.size m26.size) m27.size) m28.size) lR)) aN))).nt m32)⟩
      · refine DP.op (i := 11) rfl rfl (.free rfl) rfl (ltb rfl) ?_
        intro w35 m33
        refine Op1.mono (op_alloc (cs := [.slice none 0 0, vI 0, vI 0, vF 0, vF 0, vF 0, vF 0, vF 0, vI 0, vF 0, vF 0, vF 0, vF 0, vF 0, vF 0]) Try.zeroValue33 rfl) ?_
        rintro _ w36 ⟨rfl, r17, m34, z9⟩
        refine ⟨(((Mod.refl [] w27).nt m33).nt m34), ?_⟩
        refine DR.one (i := 6) rfl rfl (by kernel_rfl) (.free rfl) rfl (ltb rfl) (vs := [.func (.func 19) #[] #[], .agg #[vS b'1 0 n'1 n'1, vI 0, vI 3, vF ta1, vF 0, vF 0, vF 0, vF 0, vI 2, vF da1, vF f3, vF 0, vF 0, vF 0, vF f4], vF (plainF xsv nv), .int .u32 (((digF xsv nv 0 256) : Nat) : Int)]) rfl ?_
        intro w37 m35
        refine ⟨oc_call (vs := [.agg #[vS b'1 0 n'1 n'1, vI 0, vI 3, vF ta1, vF 0, vF 0, vF 0, vF 0, vI 2, vF da1, vF f3, vF 0, vF 0, vF 0, vF f4], vF (plainF xsv nv), .int .u32 (((digF xsv nv 0 256) : Nat) : Int)]) (cap := []) rfl rfl rfl Try.call19 (c_sNoise n'1 n'1 b'1 (List.replicate n'1 0) 0 (3 : Int) ta1 0 0 0 0 (2 : Int) da1 f3 0 0 0 f4 (plainF xsv nv) (digF xsv nv 0 256) List.length_replicate (by omega) (by omega) (W32.zeros _) (by omega) (by first | assumption | exact W32.get (by assumption) _ | decide +kernel) (by first | assumption | exact W32.get (by assumption) _ | decide +kernel) (by first | assumption | exact W32.get (by assumption) _ | decide +kernel) (by first | assumption | exact W32.get (by assumption) _ | decide +kernel) h19 (by first | assumption | exact new_valid (by first | assumption | exact lawS_of (digF xsu nu 0 40) (digF xsu nu 1 17) (digF xsu nu 2 48) (by assumption) (by assumption) (by assumption) (by assumption) (by assumption) (by assumption) (by assumption) (by assumption) (by assumption) (by assumption))) (by assumption) w37 (((((((r1.ext m9).mod m10 (nC (lE (lL r1.lt lR)) nN)).ext m25).ext md2).ext m33).ext m34).ext m35).rng), ?_⟩
        rintro _ w38 ⟨b'5, c'4, zs4, rfl, h25, h26, h27, r18, ge7, m36⟩
        refine ⟨(((((Mod.refl [] w27).nt m33).nt m34).nt m35).nt m36), ?_⟩
        refine DR.det (i := 7) rfl rfl (by kernel_rfl) (.free rfl) rfl rfl (fun wD mD => op_move rfl) ?_
        refine DR.det (i := 8) rfl rfl (by kernel_rfl) (.free rfl) rfl rfl (fun wD mD => op_extract rfl rfl) ?_
        refine DR.det (i := 9) rfl rfl (by kernel_rfl) (.free rfl) rfl rfl (fun wD mD => op_extract rfl rfl) ?_
        refine DR.det (i := 10) rfl rfl (by kernel_rfl) (.free rfl) rfl rfl (fun wD mD => op_extract rfl rfl) ?_
        refine DR.st1 (i := 12) rfl rfl (by kernel_rfl) (.free rfl) rfl ?_
        intro w39 m37
        refine Op1.mono (op_store (i := 0) (cs := [vS b'5 0 n'1 c'4, vI 0, vI 3, vF ta1, vF 0, vF 0, vF 0, vF 0, vI 2, vF da1, vF f3, vF 0, vF 0, vF 0, vF f4]) rfl rfl rfl Try.sizeOf33 rfl (((r17.ext m35).ext m36).ext m37) rfl (lB rfl) rfl) ?_
        rintro _ w40 ⟨r19, m38, z10⟩
        have r20 : Row w40 w35.heap.size 0 [vS b'5 0 n'1 c'4, vI 0, vI 3, vF ta1, vF 0, vF 0, vF 0, vF 0, vI 2, vF da1, vF f3, vF 0, vF 0, vF 0, vF f4] := Row.congr r19 rfl
        refine ⟨(((((((Mod.refl [] w27).nt m33).nt m34).nt m35).nt m36).nt m37).then m38 ((aC (.inr (lT m33.size lR)) aN))), ?_⟩
        refine DR.rebase ?_
        refine DR.det (i := 13) rfl rfl (by kernel_rfl) (.free rfl) rfl rfl (fun wD mD => op_assign rfl) ?_
        refine DR.sub [(4, .bool false), (6, vI 0), (7, vP e1_11_0 0), (8, .int .u32 ((sdAt (digF xsv nv 0 256) n'1 : Nat) : Int)), (9, vI 0), (10, vP w35.heap.size 0), (11, .int .u32 ((sdAt (digF xsv nv 0 256) n'1 : Nat) : Int)), (72, vI 0)] ⟨rfl, rfl, rfl, rfl, rfl, rfl, rfl, rfl, trivial⟩ ?_
        refine DR.meet rfl ?_
        intro w41 m39
        exact ⟨b'5, c'4, zs4, w35.heap.size, rfl, (((r18.ext m37).mod m38 (nC (lG (lL (lL r17.lt m35.size) ge7)) nN)).ext m39), (r20.ext m39), (lT (lT (lT (lT md2.size m33.size) m34.size) m35.size) ge7), (lT (lT md2.size m33.size) lR), (lG (lL (lL r17.lt m35.size) ge7)), h25, h26, h27, (((((((((Mod.refl [] w26).nt md2).nt m33).nt m34).nt m35).nt m36).nt m37).then m38 ((aC (.inr (lT (lT md2.size m33.size) lR)) aN))).nt m39)⟩
    · rintro _ w42 ⟨e2_6_0, e2_6_1, e2_6_2, e2_11_0, rfl, rr2_0, rr2_1, ge8, ge9, ne2, hp2_6_0, hp2_6_1, hp2_6_2, m40⟩
      refine WO.det (op_assign rfl) rfl (.free rfl) rfl rfl ?_
      refine WO.end ?_
      refine NE.code ?_
      refine CE.seq ?_
      refine CE.seq ?_
      refine CE.region ?_
      refine WL.det (op_move rfl) rfl rfl rfl ?_
      refine WL.det (op_nei rfl rfl) rfl rfl rfl ?_
      refine WL.det (op_move rfl) rfl rfl rfl ?_
      refine WL.yes rfl rfl rfl (ltb rfl) rfl rfl ?_
      refine WL.det (op_move rfl) rfl rfl rfl ?_
      refine WL.yes rfl rfl rfl (ltb rfl) rfl rfl ?_
      refine WL.det (op_move rfl) rfl rfl rfl ?_
      refine WL.yes rfl rfl rfl (ltb rfl) rfl rfl ?_
      refine WL.det (op_nei rfl rfl) rfl rfl rfl ?_
      refine WL.det (op_pick_f rfl rfl rfl) rfl rfl rfl ?_
      refine WL.det (op_move rfl) rfl rfl rfl ?_
      refine WL.yes rfl rfl rfl (ltb rfl) rfl rfl ?_
      refine WL.det (op_move rfl) rfl rfl rfl ?_
      refine WL.yes rfl rfl rfl (ltb rfl) rfl rfl ?_
      refine WL.det (op_nei rfl rfl) rfl rfl rfl ?_
      refine WL.det (op_pick_f rfl rfl rfl) rfl rfl rfl ?_
      refine WL.det (op_move rfl) rfl rfl rfl ?_
      refine WL.yes rfl rfl rfl (ltb rfl) rfl rfl ?_
      refine WL.det (op_loadA (i := 0) (cs := [vS e1_6_0 0 n'1 e1_6_1, vI 0, vI 3, vF ta1, vF 0, vF 0, vF 0, vF 0, vI 2, vF da1, vF f3, vF 0, vF 0, vF 0, vF f4]) rfl Try.isAgg33 Try.sizeOf33 (rr1_1.ext m40).rng rfl rfl rfl) rfl rfl rfl ?_
      refine WL.yes rfl rfl rfl (ltb rfl) rfl rfl ?_
      refine WL.det (op_loadA (i := 0) (cs := [vS e2_6_0 0 n'1 e2_6_1, vI 0, vI 3, vF ta1, vF 0, vF 0, vF 0, vF 0, vI 2, vF da1, vF f3, vF 0, vF 0, vF 0, vF f4]) rfl Try.isAgg33 Try.sizeOf33 rr2_1.rng rfl rfl rfl) rfl rfl rfl ?_
      refine WL.yes rfl rfl rfl (ltb rfl) rfl rfl ?_
      refine WL.call (oc_call (vs := [.agg #[vS e1_6_0 0 n'1 e1_6_1, vI 0, vI 3, vF ta1, vF 0, vF 0, vF 0, vF 0, vI 2, vF da1, vF f3, vF 0, vF 0, vF 0, vF f4], .agg #[vS e2_6_0 0 n'1 e2_6_1, vI 0, vI 3, vF ta1, vF 0, vF 0, vF 0, vF 0, vI 2, vF da1, vF f3, vF 0, vF 0, vF 0, vF f4]]) (cap := []) rfl rfl rfl Try.call20 (c_SameString n'1 e1_6_1 e1_6_0 e1_6_2 (0 : Int) (3 : Int) ta1 0 0 0 0 (2 : Int) da1 f3 0 0 0 f4 e2_6_1 e2_6_0 e2_6_2 hp1_6_0 hp2_6_0 (by first | assumption | exact Cn.eq2 (by assumption) (by assumption)) (by omega) w42 (rr1_0.ext m40).rng rr2_0.rng)) rfl rfl (ltb rfl) ?_
      rintro _ w43 ⟨rfl, m41⟩
      refine WL.yes rfl rfl rfl (ltb rfl) rfl rfl ?_
      refine WL.det (op_not rfl) rfl rfl rfl ?_
      refine WL.det (op_pick_f rfl rfl rfl) rfl rfl rfl ?_
      refine WL.det (op_move rfl) rfl rfl rfl ?_
      refine WL.yes rfl rfl rfl (ltb rfl) rfl rfl ?_
      refine WL.det (op_move rfl) rfl rfl rfl ?_
      refine WL.yes rfl rfl rfl (ltb rfl) rfl rfl ?_
      refine WL.det (op_move rfl) rfl rfl rfl ?_
      refine WL.yes rfl rfl rfl (ltb rfl) rfl rfl ?_
      refine WL.det (op_nei_f rfl rfl rfl) rfl rfl rfl ?_
      refine WL.det (op_pick_f rfl rfl rfl) rfl rfl rfl ?_
      refine WL.end ?_
      refine NE.code ?_
      refine CE.cond_f rfl rfl ?_
      refine CE.skip' ?_
      refine NE.code ?_
      refine CE.seq ?_
      refine CE.region ?_
      refine WL.det (op_loadA (i := 0) (cs := [vS e1_6_0 0 n'1 e1_6_1, vI 0, vI 3, vF ta1, vF 0, vF 0, vF 0, vF 0, vI 2, vF da1, vF f3, vF 0, vF 0, vF 0, vF f4]) rfl Try.isAgg33 Try.sizeOf33 ((rr1_1.ext m40).ext m41).rng rfl rfl rfl) rfl rfl rfl ?_
      refine WL.call (oc_call (vs := [.agg #[vS e1_6_0 0 n'1 e1_6_1, vI 0, vI 3, vF ta1, vF 0, vF 0, vF 0, vF 0, vI 2, vF da1, vF f3, vF 0, vF 0, vF 0, vF f4], vI 20000]) (cap := []) rfl rfl rfl Try.call21 (c_iSilZ n'1 e1_6_1 e1_6_0 ta1 da1 f3 f4 e1_6_2 (by first | assumption | exact lawS_of (digF xsu nu 0 40) (digF xsu nu 1 17) (digF xsu nu 2 48) (by assumption) (by assumption) (by assumption) (by assumption) (by assumption) (by assumption) (by assumption) (by assumption) (by assumption) (by assumption)) hp1_6_0 hp1_6_1 w43 ((rr1_0.ext m40).ext m41).rng)) rfl rfl (ltb rfl) ?_
      rintro _ w44 ⟨rfl, m42⟩
      refine WL.det (op_move rfl) rfl rfl rfl ?_
      refine WL.det (op_extract rfl rfl) rfl rfl rfl ?_
      refine WL.det (op_extract rfl rfl) rfl rfl rfl ?_
      refine WL.det (op_assign rfl) rfl rfl rfl ?_
      refine WL.det (op_assign rfl) rfl rfl rfl ?_
      refine WL.end ?_
      refine NE.code ?_
      refine CE.seq ?_
      refine CE.region ?_
      refine WL.det (op_loadA (i := 0) (cs := [vS e1_6_0 0 n'1 e1_6_1, vI 0, vI 3, vF ta1, vF 0, vF 0, vF 0, vF 0, vI 2, vF da1, vF f3, vF 0, vF 0, vF 0, vF f4]) rfl Try.isAgg33 Try.sizeOf33 (((rr1_1.ext m40).ext m41).ext m42).rng rfl rfl rfl) rfl rfl rfl ?_
      refine WL.call (oc_call (vs := [.agg #[vS e1_6_0 0 n'1 e1_6_1, vI 0, vI 3, vF ta1, vF 0, vF 0, vF 0, vF 0, vI 2, vF da1, vF f3, vF 0, vF 0, vF 0, vF f4], vI 20000]) (cap := []) rfl rfl rfl Try.call22 (c_sSilZ n'1 e1_6_1 e1_6_0 ta1 da1 f3 f4 e1_6_2 (by first | assumption | exact lawS_of (digF xsu nu 0 40) (digF xsu nu 1 17) (digF xsu nu 2 48) (by assumption) (by assumption) (by assumption) (by assumption) (by assumption) (by assumption) (by assumption) (by assumption) (by assumption) (by assumption)) hp1_6_0 hp1_6_1 w44 (((rr1_0.ext m40).ext m41).ext m42).rng)) rfl rfl (ltb rfl) ?_
      rintro _ w45 ⟨rfl, m43⟩
      refine WL.det (op_move rfl) rfl rfl rfl ?_
      refine WL.det (op_extract rfl rfl) rfl rfl rfl ?_
      refine WL.det (op_extract rfl rfl) rfl rfl rfl ?_
      refine WL.det (op_assign rfl) rfl rfl rfl ?_
      refine WL.det (op_assign rfl) rfl rfl rfl ?_
      refine WL.end ?_
      refine NE.code ?_
      refine CE.seq ?_
      refine CE.seq ?_
      refine CE.region ?_
      refine WL.det (op_move rfl) rfl rfl rfl ?_
      refine WL.det (op_move rfl) rfl rfl rfl ?_
      refine WL.det (op_nei_f rfl rfl rfl) rfl rfl rfl ?_
      refine WL.det (op_move rfl) rfl rfl rfl ?_
      refine WL.yes rfl rfl rfl (ltb rfl) rfl rfl ?_
      refine WL.det (op_move rfl) rfl rfl rfl ?_
      refine WL.yes rfl rfl rfl (ltb rfl) rfl rfl ?_
      refine WL.det (op_move rfl) rfl rfl rfl ?_
      refine WL.yes rfl rfl rfl (ltb rfl) rfl rfl ?_
      refine WL.det (op_nei_f rfl rfl rfl) rfl rfl rfl ?_
      refine WL.det (op_pick_f rfl rfl rfl) rfl rfl rfl ?_
      refine WL.end ?_
      refine NE.code ?_
      refine CE.cond_f rfl rfl ?_
      refine CE.skip' ?_
      refine NE.code ?_
      refine CE.seq ?_
      refine CE.seq ?_
      refine CE.region ?_
      refine WL.det (op_move rfl) rfl rfl rfl ?_
      refine WL.det (op_nei rfl rfl) rfl rfl rfl ?_
      refine WL.end ?_
      refine NE.code ?_
      rcases Bool.eq_false_or_eq_true (((silC n'1 ta1 da1 f3 f4 e1_6_2) != (0 : Int))) with hb1 | hb1
      · have hp1 := bne_iff_ne.1 hb1
        refine CE.cond_t rfl hb1 ?_
        refine CE.seq ?_
        refine CE.region ?_
        refine WL.det (op_move rfl) rfl rfl rfl ?_
        refine WL.det (op_eqi rfl rfl) rfl rfl rfl ?_
        refine WL.det (op_assign rfl) rfl rfl rfl ?_
        refine WL.end ?_
        refine NE.code ?_
        refine CE.ret' ?_
        refine XE.ret_then ?_
        refine XE.leave1 Try.results3 rfl ?_
        refine ⟨?_, ((((((((((((((((Mod.refl [] w).nt m1).nt m2).nt m3).nt m4).nt m5).nt m6).nt m7).nt m8).nt m9).then m10 ((aC (.inr (lT (lT (lT (lT (lT (lT (lT (lT m1.size m2.size) m3.size) m4.size) m5.size) m6.size) m7.size) m8.size) lR)) aN))).nt m25).nt m40).nt m41).nt m42).nt m43)⟩
        all_goals first | rfl | exact congrArg Value.bool (sil_after hS hN.2 hz2 (by assumption)) | (exact congrArg Value.bool (decide_eq_true (by have := silC_code (n := n'1) (ta := ta1) (da := da1) (mw := f3) (lw := f4) (zs := e1_6_2); omega)))
      · have hp1 := bne_eq_false_iff_eq.1 hb1
        refine CE.cond_f rfl hb1 ?_
        refine CE.skip' ?_
        refine NE.code ?_
        refine CE.seq ?_
        refine CE.region ?_
        refine WL.det (op_loadA (i := 0) (cs := [vS e1_6_0 0 n'1 e1_6_1, vI 0, vI 3, vF ta1, vF 0, vF 0, vF 0, vF 0, vI 2, vF da1, vF f3, vF 0, vF 0, vF 0, vF f4]) rfl Try.isAgg33 Try.sizeOf33 ((((rr1_1.ext m40).ext m41).ext m42).ext m43).rng rfl rfl rfl) rfl rfl rfl ?_
        refine WL.op (op_alloc (cs := [.slice none 0 0, vI 0, vI 0, vF 0, vF 0, vF 0, vF 0, vF 0, vI 0, vF 0, vF 0, vF 0, vF 0, vF 0, vF 0]) Try.zeroValue33 rfl) rfl rfl (ltb rfl) ?_
        rintro _ w46 ⟨rfl, r21, m44, z11⟩
        refine WL.op0 (op_store (i := 0) (cs := [vS e1_6_0 0 n'1 e1_6_1, vI 0, vI 3, vF ta1, vF 0, vF 0, vF 0, vF 0, vI 2, vF da1, vF f3, vF 0, vF 0, vF 0, vF f4]) rfl rfl rfl Try.sizeOf33 rfl r21 rfl (lB rfl) rfl) rfl rfl ?_
        rintro _ w47 ⟨r22, m45, z12⟩
        have r23 : Row w47 w45.heap.size 0 [vS e1_6_0 0 n'1 e1_6_1, vI 0, vI 3, vF ta1, vF 0, vF 0, vF 0, vF 0, vI 2, vF da1, vF f3, vF 0, vF 0, vF 0, vF f4] := Row.congr r22 rfl
        refine WL.end ?_
        refine NE.code ?_
        refine CE.seq ?_
        refine CE.seq ?_
        refine CE.region ?_
        refine WL.det (op_assign rfl) rfl rfl rfl ?_
        refine WL.end ?_
        refine NE.code ?_
        have hS : LawS n'1 ta1 da1 f3 f4 := by first | assumption | exact lawS_of (digF xsu nu 0 40) (digF xsu nu 1 17) (digF xsu nu 2 48) (by assumption) (by assumption) (by assumption) (by assumption) (by assumption) (by assumption) (by assumption) (by assumption) (by assumption) (by assumption)
        have hN := silN_ok (zs := e1_6_2) (by assumption) hS (by assumption) (by assumption)
        refine CE.block ?_
        refine CE.loop (fun (z : Nat × StrSt × Nat × Nat) => [(18, vI ((z.1 : Nat) : Int)), (4, .bool false), (13, vI (((silN n'1 ta1 da1 f3 f4 e1_6_2) : Nat) : Int)), (17, vP w45.heap.size 0)]) (fun (z : Nat × StrSt × Nat × Nat) => fun W => (z.1 ≤ (silN n'1 ta1 da1 f3 f4 e1_6_2) + 999) ∧ (zL n'1 ta1 da1 f3 f4 e1_6_2 (min z.1 (silN n'1 ta1 da1 f3 f4 e1_6_2)) = z.2.1) ∧ (Way n'1 z.2.1) ∧ z.2.2.1 ≠ w45.heap.size ∧ Row W w45.heap.size 0 [vS z.2.2.1 0 n'1 z.2.2.2, vI ((z.2.1.i : Nat) : Int), vI 3, vF ta1, vF 0, vF 0, vF (z.2.1.t0), vF (z.2.1.t1), vI 2, vF da1, vF f3, vF 0, vF (z.2.1.d0), vF (z.2.1.d1), vF f4] ∧ Row W z.2.2.1 0 (fl z.2.1.xs) ∧ Mod [w45.heap.size] w47 W) (fun (z : Nat × StrSt × Nat × Nat) => (silN n'1 ta1 da1 f3 f4 e1_6_2) - z.1) (0, (StrSt.mk e1_6_2 0 0 0 0 0), e1_6_0, e1_6_1) (⟨rfl, rfl, rfl, rfl, trivial⟩) ⟨(by omega), (by rw [Nat.min_eq_left (Nat.zero_le _)]; unfold zL; rw [strAt_zero]), (by exact Way.start hS (by assumption) (by assumption)), (lE (lL (lL rr1_0.lt (lT (lT (lT m40.size m41.size) m42.size) m43.size)) lR)), (Row.congr r23 rfl), (Row.congr ((((((rr1_0.ext m40).ext m41).ext m42).ext m43).ext m44).mod m45 (nC (lE (lL (lL rr1_0.lt (lT (lT (lT m40.size m41.size) m42.size) m43.size)) lR)) nN)) rfl), Mod.refl _ _⟩ ?_
        rintro ⟨k, z, bb, cc⟩ w48 ⟨hk, hz, hw, hbb, r24, r25, m46⟩
        replace hk : k ≤ (silN n'1 ta1 da1 f3 f4 e1_6_2) + 999 := hk
        replace hz : zL n'1 ta1 da1 f3 f4 e1_6_2 (min k (silN n'1 ta1 da1 f3 f4 e1_6_2)) = z := hz
        replace hw : Way n'1 z := hw
        replace hbb : bb ≠ w45.heap.size := hbb
        replace r24 : Row w48 w45.heap.size 0 [vS bb 0 n'1 cc, vI ((z.i : Nat) : Int), vI 3, vF ta1, vF 0, vF 0, vF (z.t0), vF (z.t1), vI 2, vF da1, vF f3, vF 0, vF (z.d0), vF (z.d1), vF f4] := r24
        replace r25 : Row w48 bb 0 (fl z.xs) := r25
        show CE _ _ _ _ [(18, vI ((k : Nat) : Int)), (4, .bool false), (13, vI (((silN n'1 ta1 da1 f3 f4 e1_6_2) : Nat) : Int)), (17, vP w45.heap.size 0)] _
        refine CE.seq ?_
        refine CE.seq ?_
        refine CE.region ?_
        refine WL.det (op_move rfl) rfl rfl rfl ?_
        refine WL.det (op_move rfl) rfl rfl rfl ?_
        refine WL.det (op_lti rfl rfl) rfl rfl rfl ?_
        refine WL.end ?_
        refine NE.code ?_
        rcases Bool.eq_false_or_eq_true (decide (((k : Nat) : Int) < (((silN n'1 ta1 da1 f3 f4 e1_6_2) : Nat) : Int))) with hb2 | hb2
        · have hp2 := of_decide_eq_true hb2
          refine CE.cond_t rfl hb2 ?_
          refine CE.skip' ?_
          refine NE.code ?_
          refine CE.seq ?_
          refine CE.block ?_
          refine CE.seq ?_
          refine CE.region ?_
          refine WL.det (op_move rfl) rfl rfl rfl ?_
          refine WL.det (op_move rfl) rfl rfl rfl ?_
          refine WL.det (op_sub (r := (((silN n'1 ta1 da1 f3 f4 e1_6_2) - k : Nat) : Int)) rfl rfl (w_nsub (l := (silN n'1 ta1 da1 f3 f4 e1_6_2)) (n := k) (by omega) (by omega))) rfl rfl rfl ?_
          refine WL.det (op_assign rfl) rfl rfl rfl ?_
          refine WL.end ?_
          refine NE.code ?_
          refine CE.seq ?_
          refine CE.seq ?_
          refine CE.region ?_
          refine WL.det (op_move rfl) rfl rfl rfl ?_
          refine WL.det (op_gti rfl rfl) rfl rfl rfl ?_
          refine WL.end ?_
          refine NE.code ?_
          rcases Bool.eq_false_or_eq_true (decide ((1000 : Int) < (((silN n'1 ta1 da1 f3 f4 e1_6_2) - k : Nat) : Int))) with hb3 | hb3
          · have hp3 := of_decide_eq_true hb3
            refine CE.cond_t rfl hb3 ?_
            refine CE.region ?_
            refine WL.det (op_assign rfl) rfl rfl rfl ?_
            refine WL.end ?_
            refine NE.code ?_
            refine CE.seq ?_
            refine CE.region ?_
            refine WL.det (op_loadA (i := 0) (cs := [vS bb 0 n'1 cc, vI ((z.i : Nat) : Int), vI 3, vF ta1, vF 0, vF 0, vF (z.t0), vF (z.t1), vI 2, vF da1, vF f3, vF 0, vF (z.d0), vF (z.d1), vF f4]) rfl Try.isAgg33 Try.sizeOf33 r24.rng rfl rfl rfl) rfl rfl rfl ?_
            refine WL.det (op_move rfl) rfl rfl rfl ?_
            refine WL.call (oc_call (vs := [.agg #[vS bb 0 n'1 cc, vI ((z.i : Nat) : Int), vI 3, vF ta1, vF 0, vF 0, vF (z.t0), vF (z.t1), vI 2, vF da1, vF f3, vF 0, vF (z.d0), vF (z.d1), vF f4], vI 1000]) (cap := []) rfl rfl rfl Try.call23 (c_iPlayZ n'1 cc bb ta1 da1 f3 f4 z 1000 (by first | assumption | exact lawS_of (digF xsu nu 0 40) (digF xsu nu 1 17) (digF xsu nu 2 48) (by assumption) (by assumption) (by assumption) (by assumption) (by assumption) (by assumption) (by assumption) (by assumption) (by assumption) (by assumption)) (by assumption) (by omega) w48 r25.rng)) rfl rfl (ltb rfl) ?_
            rintro _ w49 ⟨zz1, oo1, b'6, c'5, e'1, c3'1, A'1, rfl, h28, h29, h30, h31, h32, h33, r26, r27, ge10, ge11, ne3, m47⟩
            refine WL.det (op_move rfl) rfl rfl rfl ?_
            refine WL.det (op_extract rfl rfl) rfl rfl rfl ?_
            refine WL.det (op_extract rfl rfl) rfl rfl rfl ?_
            refine WL.det (op_extract rfl rfl) rfl rfl rfl ?_
            refine WL.op (op_alloc (cs := [.slice none 0 0, vI 0, vI 0, vF 0, vF 0, vF 0, vF 0, vF 0, vI 0, vF 0, vF 0, vF 0, vF 0, vF 0, vF 0]) Try.zeroValue33 rfl) rfl rfl (ltb rfl) ?_
            rintro _ w50 ⟨rfl, r28, m48, z13⟩
            refine WL.op0 (op_store (i := 0) (cs := [vS b'6 0 n'1 c'5, vI ((zz1.i : Nat) : Int), vI 3, vF ta1, vF 0, vF 0, vF (zz1.t0), vF (zz1.t1), vI 2, vF da1, vF f3, vF 0, vF (zz1.d0), vF (zz1.d1), vF f4]) rfl rfl rfl Try.sizeOf33 rfl r28 rfl (lB rfl) rfl) rfl rfl ?_
            rintro _ w51 ⟨r29, m49, z14⟩
            have r30 : Row w51 w49.heap.size 0 [vS b'6 0 n'1 c'5, vI ((zz1.i : Nat) : Int), vI 3, vF ta1, vF 0, vF 0, vF (zz1.t0), vF (zz1.t1), vI 2, vF da1, vF f3, vF 0, vF (zz1.d0), vF (zz1.d1), vF f4] := Row.congr r29 rfl
            refine WL.det (op_assign rfl) rfl rfl rfl ?_
            refine WL.det (op_assign rfl) rfl rfl rfl ?_
            refine WL.end ?_
            refine NE.code ?_
            refine CE.seq ?_
            refine CE.seq ?_
            refine CE.region ?_
            refine WL.det (op_move rfl) rfl rfl rfl ?_
            refine WL.det (op_nei rfl rfl) rfl rfl rfl ?_
            refine WL.end ?_
            refine NE.code ?_
            refine CE.cond_f rfl rfl ?_
            refine CE.skip' ?_
            refine NE.code ?_
            refine CE.region ?_
            refine WL.det (op_loadA (i := 0) (cs := [vS b'6 0 n'1 c'5, vI ((zz1.i : Nat) : Int), vI 3, vF ta1, vF 0, vF 0, vF (zz1.t0), vF (zz1.t1), vI 2, vF da1, vF f3, vF 0, vF (zz1.d0), vF (zz1.d1), vF f4]) rfl Try.isAgg33 Try.sizeOf33 r30.rng rfl rfl rfl) rfl rfl rfl ?_
            refine WL.op0 (op_store (i := 0) (cs := [vS b'6 0 n'1 c'5, vI ((zz1.i : Nat) : Int), vI 3, vF ta1, vF 0, vF 0, vF (zz1.t0), vF (zz1.t1), vI 2, vF da1, vF f3, vF 0, vF (zz1.d0), vF (zz1.d1), vF f4]) rfl rfl rfl Try.sizeOf33 rfl (((r24.ext m47).ext m48).mod m49 (nC (lE (lL (lL r21.lt (lT (lT m45.size m46.size) m47.size)) lR)) nN)) rfl (lB rfl) rfl) rfl rfl ?_
            rintro _ w52 ⟨r31, m50, z15⟩
            have r32 : Row w52 w45.heap.size 0 [vS b'6 0 n'1 c'5, vI ((zz1.i : Nat) : Int), vI 3, vF ta1, vF 0, vF 0, vF (zz1.t0), vF (zz1.t1), vI 2, vF da1, vF f3, vF 0, vF (zz1.d0), vF (zz1.d1), vF f4] := Row.congr r31 rfl
            refine WL.end ?_
            refine NE.blk ?_
            refine NE.code ?_
            refine CE.region ?_
            refine WL.det (op_move rfl) rfl rfl rfl ?_
            refine WL.det (op_add (r := ((k + 1000 : Nat) : Int)) rfl rfl (w_i64 (by omega) (by omega))) rfl rfl rfl ?_
            refine WL.det (op_assign rfl) rfl rfl rfl ?_
            refine WL.end ?_
            exact NE.again ((k + 1000), zz1, b'6, c'5) (⟨rfl, rfl, rfl, rfl, trivial⟩) ⟨(by omega), (by exact way_next hz (by assumption) (by omega)), (by assumption), (lG (lL (lL r21.lt (lT m45.size m46.size)) ge10)), (Row.congr r32 rfl), (Row.congr (((r26.ext m48).mod m49 (nC (lE (lL r26.lt lR)) nN)).mod m50 (nC (lG (lL (lL r21.lt (lT m45.size m46.size)) ge10)) nN)) rfl), ((((m46.nt m47).nt m48).then m49 ((aC (.inr (lT (lT m46.size m47.size) lR)) aN))).then m50 ((aC (.inl (by simp)) aN)))⟩ (by first | (dsimp only; omega) | omega)
          · have hp3 := of_decide_eq_false hb3
            refine CE.cond_f rfl hb3 ?_
            refine CE.skip' ?_
            refine NE.code ?_
            refine CE.seq ?_
            refine CE.region ?_
            refine WL.det (op_loadA (i := 0) (cs := [vS bb 0 n'1 cc, vI ((z.i : Nat) : Int), vI 3, vF ta1, vF 0, vF 0, vF (z.t0), vF (z.t1), vI 2, vF da1, vF f3, vF 0, vF (z.d0), vF (z.d1), vF f4]) rfl Try.isAgg33 Try.sizeOf33 r24.rng rfl rfl rfl) rfl rfl rfl ?_
            refine WL.det (op_move rfl) rfl rfl rfl ?_
            refine WL.call (oc_call (vs := [.agg #[vS bb 0 n'1 cc, vI ((z.i : Nat) : Int), vI 3, vF ta1, vF 0, vF 0, vF (z.t0), vF (z.t1), vI 2, vF da1, vF f3, vF 0, vF (z.d0), vF (z.d1), vF f4], vI (((silN n'1 ta1 da1 f3 f4 e1_6_2) - k : Nat) : Int)]) (cap := []) rfl rfl rfl Try.call23 (c_iPlayZ n'1 cc bb ta1 da1 f3 f4 z ((silN n'1 ta1 da1 f3 f4 e1_6_2) - k) (by first | assumption | exact lawS_of (digF xsu nu 0 40) (digF xsu nu 1 17) (digF xsu nu 2 48) (by assumption) (by assumption) (by assumption) (by assumption) (by assumption) (by assumption) (by assumption) (by assumption) (by assumption) (by assumption)) (by assumption) (by omega) w48 r25.rng)) rfl rfl (ltb rfl) ?_
            rintro _ w53 ⟨zz2, oo2, b'7, c'6, e'2, c3'2, A'2, rfl, h34, h35, h36, h37, h38, h39, r33, r34, ge12, ge13, ne4, m51⟩
            refine WL.det (op_move rfl) rfl rfl rfl ?_
            refine WL.det (op_extract rfl rfl) rfl rfl rfl ?_
            refine WL.det (op_extract rfl rfl) rfl rfl rfl ?_
            refine WL.det (op_extract rfl rfl) rfl rfl rfl ?_
            refine WL.op (op_alloc (cs := [.slice none 0 0, vI 0, vI 0, vF 0, vF 0, vF 0, vF 0, vF 0, vI 0, vF 0, vF 0, vF 0, vF 0, vF 0, vF 0]) Try.zeroValue33 rfl) rfl rfl (ltb rfl) ?_
            rintro _ w54 ⟨rfl, r35, m52, z16⟩
            refine WL.op0 (op_store (i := 0) (cs := [vS b'7 0 n'1 c'6, vI ((zz2.i : Nat) : Int), vI 3, vF ta1, vF 0, vF 0, vF (zz2.t0), vF (zz2.t1), vI 2, vF da1, vF f3, vF 0, vF (zz2.d0), vF (zz2.d1), vF f4]) rfl rfl rfl Try.sizeOf33 rfl r35 rfl (lB rfl) rfl) rfl rfl ?_
            rintro _ w55 ⟨r36, m53, z17⟩
            have r37 : Row w55 w53.heap.size 0 [vS b'7 0 n'1 c'6, vI ((zz2.i : Nat) : Int), vI 3, vF ta1, vF 0, vF 0, vF (zz2.t0), vF (zz2.t1), vI 2, vF da1, vF f3, vF 0, vF (zz2.d0), vF (zz2.d1), vF f4] := Row.congr r36 rfl
            refine WL.det (op_assign rfl) rfl rfl rfl ?_
            refine WL.det (op_assign rfl) rfl rfl rfl ?_
            refine WL.end ?_
            refine NE.code ?_
            refine CE.seq ?_
            refine CE.seq ?_
            refine CE.region ?_
            refine WL.det (op_move rfl) rfl rfl rfl ?_
            refine WL.det (op_nei rfl rfl) rfl rfl rfl ?_
            refine WL.end ?_
            refine NE.code ?_
            refine CE.cond_f rfl rfl ?_
            refine CE.skip' ?_
            refine NE.code ?_
            refine CE.region ?_
            refine WL.det (op_loadA (i := 0) (cs := [vS b'7 0 n'1 c'6, vI ((zz2.i : Nat) : Int), vI 3, vF ta1, vF 0, vF 0, vF (zz2.t0), vF (zz2.t1), vI 2, vF da1, vF f3, vF 0, vF (zz2.d0), vF (zz2.d1), vF f4]) rfl Try.isAgg33 Try.sizeOf33 r37.rng rfl rfl rfl) rfl rfl rfl ?_
            refine WL.op0 (op_store (i := 0) (cs := [vS b'7 0 n'1 c'6, vI ((zz2.i : Nat) : Int), vI 3, vF ta1, vF 0, vF 0, vF (zz2.t0), vF (zz2.t1), vI 2, vF da1, vF f3, vF 0, vF (zz2.d0), vF (zz2.d1), vF f4]) rfl rfl rfl Try.sizeOf33 rfl (((r24.ext m51).ext m52).mod m53 (nC (lE (lL (lL r21.lt (lT (lT m45.size m46.size) m51.size)) lR)) nN)) rfl (lB rfl) rfl) rfl rfl ?_
            rintro _ w56 ⟨r38, m54, z18⟩
            have r39 : Row w56 w45.heap.size 0 [vS b'7 0 n'1 c'6, vI ((zz2.i : Nat) : Int), vI 3, vF ta1, vF 0, vF 0, vF (zz2.t0), vF (zz2.t1), vI 2, vF da1, vF f3, vF 0, vF (zz2.d0), vF (zz2.d1), vF f4] := Row.congr r38 rfl
            refine WL.end ?_
            refine NE.blk ?_
            refine NE.code ?_
            refine CE.region ?_
            refine WL.det (op_move rfl) rfl rfl rfl ?_
            refine WL.det (op_add (r := ((k + 1000 : Nat) : Int)) rfl rfl (w_i64 (by omega) (by omega))) rfl rfl rfl ?_
            refine WL.det (op_assign rfl) rfl rfl rfl ?_
            refine WL.end ?_
            exact NE.again ((k + 1000), zz2, b'7, c'6) (⟨rfl, rfl, rfl, rfl, trivial⟩) ⟨(by omega), (by exact way_next hz (by assumption) (by omega)), (by assumption), (lG (lL (lL r21.lt (lT m45.size m46.size)) ge12)), (Row.congr r39 rfl), (Row.congr (((r33.ext m52).mod m53 (nC (lE (lL r33.lt lR)) nN)).mod m54 (nC (lG (lL (lL r21.lt (lT m45.size m46.size)) ge12)) nN)) rfl), ((((m46.nt m51).nt m52).then m53 ((aC (.inr (lT (lT m46.size m51.size) lR)) aN))).then m54 ((aC (.inl (by simp)) aN)))⟩ (by first | (dsimp only; omega) | omega)
        · have hp2 := of_decide_eq_false hb2
          refine CE.cond_f rfl hb2 ?_
          refine CE.exit' ?_
          refine XE.exit_then ?_
          refine XE.exit_then ?_
          refine XE.exit_here ?_
          refine NE.code ?_
          refine CE.seq ?_
          refine CE.region ?_
          refine WL.det (op_loadA (i := 0) (cs := [vS bb 0 n'1 cc, vI ((z.i : Nat) : Int), vI 3, vF ta1, vF 0, vF 0, vF (z.t0), vF (z.t1), vI 2, vF da1, vF f3, vF 0, vF (z.d0), vF (z.d1), vF f4]) rfl Try.isAgg33 Try.sizeOf33 r24.rng rfl rfl rfl) rfl rfl rfl ?_
          refine WL.call (oc_call (vs := [.agg #[vS bb 0 n'1 cc, vI ((z.i : Nat) : Int), vI 3, vF ta1, vF 0, vF 0, vF (z.t0), vF (z.t1), vI 2, vF da1, vF f3, vF 0, vF (z.d0), vF (z.d1), vF f4]]) (cap := []) rfl rfl rfl Try.call24 (c_IsSilZ n'1 cc bb ta1 da1 f3 f4 z (by first | assumption | exact lawS_of (digF xsu nu 0 40) (digF xsu nu 1 17) (digF xsu nu 2 48) (by assumption) (by assumption) (by assumption) (by assumption) (by assumption) (by assumption) (by assumption) (by assumption) (by assumption) (by assumption)) (by assumption) w48 r25.rng)) rfl rfl (ltb rfl) ?_
          rintro _ w57 ⟨rfl, m55⟩
          refine WL.det (op_move rfl) rfl rfl rfl ?_
          refine WL.det (op_extract rfl rfl) rfl rfl rfl ?_
          refine WL.det (op_extract rfl rfl) rfl rfl rfl ?_
          refine WL.det (op_assign rfl) rfl rfl rfl ?_
          refine WL.det (op_assign rfl) rfl rfl rfl ?_
          refine WL.end ?_
          refine NE.code ?_
          refine CE.seq ?_
          refine CE.region ?_
          refine WL.det (op_loadA (i := 0) (cs := [vS bb 0 n'1 cc, vI ((z.i : Nat) : Int), vI 3, vF ta1, vF 0, vF 0, vF (z.t0), vF (z.t1), vI 2, vF da1, vF f3, vF 0, vF (z.d0), vF (z.d1), vF f4]) rfl Try.isAgg33 Try.sizeOf33 (r24.ext m55).rng rfl rfl rfl) rfl rfl rfl ?_
          refine WL.call (oc_call (vs := [.agg #[vS bb 0 n'1 cc, vI ((z.i : Nat) : Int), vI 3, vF ta1, vF 0, vF 0, vF (z.t0), vF (z.t1), vI 2, vF da1, vF f3, vF 0, vF (z.d0), vF (z.d1), vF f4], vI 20]) (cap := []) rfl rfl rfl Try.call23 (c_iPlayZ n'1 cc bb ta1 da1 f3 f4 z 20 (by first | assumption | exact lawS_of (digF xsu nu 0 40) (digF xsu nu 1 17) (digF xsu nu 2 48) (by assumption) (by assumption) (by assumption) (by assumption) (by assumption) (by assumption) (by assumption) (by assumption) (by assumption) (by assumption)) (by assumption) (by omega) w57 (r25.ext m55).rng)) rfl rfl (ltb rfl) ?_
          rintro _ w58 ⟨zz3, oo3, b'8, c'7, e'3, c3'3, A'3, rfl, h40, h41, h42, h43, h44, h45, r40, r41, ge14, ge15, ne5, m56⟩
          refine WL.det (op_move rfl) rfl rfl rfl ?_
          refine WL.det (op_extract rfl rfl) rfl rfl rfl ?_
          refine WL.det (op_extract rfl rfl) rfl rfl rfl ?_
          refine WL.det (op_extract rfl rfl) rfl rfl rfl ?_
          refine WL.op (op_alloc (cs := [.slice none 0 0, vI 0, vI 0, vF 0, vF 0, vF 0, vF 0, vF 0, vI 0, vF 0, vF 0, vF 0, vF 0, vF 0, vF 0]) Try.zeroValue33 rfl) rfl rfl (ltb rfl) ?_
          rintro _ w59 ⟨rfl, r42, m57, z19⟩
          refine WL.op0 (op_store (i := 0) (cs := [vS b'8 0 n'1 c'7, vI ((zz3.i : Nat) : Int), vI 3, vF ta1, vF 0, vF 0, vF (zz3.t0), vF (zz3.t1), vI 2, vF da1, vF f3, vF 0, vF (zz3.d0), vF (zz3.d1), vF f4]) rfl rfl rfl Try.sizeOf33 rfl r42 rfl (lB rfl) rfl) rfl rfl ?_
          rintro _ w60 ⟨r43, m58, z20⟩
          have r44 : Row w60 w58.heap.size 0 [vS b'8 0 n'1 c'7, vI ((zz3.i : Nat) : Int), vI 3, vF ta1, vF 0, vF 0, vF (zz3.t0), vF (zz3.t1), vI 2, vF da1, vF f3, vF 0, vF (zz3.d0), vF (zz3.d1), vF f4] := Row.congr r43 rfl
          refine WL.det (op_assign rfl) rfl rfl rfl ?_
          refine WL.det (op_assign rfl) rfl rfl rfl ?_
          refine WL.end ?_
          refine NE.code ?_
          refine CE.seq ?_
          refine CE.region ?_
          refine WL.det (op_loadA (i := 0) (cs := [vS b'8 0 n'1 c'7, vI ((zz3.i : Nat) : Int), vI 3, vF ta1, vF 0, vF 0, vF (zz3.t0), vF (zz3.t1), vI 2, vF da1, vF f3, vF 0, vF (zz3.d0), vF (zz3.d1), vF f4]) rfl Try.isAgg33 Try.sizeOf33 r44.rng rfl rfl rfl) rfl rfl rfl ?_
          refine WL.call (oc_call (vs := [.agg #[vS b'8 0 n'1 c'7, vI ((zz3.i : Nat) : Int), vI 3, vF ta1, vF 0, vF 0, vF (zz3.t0), vF (zz3.t1), vI 2, vF da1, vF f3, vF 0, vF (zz3.d0), vF (zz3.d1), vF f4]]) (cap := []) rfl rfl rfl Try.call24 (c_IsSilentStr n'1 c'7 b'8 zz3.xs zz3.i (3 : Int) ta1 0 0 (zz3.t0) (zz3.t1) (2 : Int) da1 f3 0 (zz3.d0) (zz3.d1) f4 h40 (by first | assumption | exact Way.i (by assumption) | omega | exact Nat.mod_lt _ (by omega)) (by omega) (by first | assumption | exact Way.valid hS (by assumption)) w60 ((r40.ext m57).mod m58 (nC (lE (lL r40.lt lR)) nN)).rng)) rfl rfl (ltb rfl) ?_
          rintro _ w61 ⟨rfl, m59⟩
          refine WL.det (op_move rfl) rfl rfl rfl ?_
          refine WL.det (op_extract rfl rfl) rfl rfl rfl ?_
          refine WL.det (op_extract rfl rfl) rfl rfl rfl ?_
          refine WL.det (op_assign rfl) rfl rfl rfl ?_
          refine WL.det (op_assign rfl) rfl rfl rfl ?_
          refine WL.end ?_
          refine NE.code ?_
          refine CE.seq ?_
          refine CE.seq ?_
          refine CE.region ?_
          refine WL.det (op_assign rfl) rfl rfl rfl ?_
          refine WL.end ?_
          refine NE.code ?_
          have hk9 : min k (silN n'1 ta1 da1 f3 f4 e1_6_2) = (silN n'1 ta1 da1 f3 f4 e1_6_2) := by omega
          have hz2 : zL n'1 ta1 da1 f3 f4 e1_6_2 (silN n'1 ta1 da1 f3 f4 e1_6_2) = z := by rw [hk9] at hz; exact hz
          refine CE.block ?_
          refine CE.loop (fun (j : Nat) => [(30, vI ((j : Nat) : Int)), (4, .bool false), (23, .bool (strSilent n'1 z.xs z.t0 z.t1 z.d0 z.d1)), (24, vI 0), (26, .slice A'3 20 c3'3), (27, vI 0), (28, .bool (strSilent n'1 zz3.xs (zz3.t0) (zz3.t1) (zz3.d0) (zz3.d1))), (29, vI 0)]) (fun (j : Nat) => fun W => (j ≤ 20) ∧ Mod [] w61 W) (fun (j : Nat) => 20 - j) 0 (⟨rfl, rfl, rfl, rfl, rfl, rfl, rfl, rfl, trivial⟩) ⟨(by omega), Mod.refl _ _⟩ ?_
          rintro j w62 ⟨hj, m60⟩
          show CE _ _ _ _ [(30, vI ((j : Nat) : Int)), (4, .bool false), (23, .bool (strSilent n'1 z.xs z.t0 z.t1 z.d0 z.d1)), (24, vI 0), (26, .slice A'3 20 c3'3), (27, vI 0), (28, .bool (strSilent n'1 zz3.xs (zz3.t0) (zz3.t1) (zz3.d0) (zz3.d1))), (29, vI 0)] _
          refine CE.seq ?_
          refine CE.seq ?_
          refine CE.region ?_
          refine WL.det (op_move rfl) rfl rfl rfl ?_
          refine WL.det (op_move rfl) rfl rfl rfl ?_
          refine WL.det (op_len rfl Try.runUnderlying24) rfl rfl rfl ?_
          refine WL.det (op_lti rfl rfl) rfl rfl rfl ?_
          refine WL.end ?_
          refine NE.code ?_
          rcases Bool.eq_false_or_eq_true (decide (((j : Nat) : Int) < (20 : Int))) with hb4 | hb4
          · have hp4 := of_decide_eq_true hb4
            refine CE.cond_t rfl hb4 ?_
            refine CE.skip' ?_
            refine NE.code ?_
            refine CE.seq ?_
            refine CE.block ?_
            refine CE.seq ?_
            refine CE.region ?_
            refine WL.det (op_move rfl) rfl rfl rfl ?_
            refine WL.det (op_move rfl) rfl rfl rfl ?_
            refine WL.det (op_indexSl (off' := 0 + j) rfl (h42 (by omega)) rfl Try.runUnderlying24 Try.sizeOf27 (by omega) (by omega) (by omega)) rfl rfl rfl ?_
            refine WL.det (op_load1 (i := j) rfl Try.isAgg27 ((((r41.ext m57).mod m58 (nC (lE (lL r41.lt lR)) nN)).ext m59).ext m60).rng rfl (fl_get (by have eL : List.length oo3 = 20 := h41; omega))) rfl rfl rfl ?_
            refine WL.det (op_fne (c := !(fEq .f32 (oo3.getD j 0) 0)) rfl rfl rfl rfl rfl) rfl rfl rfl ?_
            refine WL.end ?_
            refine NE.code ?_
            refine CE.cond_f rfl (bnot_t (sil_outz hS hN.2 hz2 (by assumption) (by omega))) ?_
            refine CE.skip' ?_
            refine NE.blk ?_
            refine NE.code ?_
            refine CE.region ?_
            refine WL.det (op_move rfl) rfl rfl rfl ?_
            refine WL.det (op_add (r := ((j + 1 : Nat) : Int)) rfl rfl (w_i64 (by omega) (by omega))) rfl rfl rfl ?_
            refine WL.det (op_assign rfl) rfl rfl rfl ?_
            refine WL.end ?_
            exact NE.again (j + 1) (⟨rfl, rfl, rfl, rfl, rfl, rfl, rfl, rfl, trivial⟩) ⟨(by omega), m60⟩ (by first | (dsimp only; omega) | omega)
          · have hp4 := of_decide_eq_false hb4
            refine CE.cond_f rfl hb4 ?_
            refine CE.exit' ?_
            refine XE.exit_then ?_
            refine XE.exit_then ?_
            refine XE.exit_here ?_
            refine NE.code ?_
            refine CE.seq ?_
            refine CE.region ?_
            refine WL.det (op_move rfl) rfl rfl rfl ?_
            refine WL.det (op_eqi rfl rfl) rfl rfl rfl ?_
            refine WL.det (op_move rfl) rfl rfl rfl ?_
            refine WL.yes rfl rfl rfl (ltb rfl) rfl rfl ?_
            refine WL.det (op_move rfl) rfl rfl rfl ?_
            refine WL.det (op_pick_t rfl rfl rfl) rfl rfl rfl ?_
            refine WL.det (op_move rfl) rfl rfl rfl ?_
            refine WL.yes rfl rfl rfl (ltb rfl) rfl (sil_now hN.2 hz2) ?_
            refine WL.det (op_move rfl) rfl rfl rfl ?_
            refine WL.yes rfl rfl rfl (ltb rfl) rfl (sil_now hN.2 hz2) ?_
            refine WL.det (op_eqi rfl rfl) rfl rfl rfl ?_
            refine WL.det (op_pick_t rfl (sil_now hN.2 hz2) rfl) rfl rfl rfl ?_
            refine WL.det (op_move rfl) rfl rfl rfl ?_
            refine WL.yes rfl rfl rfl (ltb rfl) rfl rfl ?_
            refine WL.det (op_move rfl) rfl rfl rfl ?_
            refine WL.yes rfl rfl rfl (ltb rfl) rfl rfl ?_
            refine WL.det (op_eqi rfl rfl) rfl rfl rfl ?_
            refine WL.det (op_pick_t rfl rfl rfl) rfl rfl rfl ?_
            refine WL.det (op_move rfl) rfl rfl rfl ?_
            refine WL.yes rfl rfl rfl (ltb rfl) rfl rfl ?_
            refine WL.det (op_move rfl) rfl rfl rfl ?_
            refine WL.det (op_pick_t rfl rfl rfl) rfl rfl rfl ?_
            refine WL.det (op_assign rfl) rfl rfl rfl ?_
            refine WL.end ?_
            refine NE.code ?_
            refine CE.ret' ?_
            refine XE.leave1 Try.results3 rfl ?_
            refine ⟨?_, (((((((((((((((((((((((((Mod.refl [] w).nt m1).nt m2).nt m3).nt m4).nt m5).nt m6).nt m7).nt m8).nt m9).then m10 ((aC (.inr (lT (lT (lT (lT (lT (lT (lT (lT m1.size m2.size) m3.size) m4.size) m5.size) m6.size) m7.size) m8.size) lR)) aN))).nt m25).nt m40).nt m41).nt m42).nt m43).nt m44).then m45 ((aC (.inr (lT (lT (lT (lT (lT (lT (lT (lT (lT (lT (lT (lT (lT (lT (lT m1.size m2.size) m3.size) m4.size) m5.size) m6.size) m7.size) m8.size) m9.size) m10.size) m25.size) m40.size) m41.size) m42.size) m43.size) lR)) aN))).then m46 ((aC (.inr (lT (lT (lT (lT (lT (lT (lT (lT (lT (lT (lT (lT (lT (lT (lT m1.size m2.size) m3.size) m4.size) m5.size) m6.size) m7.size) m8.size) m9.size) m10.size) m25.size) m40.size) m41.size) m42.size) m43.size) lR)) aN))).nt m55).nt m56).nt m57).then m58 ((aC (.inr (lT (lT (lT (lT (lT (lT (lT (lT (lT (lT (lT (lT (lT (lT (lT (lT (lT (lT (lT (lT m1.size m2.size) m3.size) m4.size) m5.size) m6.size) m7.size) m8.size) m9.size) m10.size) m25.size) m40.size) m41.size) m42.size) m43.size) m44.size) m45.size) m46.size) m55.size) m56.size) lR)) aN))).nt m59).nt m60)⟩
            all_goals first | rfl | exact congrArg Value.bool (sil_after hS hN.2 hz2 (by assumption)) | (exact congrArg Value.bool (decide_eq_true (by have := silC_code (n := n'1) (ta := ta1) (da := da1) (mw := f3) (lw := f4) (zs := e1_6_2); omega)))

end Go.Proofs.Ytabfdgpldcegiaa
