/- The law on pulling a bow, walked. -/
import Derived.Test.YtkgdhlhmckdcmaaH2
import Derived.Test.YtkgdhlhmckdcmaaE8
set_option linter.unusedVariables false
set_option linter.unusedSimpArgs false
namespace Go.Proofs.Ytkgdhlhmckdcmaa

set_option maxRecDepth 100000 in
set_option maxHeartbeats 2000000 in
theorem law_pull (nNr : Nat) (cNr : Nat) (ANr : Option Addr) (bNr : Nat) (oNr : Nat) (xNr : List Nat) (Nj : Int) (nBr : Nat) (cBr : Nat) (ABr : Option Addr) (bBr : Nat) (oBr : Nat) (xBr : List Nat) (Bj : Int) (Dk : Int) (Dc0 : Nat) (Dc1 : Nat) (Dc2 : Nat) (Ds0 : Nat) (Ds1 : Nat) (sl : Nat) (lo : Nat) (a : Nat) (lnNr : xNr.length = nNr) (hANr : 0 < nNr → ANr = some ⟨bNr, oNr, none⟩) (lnBr : xBr.length = nBr) (hABr : 0 < nBr → ABr = some ⟨bBr, oBr, none⟩) (wNr : W32 xNr) (wBr : W32 xBr) (hn : nNr ≤ 1024) (hm : nBr ≤ 1024) (h0 : 0 < nNr) (h1 : 0 < nBr) (lDs0 : Ds0 < wid .f32) (lDs1 : Ds1 < wid .f32) (hv : vBow nNr Nj nBr Bj xNr xBr Dk Dc0 Dc1 Dc2 Ds0 Ds1 sl lo = true) (hf : finF a = true) (la : a < wid .f32) (w : World) (rNr : Rng w bNr oNr (fl xNr)) (rBr : Rng w bBr oBr (fl xBr)) : Cl Try.prog 3 #[.agg #[.slice ANr nNr cNr, vI Nj, .slice ABr nBr cBr, vI Bj, vI Dk, vF Dc0, vF Dc1, vF Dc2, vF Ds0, vF Ds1, vF sl, vF lo], vF a] w fun v w' => v = .bool true ∧ Mod [] w w' := by
  refine Cl.of Try.func3 Try.ntmps3 rfl rfl (ρ := [(0, .agg #[.slice ANr nNr cNr, vI Nj, .slice ABr nBr cBr, vI Bj, vI Dk, vF Dc0, vF Dc1, vF Dc2, vF Ds0, vF Ds1, vF sl, vF lo]), (1, vF a)]) rfl ?_
  refine CE.seq ?_
  refine CE.region ?_
  refine WL.op (op_box (cs := [.slice ANr nNr cNr, vI Nj, .slice ABr nBr cBr, vI Bj, vI Dk, vF Dc0, vF Dc1, vF Dc2, vF Ds0, vF Ds1, vF sl, vF lo]) rfl rfl) rfl rfl (ltb rfl) ?_
  rintro _ w1 ⟨rfl, r1, m1, z1⟩
  refine WL.det (op_assign rfl) rfl rfl rfl ?_
  refine WL.end ?_
  refine NE.code ?_
  refine CE.seq ?_
  refine CE.region ?_
  refine WL.det (op_assign rfl) rfl rfl rfl ?_
  refine WL.end ?_
  refine NE.code ?_
  refine CE.seq ?_
  refine CE.region ?_
  refine WL.det (op_loadA (i := 0) (cs := [.slice ANr nNr cNr, vI Nj, .slice ABr nBr cBr, vI Bj, vI Dk, vF Dc0, vF Dc1, vF Dc2, vF Ds0, vF Ds1, vF sl, vF lo]) rfl Try.isAgg31 Try.sizeOf31 r1.rng rfl rfl rfl) rfl rfl rfl ?_
  refine WL.det (op_move rfl) rfl rfl rfl ?_
  refine WL.call (oc_call (vs := [.agg #[.slice ANr nNr cNr, vI Nj, .slice ABr nBr cBr, vI Bj, vI Dk, vF Dc0, vF Dc1, vF Dc2, vF Ds0, vF Ds1, vF sl, vF lo], vI 1048576]) (cap := []) rfl rfl rfl Try.call12 (c_szBow 1048576 nNr cNr ANr Nj nBr cBr ABr Bj Dk Dc0 Dc1 Dc2 Ds0 Ds1 sl lo (by omega) (by omega) w1)) rfl rfl (ltb rfl) ?_
  rintro _ w2 ⟨rfl, m2⟩
  refine WL.det (op_assign rfl) rfl rfl rfl ?_
  refine WL.end ?_
  refine NE.code ?_
  refine CE.seq ?_
  refine CE.seq ?_
  refine CE.region ?_
  refine WL.det (op_move rfl) rfl rfl rfl ?_
  refine WL.det (op_lti_f rfl rfl (by omega)) rfl rfl rfl ?_
  refine WL.end ?_
  refine NE.code ?_
  refine CE.cond_f rfl rfl ?_
  refine CE.skip' ?_
  refine NE.code ?_
  refine CE.seq ?_
  refine CE.region ?_
  refine WL.det (op_loadA (i := 0) (cs := [.slice ANr nNr cNr, vI Nj, .slice ABr nBr cBr, vI Bj, vI Dk, vF Dc0, vF Dc1, vF Dc2, vF Ds0, vF Ds1, vF sl, vF lo]) rfl Try.isAgg31 Try.sizeOf31 (r1.ext m2).rng rfl rfl rfl) rfl rfl rfl ?_
  refine WL.call (oc_call (vs := [.agg #[.slice ANr nNr cNr, vI Nj, .slice ABr nBr cBr, vI Bj, vI Dk, vF Dc0, vF Dc1, vF Dc2, vF Ds0, vF Ds1, vF sl, vF lo]]) (cap := []) rfl rfl rfl Try.call14 (c_toBow nNr cNr ANr bNr oNr xNr Nj nBr cBr ABr bBr oBr xBr Bj Dk Dc0 Dc1 Dc2 Ds0 Ds1 sl lo lnNr hANr lnBr hABr (by omega) (by omega) w2 ((rNr.ext m1).ext m2) ((rBr.ext m1).ext m2))) rfl rfl (ltb rfl) ?_
  rintro _ w3 ⟨bNr'1, bBr'1, rfl, r2, r3, ge1, ge2, ne1, m3⟩
  refine WL.det (op_move rfl) rfl rfl rfl ?_
  refine WL.call (oc_call (vs := [.agg #[vS bNr'1 0 nNr nNr, vI Nj, vS bBr'1 0 nBr nBr, vI Bj, vI Dk, vF Dc0, vF Dc1, vF Dc2, vF Ds0, vF Ds1, vF sl, vF lo], vF a]) (cap := []) rfl rfl rfl Try.call13 (c_sPull nNr nNr bNr'1 xNr nBr nBr bBr'1 xBr Nj Bj Dk Dc0 Dc1 Dc2 Ds0 Ds1 sl lo a lnNr lnBr (by omega) (by omega) (by omega) (by omega) (by first | assumption | exact W32.get (by assumption) _ | decide +kernel) (by first | assumption | exact W32.get (by assumption) _ | decide +kernel) (by first | assumption | exact W32.set (by assumption) (by first | assumption | exact wid_lt (by assumption)) | exact W32.zeros _ | exact W32.nil) la (by assumption) (by assumption) w3 r2.rng r3.rng)) rfl rfl (ltb rfl) ?_
  rintro _ w4 ⟨b'1, c'1, d'1, c2'1, rfl, r4, r5, ge3, ge4, ne2, m4⟩
  refine WL.det (op_move rfl) rfl rfl rfl ?_
  refine WL.det (op_extract rfl rfl) rfl rfl rfl ?_
  refine WL.det (op_extract rfl rfl) rfl rfl rfl ?_
  refine WL.op (op_alloc (cs := [.slice none 0 0, vI 0, .slice none 0 0, vI 0, vI 0, vF 0, vF 0, vF 0, vF 0, vF 0, vF 0, vF 0]) Try.zeroValue36 rfl) rfl rfl (ltb rfl) ?_
  rintro _ w5 ⟨rfl, r6, m5, z2⟩
  refine WL.op0 (op_store (i := 0) (cs := [vS b'1 0 nNr c'1, vI Nj, vS d'1 0 nBr c2'1, vI Bj, vI Dk, vF Dc0, vF Dc1, vF Dc2, vF Ds0, vF Ds1, vF sl, vF lo]) rfl rfl rfl Try.sizeOf36 rfl r6 rfl (lB rfl) rfl) rfl rfl ?_
  rintro _ w6 ⟨r7, m6, z3⟩
  have r8 : Row w6 w4.heap.size 0 [vS b'1 0 nNr c'1, vI Nj, vS d'1 0 nBr c2'1, vI Bj, vI Dk, vF Dc0, vF Dc1, vF Dc2, vF Ds0, vF Ds1, vF sl, vF lo] := Row.congr r7 rfl
  refine WL.det (op_assign rfl) rfl rfl rfl ?_
  refine WL.end ?_
  refine NE.code ?_
  refine CE.seq ?_
  refine CE.region ?_
  refine WL.det (op_loadA (i := 0) (cs := [.slice ANr nNr cNr, vI Nj, .slice ABr nBr cBr, vI Bj, vI Dk, vF Dc0, vF Dc1, vF Dc2, vF Ds0, vF Ds1, vF sl, vF lo]) rfl Try.isAgg31 Try.sizeOf31 (((((r1.ext m2).ext m3).ext m4).ext m5).mod m6 (nC (lE (lL (lL r1.lt (lT (lT m2.size m3.size) m4.size)) lR)) nN)).rng rfl rfl rfl) rfl rfl rfl ?_
  refine WL.call (oc_call (vs := [.agg #[.slice ANr nNr cNr, vI Nj, .slice ABr nBr cBr, vI Bj, vI Dk, vF Dc0, vF Dc1, vF Dc2, vF Ds0, vF Ds1, vF sl, vF lo]]) (cap := []) rfl rfl rfl Try.call14 (c_toBow nNr cNr ANr bNr oNr xNr Nj nBr cBr ABr bBr oBr xBr Bj Dk Dc0 Dc1 Dc2 Ds0 Ds1 sl lo lnNr hANr lnBr hABr (by omega) (by omega) w6 (Rng.youngS rNr (((((rNr.ext m1).ext m2).ext m3).ext m4).ext m5) m6 (allge_cons (lT (lT (lT (lT m1.size m2.size) m3.size) m4.size) lR) allge_nil)) (Rng.youngS rBr (((((rBr.ext m1).ext m2).ext m3).ext m4).ext m5) m6 (allge_cons (lT (lT (lT (lT m1.size m2.size) m3.size) m4.size) lR) allge_nil)))) rfl rfl (ltb rfl) ?_
  rintro _ w7 ⟨bNr'2, bBr'2, rfl, r9, r10, ge5, ge6, ne3, m7⟩
  refine WL.op (op_alloc (cs := [.slice none 0 0, vI 0, .slice none 0 0, vI 0, vI 0, vF 0, vF 0, vF 0, vF 0, vF 0, vF 0, vF 0]) Try.zeroValue36 rfl) rfl rfl (ltb rfl) ?_
  rintro _ w8 ⟨rfl, r11, m8, z4⟩
  refine WL.op0 (op_store (i := 0) (cs := [vS bNr'2 0 nNr nNr, vI Nj, vS bBr'2 0 nBr nBr, vI Bj, vI Dk, vF Dc0, vF Dc1, vF Dc2, vF Ds0, vF Ds1, vF sl, vF lo]) rfl rfl rfl Try.sizeOf36 rfl r11 rfl (lB rfl) rfl) rfl rfl ?_
  rintro _ w9 ⟨r12, m9, z5⟩
  have r13 : Row w9 w7.heap.size 0 [vS bNr'2 0 nNr nNr, vI Nj, vS bBr'2 0 nBr nBr, vI Bj, vI Dk, vF Dc0, vF Dc1, vF Dc2, vF Ds0, vF Ds1, vF sl, vF lo] := Row.congr r12 rfl
  refine WL.end ?_
  refine NE.code ?_
  refine CE.seq ?_
  refine CE.region ?_
  refine WL.det (op_loadA (i := 0) (cs := [vS bNr'2 0 nNr nNr, vI Nj, vS bBr'2 0 nBr nBr, vI Bj, vI Dk, vF Dc0, vF Dc1, vF Dc2, vF Ds0, vF Ds1, vF sl, vF lo]) rfl Try.isAgg36 Try.sizeOf36 r13.rng rfl rfl rfl) rfl rfl rfl ?_
  refine WL.det (op_move rfl) rfl rfl rfl ?_
  refine WL.call (oc_call (vs := [.agg #[vS bNr'2 0 nNr nNr, vI Nj, vS bBr'2 0 nBr nBr, vI Bj, vI Dk, vF Dc0, vF Dc1, vF Dc2, vF Ds0, vF Ds1, vF sl, vF lo], vF a]) (cap := []) rfl rfl rfl Try.call15 (c_iPull nNr nNr bNr'2 xNr nBr nBr bBr'2 xBr Nj Bj Dk Dc0 Dc1 Dc2 Ds0 Ds1 sl lo a lnNr lnBr (by omega) (by omega) (by omega) (by omega) (by first | assumption | exact W32.get (by assumption) _ | decide +kernel) (by first | assumption | exact W32.get (by assumption) _ | decide +kernel) (by first | assumption | exact W32.set (by assumption) (by first | assumption | exact wid_lt (by assumption)) | exact W32.zeros _ | exact W32.nil) la (by assumption) (by assumption) w9 ((r9.ext m8).mod m9 (nC (lE (lL r9.lt lR)) nN)).rng ((r10.ext m8).mod m9 (nC (lE (lL r10.lt lR)) nN)).rng)) rfl rfl (ltb rfl) ?_
  rintro _ w10 ⟨b'2, c'2, d'2, c2'2, rfl, r14, r15, ge7, ge8, ne4, m10⟩
  refine WL.det (op_move rfl) rfl rfl rfl ?_
  refine WL.det (op_extract rfl rfl) rfl rfl rfl ?_
  refine WL.det (op_extract rfl rfl) rfl rfl rfl ?_
  refine WL.op (op_alloc (cs := [.slice none 0 0, vI 0, .slice none 0 0, vI 0, vI 0, vF 0, vF 0, vF 0, vF 0, vF 0, vF 0, vF 0]) Try.zeroValue36 rfl) rfl rfl (ltb rfl) ?_
  rintro _ w11 ⟨rfl, r16, m11, z6⟩
  refine WL.op0 (op_store (i := 0) (cs := [vS b'2 0 nNr c'2, vI Nj, vS d'2 0 nBr c2'2, vI Bj, vI Dk, vF Dc0, vF Dc1, vF Dc2, vF Ds0, vF Ds1, vF sl, vF lo]) rfl rfl rfl Try.sizeOf36 rfl r16 rfl (lB rfl) rfl) rfl rfl ?_
  rintro _ w12 ⟨r17, m12, z7⟩
  have r18 : Row w12 w10.heap.size 0 [vS b'2 0 nNr c'2, vI Nj, vS d'2 0 nBr c2'2, vI Bj, vI Dk, vF Dc0, vF Dc1, vF Dc2, vF Ds0, vF Ds1, vF sl, vF lo] := Row.congr r17 rfl
  refine WL.det (op_assign rfl) rfl rfl rfl ?_
  refine WL.end ?_
  refine NE.code ?_
  refine CE.seq ?_
  refine CE.seq ?_
  refine CE.region ?_
  refine WL.det (op_loadA (i := 0) (cs := [vS b'2 0 nNr c'2, vI Nj, vS d'2 0 nBr c2'2, vI Bj, vI Dk, vF Dc0, vF Dc1, vF Dc2, vF Ds0, vF Ds1, vF sl, vF lo]) rfl Try.isAgg36 Try.sizeOf36 r18.rng rfl rfl rfl) rfl rfl rfl ?_
  refine WL.det (op_loadA (i := 0) (cs := [vS b'1 0 nNr c'1, vI Nj, vS d'1 0 nBr c2'1, vI Bj, vI Dk, vF Dc0, vF Dc1, vF Dc2, vF Ds0, vF Ds1, vF sl, vF lo]) rfl Try.isAgg36 Try.sizeOf36 ((((((r8.ext m7).ext m8).mod m9 (nC (lE (lL (lL r6.lt (lT m6.size m7.size)) lR)) nN)).ext m10).ext m11).mod m12 (nC (lE (lL (lL r6.lt (lT (lT (lT (lT m6.size m7.size) m8.size) m9.size) m10.size)) lR)) nN)).rng rfl rfl rfl) rfl rfl rfl ?_
  refine WL.call (oc_call (vs := [.agg #[vS b'2 0 nNr c'2, vI Nj, vS d'2 0 nBr c2'2, vI Bj, vI Dk, vF Dc0, vF Dc1, vF Dc2, vF Ds0, vF Ds1, vF sl, vF lo], .agg #[vS b'1 0 nNr c'1, vI Nj, vS d'1 0 nBr c2'1, vI Bj, vI Dk, vF Dc0, vF Dc1, vF Dc2, vF Ds0, vF Ds1, vF sl, vF lo]]) (cap := []) rfl rfl rfl Try.call16 (c_eqBow nNr c'2 (some ⟨b'2, 0, none⟩) b'2 0 xNr Nj nBr c2'2 (some ⟨d'2, 0, none⟩) d'2 0 ((List.range nBr).map (fun Nj => keptF (fop .add .f32 (xBr.getD Nj 0) a))) Bj Dk Dc0 Dc0 Dc1 Dc1 Dc2 Dc2 Ds0 Ds0 Ds1 Ds1 sl sl lo lo c'1 (some ⟨b'1, 0, none⟩) b'1 0 c2'1 (some ⟨d'1, 0, none⟩) d'1 0 Dc0 Dc1 Dc2 Ds0 Ds1 sl lo lnNr (fun _ => rfl) over_done_len (fun _ => rfl) (fun _ => rfl) (fun _ => rfl) rfl rfl rfl rfl rfl rfl rfl rfl rfl rfl rfl rfl rfl rfl (by omega) (by omega) w12 ((r14.ext m11).mod m12 (nC (lE (lL r14.lt lR)) nN)).rng ((r15.ext m11).mod m12 (nC (lE (lL r15.lt lR)) nN)).rng ((((((((r4.ext m5).mod m6 (nC (lE (lL r4.lt lR)) nN)).ext m7).ext m8).mod m9 (nC (lE (lL (lL r4.lt (lT (lT m5.size m6.size) m7.size)) lR)) nN)).ext m10).ext m11).mod m12 (nC (lE (lL (lL r4.lt (lT (lT (lT (lT (lT m5.size m6.size) m7.size) m8.size) m9.size) m10.size)) lR)) nN)).rng ((((((((r5.ext m5).mod m6 (nC (lE (lL r5.lt lR)) nN)).ext m7).ext m8).mod m9 (nC (lE (lL (lL r5.lt (lT (lT m5.size m6.size) m7.size)) lR)) nN)).ext m10).ext m11).mod m12 (nC (lE (lL (lL r5.lt (lT (lT (lT (lT (lT m5.size m6.size) m7.size) m8.size) m9.size) m10.size)) lR)) nN)).rng)) rfl rfl (ltb rfl) ?_
  rintro _ w13 ⟨rfl, m13⟩
  refine WL.det (op_not rfl) rfl rfl rfl ?_
  refine WL.det (op_move rfl) rfl rfl rfl ?_
  refine WL.yes rfl rfl rfl (ltb rfl) rfl rfl ?_
  refine WL.det (op_move rfl) rfl rfl rfl ?_
  refine WL.yes rfl rfl rfl (ltb rfl) rfl rfl ?_
  refine WL.det (op_move rfl) rfl rfl rfl ?_
  refine WL.yes rfl rfl rfl (ltb rfl) rfl rfl ?_
  refine WL.det (op_nei rfl rfl) rfl rfl rfl ?_
  refine WL.det (op_pick_f rfl rfl rfl) rfl rfl rfl ?_
  refine WL.end ?_
  refine NE.code ?_
  refine CE.cond_f rfl rfl ?_
  refine CE.skip' ?_
  refine NE.code ?_
  refine CE.seq ?_
  refine CE.seq ?_
  refine CE.draw (fun | 2 => some (fun _ wA uA wB => ∃ (bNr' : Nat) (bBr' : Nat), uA = .agg #[vS bNr' 0 nNr nNr, vI Nj, vS bBr' 0 nBr nBr, vI Bj, vI Dk, vF Dc0, vF Dc1, vF Dc2, vF Ds0, vF Ds1, vF sl, vF lo] ∧ Row wB bNr' 0 (fl xNr) ∧ Row wB bBr' 0 (fl xBr) ∧ wA.heap.size ≤ bNr' ∧ wA.heap.size ≤ bBr' ∧ bNr' ≠ bBr' ∧ Mod [] wA wB) | _ => none) [0, 1, 2] [3, 4] [] (by kernel_rfl) (by kernel_rfl) ?_
  have md1 : Mod [] w13 w13.drew := (Mod.refl _ _).drew
  generalize w13.drew = w14 at md1 ⊢
  refine DR.det (i := 0) rfl rfl (by kernel_rfl) (.free rfl) rfl rfl (fun wD mD => op_loadA (i := 0) (cs := [vS bNr'2 0 nNr nNr, vI Nj, vS bBr'2 0 nBr nBr, vI Bj, vI Dk, vF Dc0, vF Dc1, vF Dc2, vF Ds0, vF Ds1, vF sl, vF lo]) rfl Try.isAgg36 Try.sizeOf36 ((((((r13.ext m10).ext m11).mod m12 (nC (lE (lL (lL r11.lt (lT m9.size m10.size)) lR)) nN)).ext m13).ext md1).ext mD).rng rfl rfl rfl) ?_
  refine DR.det (i := 1) rfl rfl (by kernel_rfl) (.free rfl) rfl rfl (fun wD mD => op_loadA (i := 0) (cs := [.slice ANr nNr cNr, vI Nj, .slice ABr nBr cBr, vI Bj, vI Dk, vF Dc0, vF Dc1, vF Dc2, vF Ds0, vF Ds1, vF sl, vF lo]) rfl Try.isAgg31 Try.sizeOf31 ((((((((((((((r1.ext m2).ext m3).ext m4).ext m5).mod m6 (nC (lE (lL (lL r1.lt (lT (lT m2.size m3.size) m4.size)) lR)) nN)).ext m7).ext m8).mod m9 (nC (lE (lL (lL r1.lt (lT (lT (lT (lT (lT m2.size m3.size) m4.size) m5.size) m6.size) m7.size)) lR)) nN)).ext m10).ext m11).mod m12 (nC (lE (lL (lL r1.lt (lT (lT (lT (lT (lT (lT (lT (lT m2.size m3.size) m4.size) m5.size) m6.size) m7.size) m8.size) m9.size) m10.size)) lR)) nN)).ext m13).ext md1).ext mD).rng rfl rfl rfl) ?_
  refine DR.one (i := 2) rfl rfl (by kernel_rfl) (.free rfl) rfl (ltb rfl) (vs := [.func (.func 14) #[] #[], .agg #[.slice ANr nNr cNr, vI Nj, .slice ABr nBr cBr, vI Bj, vI Dk, vF Dc0, vF Dc1, vF Dc2, vF Ds0, vF Ds1, vF sl, vF lo]]) rfl ?_
  intro w15 m14
  refine ⟨oc_call (vs := [.agg #[.slice ANr nNr cNr, vI Nj, .slice ABr nBr cBr, vI Bj, vI Dk, vF Dc0, vF Dc1, vF Dc2, vF Ds0, vF Ds1, vF sl, vF lo]]) (cap := []) rfl rfl rfl Try.call14 (c_toBow nNr cNr ANr bNr oNr xNr Nj nBr cBr ABr bBr oBr xBr Bj Dk Dc0 Dc1 Dc2 Ds0 Ds1 sl lo lnNr hANr lnBr hABr (by omega) (by omega) w15 ((((Rng.youngS rNr (((Rng.youngS rNr (((Rng.youngS rNr (((((rNr.ext m1).ext m2).ext m3).ext m4).ext m5) m6 (allge_cons (lT (lT (lT (lT m1.size m2.size) m3.size) m4.size) lR) allge_nil)).ext m7).ext m8) m9 (allge_cons (lT (lT (lT (lT (lT (lT (lT m1.size m2.size) m3.size) m4.size) m5.size) m6.size) m7.size) lR) allge_nil)).ext m10).ext m11) m12 (allge_cons (lT (lT (lT (lT (lT (lT (lT (lT (lT (lT m1.size m2.size) m3.size) m4.size) m5.size) m6.size) m7.size) m8.size) m9.size) m10.size) lR) allge_nil)).ext m13).ext md1).ext m14) ((((Rng.youngS rBr (((Rng.youngS rBr (((Rng.youngS rBr (((((rBr.ext m1).ext m2).ext m3).ext m4).ext m5) m6 (allge_cons (lT (lT (lT (lT m1.size m2.size) m3.size) m4.size) lR) allge_nil)).ext m7).ext m8) m9 (allge_cons (lT (lT (lT (lT (lT (lT (lT m1.size m2.size) m3.size) m4.size) m5.size) m6.size) m7.size) lR) allge_nil)).ext m10).ext m11) m12 (allge_cons (lT (lT (lT (lT (lT (lT (lT (lT (lT (lT m1.size m2.size) m3.size) m4.size) m5.size) m6.size) m7.size) m8.size) m9.size) m10.size) lR) allge_nil)).ext m13).ext md1).ext m14)), ?_⟩
  rintro _ w16 ⟨bNr'3, bBr'3, rfl, r19, r20, ge9, ge10, ne5, m15⟩
  refine ⟨(((Mod.refl [] w14).nt m14).nt m15), ?_⟩
  refine DR.done rfl ?_
  intro w17 m16
  refine WO.call rfl (.free rfl) rfl (ltb rfl) (oc_call (vs := [.agg #[vS bNr'2 0 nNr nNr, vI Nj, vS bBr'2 0 nBr nBr, vI Bj, vI Dk, vF Dc0, vF Dc1, vF Dc2, vF Ds0, vF Ds1, vF sl, vF lo], .agg #[vS bNr'3 0 nNr nNr, vI Nj, vS bBr'3 0 nBr nBr, vI Bj, vI Dk, vF Dc0, vF Dc1, vF Dc2, vF Ds0, vF Ds1, vF sl, vF lo]]) (cap := []) rfl rfl rfl Try.call16 (c_eqBow nNr nNr (some ⟨bNr'2, 0, none⟩) bNr'2 0 xNr Nj nBr nBr (some ⟨bBr'2, 0, none⟩) bBr'2 0 xBr Bj Dk Dc0 Dc0 Dc1 Dc1 Dc2 Dc2 Ds0 Ds0 Ds1 Ds1 sl sl lo lo nNr (some ⟨bNr'3, 0, none⟩) bNr'3 0 nBr (some ⟨bBr'3, 0, none⟩) bBr'3 0 Dc0 Dc1 Dc2 Ds0 Ds1 sl lo lnNr (fun _ => rfl) lnBr (fun _ => rfl) (fun _ => rfl) (fun _ => rfl) rfl rfl rfl rfl rfl rfl rfl rfl rfl rfl rfl rfl rfl rfl (by omega) (by omega) w17 ((((((((((r9.ext m8).mod m9 (nC (lE (lL r9.lt lR)) nN)).ext m10).ext m11).mod m12 (nC (lE (lL (lL r9.lt (lT (lT m8.size m9.size) m10.size)) lR)) nN)).ext m13).ext md1).ext m14).ext m15).ext m16).rng ((((((((((r10.ext m8).mod m9 (nC (lE (lL r10.lt lR)) nN)).ext m10).ext m11).mod m12 (nC (lE (lL (lL r10.lt (lT (lT m8.size m9.size) m10.size)) lR)) nN)).ext m13).ext md1).ext m14).ext m15).ext m16).rng (r19.ext m16).rng (r20.ext m16).rng)) ?_
  rintro _ w18 ⟨rfl, m17⟩
  refine WO.det (op_not rfl) rfl (.free rfl) rfl rfl ?_
  refine WO.end ?_
  refine NE.code ?_
  refine CE.cond_f rfl rfl ?_
  refine CE.skip' ?_
  refine NE.code ?_
  refine CE.seq ?_
  refine CE.region ?_
  refine WL.det (op_assign rfl) rfl rfl rfl ?_
  refine WL.end ?_
  refine NE.code ?_
  refine CE.seq ?_
  refine CE.region ?_
  refine WL.det (op_loadA (i := 0) (cs := [vS bNr'2 0 nNr nNr, vI Nj, vS bBr'2 0 nBr nBr, vI Bj, vI Dk, vF Dc0, vF Dc1, vF Dc2, vF Ds0, vF Ds1, vF sl, vF lo]) rfl Try.isAgg36 Try.sizeOf36 (((((((((r13.ext m10).ext m11).mod m12 (nC (lE (lL (lL r11.lt (lT m9.size m10.size)) lR)) nN)).ext m13).ext md1).ext m14).ext m15).ext m16).ext m17).rng rfl rfl rfl) rfl rfl rfl ?_
  refine WL.det (op_move rfl) rfl rfl rfl ?_
  refine WL.call (oc_call (vs := [.agg #[vS bNr'2 0 nNr nNr, vI Nj, vS bBr'2 0 nBr nBr, vI Bj, vI Dk, vF Dc0, vF Dc1, vF Dc2, vF Ds0, vF Ds1, vF sl, vF lo], vI 1]) (cap := []) rfl rfl rfl Try.call17 (c_markBow nNr nNr bNr'2 xNr Nj nBr nBr bBr'2 xBr Bj Dk Dc0 Dc1 Dc2 Ds0 Ds1 sl lo 1 lnNr lnBr (by omega) (by omega) (by omega) w18 (((((((((((r9.ext m8).mod m9 (nC (lE (lL r9.lt lR)) nN)).ext m10).ext m11).mod m12 (nC (lE (lL (lL r9.lt (lT (lT m8.size m9.size) m10.size)) lR)) nN)).ext m13).ext md1).ext m14).ext m15).ext m16).ext m17) (((((((((((r10.ext m8).mod m9 (nC (lE (lL r10.lt lR)) nN)).ext m10).ext m11).mod m12 (nC (lE (lL (lL r10.lt (lT (lT m8.size m9.size) m10.size)) lR)) nN)).ext m13).ext md1).ext m14).ext m15).ext m16).ext m17) ne3)) rfl rfl (ltb rfl) ?_
  rintro _ w19 ⟨rfl, r21, r22, m18⟩
  refine WL.det (op_assign rfl) rfl rfl rfl ?_
  refine WL.end ?_
  refine NE.code ?_
  refine CE.seq ?_
  refine CE.seq ?_
  refine CE.region ?_
  refine WL.det (op_move rfl) rfl rfl rfl ?_
  refine WL.det (op_lti_f rfl rfl (by omega)) rfl rfl rfl ?_
  refine WL.det (op_move rfl) rfl rfl rfl ?_
  refine WL.yes rfl rfl rfl (ltb rfl) rfl rfl ?_
  refine WL.det (op_loadA (i := 0) (cs := [vS b'2 0 nNr c'2, vI Nj, vS d'2 0 nBr c2'2, vI Bj, vI Dk, vF Dc0, vF Dc1, vF Dc2, vF Ds0, vF Ds1, vF sl, vF lo]) rfl Try.isAgg36 Try.sizeOf36 (((((((r18.ext m13).ext md1).ext m14).ext m15).ext m16).ext m17).mod m18 (nC (lG (lL (lL r9.lt (lT (lT m8.size m9.size) m10.size)) lR)) (nC (lG (lL (lL r10.lt (lT (lT m8.size m9.size) m10.size)) lR)) nN))).rng rfl rfl rfl) rfl rfl rfl ?_
  refine WL.yes rfl rfl rfl (ltb rfl) rfl rfl ?_
  refine WL.det (op_loadA (i := 0) (cs := [vS b'1 0 nNr c'1, vI Nj, vS d'1 0 nBr c2'1, vI Bj, vI Dk, vF Dc0, vF Dc1, vF Dc2, vF Ds0, vF Ds1, vF sl, vF lo]) rfl Try.isAgg36 Try.sizeOf36 (((((((((((((r8.ext m7).ext m8).mod m9 (nC (lE (lL (lL r6.lt (lT m6.size m7.size)) lR)) nN)).ext m10).ext m11).mod m12 (nC (lE (lL (lL r6.lt (lT (lT (lT (lT m6.size m7.size) m8.size) m9.size) m10.size)) lR)) nN)).ext m13).ext md1).ext m14).ext m15).ext m16).ext m17).mod m18 (nC (lE (lL (lL r6.lt m6.size) ge5)) (nC (lE (lL (lL r6.lt m6.size) ge6)) nN))).rng rfl rfl rfl) rfl rfl rfl ?_
  refine WL.yes rfl rfl rfl (ltb rfl) rfl rfl ?_
  refine WL.call (oc_call (vs := [.agg #[vS b'2 0 nNr c'2, vI Nj, vS d'2 0 nBr c2'2, vI Bj, vI Dk, vF Dc0, vF Dc1, vF Dc2, vF Ds0, vF Ds1, vF sl, vF lo], .agg #[vS b'1 0 nNr c'1, vI Nj, vS d'1 0 nBr c2'1, vI Bj, vI Dk, vF Dc0, vF Dc1, vF Dc2, vF Ds0, vF Ds1, vF sl, vF lo]]) (cap := []) rfl rfl rfl Try.call16 (c_eqBow nNr c'2 (some ⟨b'2, 0, none⟩) b'2 0 xNr Nj nBr c2'2 (some ⟨d'2, 0, none⟩) d'2 0 ((List.range nBr).map (fun Nj => keptF (fop .add .f32 (xBr.getD Nj 0) a))) Bj Dk Dc0 Dc0 Dc1 Dc1 Dc2 Dc2 Ds0 Ds0 Ds1 Ds1 sl sl lo lo c'1 (some ⟨b'1, 0, none⟩) b'1 0 c2'1 (some ⟨d'1, 0, none⟩) d'1 0 Dc0 Dc1 Dc2 Ds0 Ds1 sl lo lnNr (fun _ => rfl) over_done_len (fun _ => rfl) (fun _ => rfl) (fun _ => rfl) rfl rfl rfl rfl rfl rfl rfl rfl rfl rfl rfl rfl rfl rfl (by omega) (by omega) w19 (((((((((r14.ext m11).mod m12 (nC (lE (lL r14.lt lR)) nN)).ext m13).ext md1).ext m14).ext m15).ext m16).ext m17).mod m18 (nC (lG (lL (lL r9.lt (lT m8.size m9.size)) ge7)) (nC (lG (lL (lL r10.lt (lT m8.size m9.size)) ge7)) nN))).rng (((((((((r15.ext m11).mod m12 (nC (lE (lL r15.lt lR)) nN)).ext m13).ext md1).ext m14).ext m15).ext m16).ext m17).mod m18 (nC (lG (lL (lL r9.lt (lT m8.size m9.size)) ge8)) (nC (lG (lL (lL r10.lt (lT m8.size m9.size)) ge8)) nN))).rng (((((((((((((((r4.ext m5).mod m6 (nC (lE (lL r4.lt lR)) nN)).ext m7).ext m8).mod m9 (nC (lE (lL (lL r4.lt (lT (lT m5.size m6.size) m7.size)) lR)) nN)).ext m10).ext m11).mod m12 (nC (lE (lL (lL r4.lt (lT (lT (lT (lT (lT m5.size m6.size) m7.size) m8.size) m9.size) m10.size)) lR)) nN)).ext m13).ext md1).ext m14).ext m15).ext m16).ext m17).mod m18 (nC (lE (lL (lL r4.lt (lT m5.size m6.size)) ge5)) (nC (lE (lL (lL r4.lt (lT m5.size m6.size)) ge6)) nN))).rng (((((((((((((((r5.ext m5).mod m6 (nC (lE (lL r5.lt lR)) nN)).ext m7).ext m8).mod m9 (nC (lE (lL (lL r5.lt (lT (lT m5.size m6.size) m7.size)) lR)) nN)).ext m10).ext m11).mod m12 (nC (lE (lL (lL r5.lt (lT (lT (lT (lT (lT m5.size m6.size) m7.size) m8.size) m9.size) m10.size)) lR)) nN)).ext m13).ext md1).ext m14).ext m15).ext m16).ext m17).mod m18 (nC (lE (lL (lL r5.lt (lT m5.size m6.size)) ge5)) (nC (lE (lL (lL r5.lt (lT m5.size m6.size)) ge6)) nN))).rng)) rfl rfl (ltb rfl) ?_
  rintro _ w20 ⟨rfl, m19⟩
  refine WL.yes rfl rfl rfl (ltb rfl) rfl rfl ?_
  refine WL.det (op_not rfl) rfl rfl rfl ?_
  refine WL.det (op_pick_f rfl rfl rfl) rfl rfl rfl ?_
  refine WL.det (op_move rfl) rfl rfl rfl ?_
  refine WL.yes rfl rfl rfl (ltb rfl) rfl rfl ?_
  refine WL.det (op_move rfl) rfl rfl rfl ?_
  refine WL.yes rfl rfl rfl (ltb rfl) rfl rfl ?_
  refine WL.det (op_move rfl) rfl rfl rfl ?_
  refine WL.yes rfl rfl rfl (ltb rfl) rfl rfl ?_
  refine WL.det (op_nei rfl rfl) rfl rfl rfl ?_
  refine WL.det (op_pick_f rfl rfl rfl) rfl rfl rfl ?_
  refine WL.end ?_
  refine NE.code ?_
  refine CE.cond_f rfl rfl ?_
  refine CE.skip' ?_
  refine NE.code ?_
  refine CE.seq ?_
  refine CE.region ?_
  refine WL.det (op_assign rfl) rfl rfl rfl ?_
  refine WL.end ?_
  refine NE.code ?_
  refine CE.seq ?_
  refine CE.region ?_
  refine WL.det (op_loadA (i := 0) (cs := [vS b'2 0 nNr c'2, vI Nj, vS d'2 0 nBr c2'2, vI Bj, vI Dk, vF Dc0, vF Dc1, vF Dc2, vF Ds0, vF Ds1, vF sl, vF lo]) rfl Try.isAgg36 Try.sizeOf36 ((((((((r18.ext m13).ext md1).ext m14).ext m15).ext m16).ext m17).mod m18 (nC (lG (lL (lL r9.lt (lT (lT m8.size m9.size) m10.size)) lR)) (nC (lG (lL (lL r10.lt (lT (lT m8.size m9.size) m10.size)) lR)) nN))).ext m19).rng rfl rfl rfl) rfl rfl rfl ?_
  refine WL.det (op_move rfl) rfl rfl rfl ?_
  refine WL.call (oc_call (vs := [.agg #[vS b'2 0 nNr c'2, vI Nj, vS d'2 0 nBr c2'2, vI Bj, vI Dk, vF Dc0, vF Dc1, vF Dc2, vF Ds0, vF Ds1, vF sl, vF lo], vI 1]) (cap := []) rfl rfl rfl Try.call17 (c_markBow nNr c'2 b'2 xNr Nj nBr c2'2 d'2 ((List.range nBr).map (fun Nj => keptF (fop .add .f32 (xBr.getD Nj 0) a))) Bj Dk Dc0 Dc1 Dc2 Ds0 Ds1 sl lo 1 lnNr over_done_len (by omega) (by omega) (by omega) w20 ((((((((((r14.ext m11).mod m12 (nC (lE (lL r14.lt lR)) nN)).ext m13).ext md1).ext m14).ext m15).ext m16).ext m17).mod m18 (nC (lG (lL (lL r9.lt (lT m8.size m9.size)) ge7)) (nC (lG (lL (lL r10.lt (lT m8.size m9.size)) ge7)) nN))).ext m19) ((((((((((r15.ext m11).mod m12 (nC (lE (lL r15.lt lR)) nN)).ext m13).ext md1).ext m14).ext m15).ext m16).ext m17).mod m18 (nC (lG (lL (lL r9.lt (lT m8.size m9.size)) ge8)) (nC (lG (lL (lL r10.lt (lT m8.size m9.size)) ge8)) nN))).ext m19) ne4)) rfl rfl (ltb rfl) ?_
  rintro _ w21 ⟨rfl, r23, r24, m20⟩
  refine WL.det (op_assign rfl) rfl rfl rfl ?_
  refine WL.end ?_
  refine NE.code ?_
  refine CE.seq ?_
  refine CE.region ?_
  refine WL.det (op_assign rfl) rfl rfl rfl ?_
  refine WL.end ?_
  refine NE.code ?_
  refine CE.seq ?_
  refine CE.region ?_
  refine WL.det (op_loadA (i := 0) (cs := [vS b'2 0 nNr c'2, vI Nj, vS d'2 0 nBr c2'2, vI Bj, vI Dk, vF Dc0, vF Dc1, vF Dc2, vF Ds0, vF Ds1, vF sl, vF lo]) rfl Try.isAgg36 Try.sizeOf36 (((((((((r18.ext m13).ext md1).ext m14).ext m15).ext m16).ext m17).mod m18 (nC (lG (lL (lL r9.lt (lT (lT m8.size m9.size) m10.size)) lR)) (nC (lG (lL (lL r10.lt (lT (lT m8.size m9.size) m10.size)) lR)) nN))).ext m19).mod m20 (nC (lG (lL r14.lt lR)) (nC (lG (lL r15.lt lR)) nN))).rng rfl rfl rfl) rfl rfl rfl ?_
  refine WL.det (op_move rfl) rfl rfl rfl ?_
  refine WL.call (oc_call (vs := [.agg #[vS b'2 0 nNr c'2, vI Nj, vS d'2 0 nBr c2'2, vI Bj, vI Dk, vF Dc0, vF Dc1, vF Dc2, vF Ds0, vF Ds1, vF sl, vF lo], vI 1]) (cap := []) rfl rfl rfl Try.call18 (c_heldBow nNr c'2 b'2 (marks xNr 1 nNr) Nj nBr c2'2 d'2 (marks ((List.range nBr).map (fun Nj => keptF (fop .add .f32 (xBr.getD Nj 0) a))) (1 + nNr) nBr) Bj Dk Dc0 Dc1 Dc2 Ds0 Ds1 sl lo 1 (marks_len lnNr (Nat.le_refl _)) (marks_len over_done_len (Nat.le_refl _)) (by omega) (by omega) (by omega) (by first | assumption | exact marks_held _ _ _) (by first | assumption | exact marks_held _ _ _) w21 r23.rng r24.rng)) rfl rfl (ltb rfl) ?_
  rintro _ w22 ⟨rfl, m21⟩
  refine WL.det (op_assign rfl) rfl rfl rfl ?_
  refine WL.end ?_
  refine NE.code ?_
  refine CE.seq ?_
  refine CE.seq ?_
  refine CE.region ?_
  refine WL.det (op_move rfl) rfl rfl rfl ?_
  refine WL.det (op_lti_f rfl rfl (by omega)) rfl rfl rfl ?_
  refine WL.end ?_
  refine NE.code ?_
  refine CE.cond_f rfl rfl ?_
  refine CE.skip' ?_
  refine NE.code ?_
  refine CE.seq ?_
  refine CE.seq ?_
  refine CE.region ?_
  refine WL.det (op_move rfl) rfl rfl rfl ?_
  refine WL.det (op_move rfl) rfl rfl rfl ?_
  refine WL.det (op_nei_f rfl rfl rfl) rfl rfl rfl ?_
  refine WL.end ?_
  refine NE.code ?_
  refine CE.cond_f rfl rfl ?_
  refine CE.skip' ?_
  refine NE.code ?_
  refine CE.seq ?_
  refine CE.region ?_
  refine WL.det (op_loadA (i := 0) (cs := [.slice ANr nNr cNr, vI Nj, .slice ABr nBr cBr, vI Bj, vI Dk, vF Dc0, vF Dc1, vF Dc2, vF Ds0, vF Ds1, vF sl, vF lo]) rfl Try.isAgg31 Try.sizeOf31 (((((((((((((((((((((r1.ext m2).ext m3).ext m4).ext m5).mod m6 (nC (lE (lL (lL r1.lt (lT (lT m2.size m3.size) m4.size)) lR)) nN)).ext m7).ext m8).mod m9 (nC (lE (lL (lL r1.lt (lT (lT (lT (lT (lT m2.size m3.size) m4.size) m5.size) m6.size) m7.size)) lR)) nN)).ext m10).ext m11).mod m12 (nC (lE (lL (lL r1.lt (lT (lT (lT (lT (lT (lT (lT (lT m2.size m3.size) m4.size) m5.size) m6.size) m7.size) m8.size) m9.size) m10.size)) lR)) nN)).ext m13).ext md1).ext m14).ext m15).ext m16).ext m17).mod m18 (nC (lE (lL (lL r1.lt (lT (lT (lT (lT m2.size m3.size) m4.size) m5.size) m6.size)) ge5)) (nC (lE (lL (lL r1.lt (lT (lT (lT (lT m2.size m3.size) m4.size) m5.size) m6.size)) ge6)) nN))).ext m19).mod m20 (nC (lE (lL (lL r1.lt (lT (lT (lT (lT (lT (lT (lT m2.size m3.size) m4.size) m5.size) m6.size) m7.size) m8.size) m9.size)) ge7)) (nC (lE (lL (lL r1.lt (lT (lT (lT (lT (lT (lT (lT m2.size m3.size) m4.size) m5.size) m6.size) m7.size) m8.size) m9.size)) ge8)) nN))).ext m21).rng rfl rfl rfl) rfl rfl rfl ?_
  refine WL.call (oc_call (vs := [.agg #[.slice ANr nNr cNr, vI Nj, .slice ABr nBr cBr, vI Bj, vI Dk, vF Dc0, vF Dc1, vF Dc2, vF Ds0, vF Ds1, vF sl, vF lo]]) (cap := []) rfl rfl rfl Try.call14 (c_toBow nNr cNr ANr bNr oNr xNr Nj nBr cBr ABr bBr oBr xBr Bj Dk Dc0 Dc1 Dc2 Ds0 Ds1 sl lo lnNr hANr lnBr hABr (by omega) (by omega) w22 ((Rng.youngS rNr ((Rng.youngS rNr (((((((Rng.youngS rNr (((Rng.youngS rNr (((Rng.youngS rNr (((((rNr.ext m1).ext m2).ext m3).ext m4).ext m5) m6 (allge_cons (lT (lT (lT (lT m1.size m2.size) m3.size) m4.size) lR) allge_nil)).ext m7).ext m8) m9 (allge_cons (lT (lT (lT (lT (lT (lT (lT m1.size m2.size) m3.size) m4.size) m5.size) m6.size) m7.size) lR) allge_nil)).ext m10).ext m11) m12 (allge_cons (lT (lT (lT (lT (lT (lT (lT (lT (lT (lT m1.size m2.size) m3.size) m4.size) m5.size) m6.size) m7.size) m8.size) m9.size) m10.size) lR) allge_nil)).ext m13).ext md1).ext m14).ext m15).ext m16).ext m17) m18 (allge_cons (lT (lT (lT (lT (lT (lT m1.size m2.size) m3.size) m4.size) m5.size) m6.size) ge5) (allge_cons (lT (lT (lT (lT (lT (lT m1.size m2.size) m3.size) m4.size) m5.size) m6.size) ge6) allge_nil))).ext m19) m20 (allge_cons (lT (lT (lT (lT (lT (lT (lT (lT (lT m1.size m2.size) m3.size) m4.size) m5.size) m6.size) m7.size) m8.size) m9.size) ge7) (allge_cons (lT (lT (lT (lT (lT (lT (lT (lT (lT m1.size m2.size) m3.size) m4.size) m5.size) m6.size) m7.size) m8.size) m9.size) ge8) allge_nil))).ext m21) ((Rng.youngS rBr ((Rng.youngS rBr (((((((Rng.youngS rBr (((Rng.youngS rBr (((Rng.youngS rBr (((((rBr.ext m1).ext m2).ext m3).ext m4).ext m5) m6 (allge_cons (lT (lT (lT (lT m1.size m2.size) m3.size) m4.size) lR) allge_nil)).ext m7).ext m8) m9 (allge_cons (lT (lT (lT (lT (lT (lT (lT m1.size m2.size) m3.size) m4.size) m5.size) m6.size) m7.size) lR) allge_nil)).ext m10).ext m11) m12 (allge_cons (lT (lT (lT (lT (lT (lT (lT (lT (lT (lT m1.size m2.size) m3.size) m4.size) m5.size) m6.size) m7.size) m8.size) m9.size) m10.size) lR) allge_nil)).ext m13).ext md1).ext m14).ext m15).ext m16).ext m17) m18 (allge_cons (lT (lT (lT (lT (lT (lT m1.size m2.size) m3.size) m4.size) m5.size) m6.size) ge5) (allge_cons (lT (lT (lT (lT (lT (lT m1.size m2.size) m3.size) m4.size) m5.size) m6.size) ge6) allge_nil))).ext m19) m20 (allge_cons (lT (lT (lT (lT (lT (lT (lT (lT (lT m1.size m2.size) m3.size) m4.size) m5.size) m6.size) m7.size) m8.size) m9.size) ge7) (allge_cons (lT (lT (lT (lT (lT (lT (lT (lT (lT m1.size m2.size) m3.size) m4.size) m5.size) m6.size) m7.size) m8.size) m9.size) ge8) allge_nil))).ext m21))) rfl rfl (ltb rfl) ?_
  rintro _ w23 ⟨bNr'4, bBr'4, rfl, r25, r26, ge11, ge12, ne6, m22⟩
  refine WL.det (op_move rfl) rfl rfl rfl ?_
  refine WL.call (oc_call (vs := [.agg #[vS bNr'4 0 nNr nNr, vI Nj, vS bBr'4 0 nBr nBr, vI Bj, vI Dk, vF Dc0, vF Dc1, vF Dc2, vF Ds0, vF Ds1, vF sl, vF lo], vF a]) (cap := []) rfl rfl rfl Try.call15 (c_iPull nNr nNr bNr'4 xNr nBr nBr bBr'4 xBr Nj Bj Dk Dc0 Dc1 Dc2 Ds0 Ds1 sl lo a lnNr lnBr (by omega) (by omega) (by omega) (by omega) (by first | assumption | exact W32.get (by assumption) _ | decide +kernel) (by first | assumption | exact W32.get (by assumption) _ | decide +kernel) (by first | assumption | exact W32.set (by assumption) (by first | assumption | exact wid_lt (by assumption)) | exact W32.zeros _ | exact W32.nil) la (by assumption) (by assumption) w23 r25.rng r26.rng)) rfl rfl (ltb rfl) ?_
  rintro _ w24 ⟨b'3, c'3, d'3, c2'3, rfl, r27, r28, ge13, ge14, ne7, m23⟩
  refine WL.det (op_move rfl) rfl rfl rfl ?_
  refine WL.det (op_extract rfl rfl) rfl rfl rfl ?_
  refine WL.det (op_extract rfl rfl) rfl rfl rfl ?_
  refine WL.op (op_alloc (cs := [.slice none 0 0, vI 0, .slice none 0 0, vI 0, vI 0, vF 0, vF 0, vF 0, vF 0, vF 0, vF 0, vF 0]) Try.zeroValue36 rfl) rfl rfl (ltb rfl) ?_
  rintro _ w25 ⟨rfl, r29, m24, z8⟩
  refine WL.op0 (op_store (i := 0) (cs := [vS b'3 0 nNr c'3, vI Nj, vS d'3 0 nBr c2'3, vI Bj, vI Dk, vF Dc0, vF Dc1, vF Dc2, vF Ds0, vF Ds1, vF sl, vF lo]) rfl rfl rfl Try.sizeOf36 rfl r29 rfl (lB rfl) rfl) rfl rfl ?_
  rintro _ w26 ⟨r30, m25, z9⟩
  have r31 : Row w26 w24.heap.size 0 [vS b'3 0 nNr c'3, vI Nj, vS d'3 0 nBr c2'3, vI Bj, vI Dk, vF Dc0, vF Dc1, vF Dc2, vF Ds0, vF Ds1, vF sl, vF lo] := Row.congr r30 rfl
  refine WL.det (op_assign rfl) rfl rfl rfl ?_
  refine WL.end ?_
  refine NE.code ?_
  refine CE.seq ?_
  refine CE.seq ?_
  refine CE.region ?_
  refine WL.det (op_loadA (i := 0) (cs := [vS b'3 0 nNr c'3, vI Nj, vS d'3 0 nBr c2'3, vI Bj, vI Dk, vF Dc0, vF Dc1, vF Dc2, vF Ds0, vF Ds1, vF sl, vF lo]) rfl Try.isAgg36 Try.sizeOf36 r31.rng rfl rfl rfl) rfl rfl rfl ?_
  refine WL.det (op_loadA (i := 0) (cs := [vS b'1 0 nNr c'1, vI Nj, vS d'1 0 nBr c2'1, vI Bj, vI Dk, vF Dc0, vF Dc1, vF Dc2, vF Ds0, vF Ds1, vF sl, vF lo]) rfl Try.isAgg36 Try.sizeOf36 ((((((((((((((((((((r8.ext m7).ext m8).mod m9 (nC (lE (lL (lL r6.lt (lT m6.size m7.size)) lR)) nN)).ext m10).ext m11).mod m12 (nC (lE (lL (lL r6.lt (lT (lT (lT (lT m6.size m7.size) m8.size) m9.size) m10.size)) lR)) nN)).ext m13).ext md1).ext m14).ext m15).ext m16).ext m17).mod m18 (nC (lE (lL (lL r6.lt m6.size) ge5)) (nC (lE (lL (lL r6.lt m6.size) ge6)) nN))).ext m19).mod m20 (nC (lE (lL (lL r6.lt (lT (lT (lT m6.size m7.size) m8.size) m9.size)) ge7)) (nC (lE (lL (lL r6.lt (lT (lT (lT m6.size m7.size) m8.size) m9.size)) ge8)) nN))).ext m21).ext m22).ext m23).ext m24).mod m25 (nC (lE (lL (lL r6.lt (lT (lT (lT (lT (lT (lT (lT (lT (lT (lT (lT (lT (lT (lT (lT (lT (lT (lT m6.size m7.size) m8.size) m9.size) m10.size) m11.size) m12.size) m13.size) md1.size) m14.size) m15.size) m16.size) m17.size) m18.size) m19.size) m20.size) m21.size) m22.size) m23.size)) lR)) nN)).rng rfl rfl rfl) rfl rfl rfl ?_
  refine WL.call (oc_call (vs := [.agg #[vS b'3 0 nNr c'3, vI Nj, vS d'3 0 nBr c2'3, vI Bj, vI Dk, vF Dc0, vF Dc1, vF Dc2, vF Ds0, vF Ds1, vF sl, vF lo], .agg #[vS b'1 0 nNr c'1, vI Nj, vS d'1 0 nBr c2'1, vI Bj, vI Dk, vF Dc0, vF Dc1, vF Dc2, vF Ds0, vF Ds1, vF sl, vF lo]]) (cap := []) rfl rfl rfl Try.call16 (c_eqBow nNr c'3 (some ⟨b'3, 0, none⟩) b'3 0 xNr Nj nBr c2'3 (some ⟨d'3, 0, none⟩) d'3 0 ((List.range nBr).map (fun Nj => keptF (fop .add .f32 (xBr.getD Nj 0) a))) Bj Dk Dc0 Dc0 Dc1 Dc1 Dc2 Dc2 Ds0 Ds0 Ds1 Ds1 sl sl lo lo c'1 (some ⟨b'1, 0, none⟩) b'1 0 c2'1 (some ⟨d'1, 0, none⟩) d'1 0 Dc0 Dc1 Dc2 Ds0 Ds1 sl lo lnNr (fun _ => rfl) over_done_len (fun _ => rfl) (fun _ => rfl) (fun _ => rfl) rfl rfl rfl rfl rfl rfl rfl rfl rfl rfl rfl rfl rfl rfl (by omega) (by omega) w26 ((r27.ext m24).mod m25 (nC (lE (lL r27.lt lR)) nN)).rng ((r28.ext m24).mod m25 (nC (lE (lL r28.lt lR)) nN)).rng ((((((((((((((((((((((r4.ext m5).mod m6 (nC (lE (lL r4.lt lR)) nN)).ext m7).ext m8).mod m9 (nC (lE (lL (lL r4.lt (lT (lT m5.size m6.size) m7.size)) lR)) nN)).ext m10).ext m11).mod m12 (nC (lE (lL (lL r4.lt (lT (lT (lT (lT (lT m5.size m6.size) m7.size) m8.size) m9.size) m10.size)) lR)) nN)).ext m13).ext md1).ext m14).ext m15).ext m16).ext m17).mod m18 (nC (lE (lL (lL r4.lt (lT m5.size m6.size)) ge5)) (nC (lE (lL (lL r4.lt (lT m5.size m6.size)) ge6)) nN))).ext m19).mod m20 (nC (lE (lL (lL r4.lt (lT (lT (lT (lT m5.size m6.size) m7.size) m8.size) m9.size)) ge7)) (nC (lE (lL (lL r4.lt (lT (lT (lT (lT m5.size m6.size) m7.size) m8.size) m9.size)) ge8)) nN))).ext m21).ext m22).ext m23).ext m24).mod m25 (nC (lE (lL (lL r4.lt (lT (lT (lT (lT (lT (lT (lT (lT (lT (lT (lT (lT (lT (lT (lT (lT (lT (lT (lT m5.size m6.size) m7.size) m8.size) m9.size) m10.size) m11.size) m12.size) m13.size) md1.size) m14.size) m15.size) m16.size) m17.size) m18.size) m19.size) m20.size) m21.size) m22.size) m23.size)) lR)) nN)).rng ((((((((((((((((((((((r5.ext m5).mod m6 (nC (lE (lL r5.lt lR)) nN)).ext m7).ext m8).mod m9 (nC (lE (lL (lL r5.lt (lT (lT m5.size m6.size) m7.size)) lR)) nN)).ext m10).ext m11).mod m12 (nC (lE (lL (lL r5.lt (lT (lT (lT (lT (lT m5.size m6.size) m7.size) m8.size) m9.size) m10.size)) lR)) nN)).ext m13).ext md1).ext m14).ext m15).ext m16).ext m17).mod m18 (nC (lE (lL (lL r5.lt (lT m5.size m6.size)) ge5)) (nC (lE (lL (lL r5.lt (lT m5.size m6.size)) ge6)) nN))).ext m19).mod m20 (nC (lE (lL (lL r5.lt (lT (lT (lT (lT m5.size m6.size) m7.size) m8.size) m9.size)) ge7)) (nC (lE (lL (lL r5.lt (lT (lT (lT (lT m5.size m6.size) m7.size) m8.size) m9.size)) ge8)) nN))).ext m21).ext m22).ext m23).ext m24).mod m25 (nC (lE (lL (lL r5.lt (lT (lT (lT (lT (lT (lT (lT (lT (lT (lT (lT (lT (lT (lT (lT (lT (lT (lT (lT m5.size m6.size) m7.size) m8.size) m9.size) m10.size) m11.size) m12.size) m13.size) md1.size) m14.size) m15.size) m16.size) m17.size) m18.size) m19.size) m20.size) m21.size) m22.size) m23.size)) lR)) nN)).rng)) rfl rfl (ltb rfl) ?_
  rintro _ w27 ⟨rfl, m26⟩
  refine WL.det (op_not rfl) rfl rfl rfl ?_
  refine WL.det (op_move rfl) rfl rfl rfl ?_
  refine WL.yes rfl rfl rfl (ltb rfl) rfl rfl ?_
  refine WL.det (op_move rfl) rfl rfl rfl ?_
  refine WL.yes rfl rfl rfl (ltb rfl) rfl rfl ?_
  refine WL.det (op_move rfl) rfl rfl rfl ?_
  refine WL.yes rfl rfl rfl (ltb rfl) rfl rfl ?_
  refine WL.det (op_nei rfl rfl) rfl rfl rfl ?_
  refine WL.det (op_pick_f rfl rfl rfl) rfl rfl rfl ?_
  refine WL.end ?_
  refine NE.code ?_
  refine CE.cond_f rfl rfl ?_
  refine CE.skip' ?_
  refine NE.code ?_
  refine CE.seq ?_
  refine CE.region ?_
  refine WL.det (op_assign rfl) rfl rfl rfl ?_
  refine WL.end ?_
  refine NE.code ?_
  refine CE.seq ?_
  refine CE.region ?_
  refine WL.det (op_loadA (i := 0) (cs := [vS b'2 0 nNr c'2, vI Nj, vS d'2 0 nBr c2'2, vI Bj, vI Dk, vF Dc0, vF Dc1, vF Dc2, vF Ds0, vF Ds1, vF sl, vF lo]) rfl Try.isAgg36 Try.sizeOf36 (((((((((((((((r18.ext m13).ext md1).ext m14).ext m15).ext m16).ext m17).mod m18 (nC (lG (lL (lL r9.lt (lT (lT m8.size m9.size) m10.size)) lR)) (nC (lG (lL (lL r10.lt (lT (lT m8.size m9.size) m10.size)) lR)) nN))).ext m19).mod m20 (nC (lG (lL r14.lt lR)) (nC (lG (lL r15.lt lR)) nN))).ext m21).ext m22).ext m23).ext m24).mod m25 (nC (lE (lL (lL r16.lt (lT (lT (lT (lT (lT (lT (lT (lT (lT (lT (lT (lT m12.size m13.size) md1.size) m14.size) m15.size) m16.size) m17.size) m18.size) m19.size) m20.size) m21.size) m22.size) m23.size)) lR)) nN)).ext m26).rng rfl rfl rfl) rfl rfl rfl ?_
  refine WL.det (op_move rfl) rfl rfl rfl ?_
  refine WL.call (oc_call (vs := [.agg #[vS b'2 0 nNr c'2, vI Nj, vS d'2 0 nBr c2'2, vI Bj, vI Dk, vF Dc0, vF Dc1, vF Dc2, vF Ds0, vF Ds1, vF sl, vF lo], vI 1]) (cap := []) rfl rfl rfl Try.call18 (c_heldBow nNr c'2 b'2 (marks xNr 1 nNr) Nj nBr c2'2 d'2 (marks ((List.range nBr).map (fun Nj => keptF (fop .add .f32 (xBr.getD Nj 0) a))) (1 + nNr) nBr) Bj Dk Dc0 Dc1 Dc2 Ds0 Ds1 sl lo 1 (marks_len lnNr (Nat.le_refl _)) (marks_len over_done_len (Nat.le_refl _)) (by omega) (by omega) (by omega) (by first | assumption | exact marks_held _ _ _) (by first | assumption | exact marks_held _ _ _) w27 ((((((r23.ext m21).ext m22).ext m23).ext m24).mod m25 (nC (lE (lL (lL r14.lt (lT (lT (lT (lT (lT (lT (lT (lT (lT (lT (lT (lT (lT m11.size m12.size) m13.size) md1.size) m14.size) m15.size) m16.size) m17.size) m18.size) m19.size) m20.size) m21.size) m22.size) m23.size)) lR)) nN)).ext m26).rng ((((((r24.ext m21).ext m22).ext m23).ext m24).mod m25 (nC (lE (lL (lL r15.lt (lT (lT (lT (lT (lT (lT (lT (lT (lT (lT (lT (lT (lT m11.size m12.size) m13.size) md1.size) m14.size) m15.size) m16.size) m17.size) m18.size) m19.size) m20.size) m21.size) m22.size) m23.size)) lR)) nN)).ext m26).rng)) rfl rfl (ltb rfl) ?_
  rintro _ w28 ⟨rfl, m27⟩
  refine WL.det (op_assign rfl) rfl rfl rfl ?_
  refine WL.end ?_
  refine NE.code ?_
  refine CE.seq ?_
  refine CE.seq ?_
  refine CE.region ?_
  refine WL.det (op_move rfl) rfl rfl rfl ?_
  refine WL.det (op_lti_f rfl rfl (by omega)) rfl rfl rfl ?_
  refine WL.end ?_
  refine NE.code ?_
  refine CE.cond_f rfl rfl ?_
  refine CE.skip' ?_
  refine NE.code ?_
  refine CE.seq ?_
  refine CE.seq ?_
  refine CE.region ?_
  refine WL.det (op_move rfl) rfl rfl rfl ?_
  refine WL.det (op_move rfl) rfl rfl rfl ?_
  refine WL.det (op_nei_f rfl rfl rfl) rfl rfl rfl ?_
  refine WL.end ?_
  refine NE.code ?_
  refine CE.cond_f rfl rfl ?_
  refine CE.skip' ?_
  refine NE.code ?_
  refine CE.seq ?_
  refine CE.region ?_
  refine WL.det (op_assign rfl) rfl rfl rfl ?_
  refine WL.end ?_
  refine NE.code ?_
  refine CE.ret' ?_
  refine XE.leave1 Try.results3 rfl ?_
  refine ⟨rfl, (((((((((((((((((((((((((((((Mod.refl [] w).nt m1).nt m2).nt m3).nt m4).nt m5).then m6 ((aC (.inr (lT (lT (lT (lT m1.size m2.size) m3.size) m4.size) lR)) aN))).nt m7).nt m8).then m9 ((aC (.inr (lT (lT (lT (lT (lT (lT (lT m1.size m2.size) m3.size) m4.size) m5.size) m6.size) m7.size) lR)) aN))).nt m10).nt m11).then m12 ((aC (.inr (lT (lT (lT (lT (lT (lT (lT (lT (lT (lT m1.size m2.size) m3.size) m4.size) m5.size) m6.size) m7.size) m8.size) m9.size) m10.size) lR)) aN))).nt m13).nt md1).nt m14).nt m15).nt m16).nt m17).then m18 ((aC (.inr (lT (lT (lT (lT (lT (lT m1.size m2.size) m3.size) m4.size) m5.size) m6.size) ge5)) (aC (.inr (lT (lT (lT (lT (lT (lT m1.size m2.size) m3.size) m4.size) m5.size) m6.size) ge6)) aN)))).nt m19).then m20 ((aC (.inr (lT (lT (lT (lT (lT (lT (lT (lT (lT m1.size m2.size) m3.size) m4.size) m5.size) m6.size) m7.size) m8.size) m9.size) ge7)) (aC (.inr (lT (lT (lT (lT (lT (lT (lT (lT (lT m1.size m2.size) m3.size) m4.size) m5.size) m6.size) m7.size) m8.size) m9.size) ge8)) aN)))).nt m21).nt m22).nt m23).nt m24).then m25 ((aC (.inr (lT (lT (lT (lT (lT (lT (lT (lT (lT (lT (lT (lT (lT (lT (lT (lT (lT (lT (lT (lT (lT (lT (lT (lT m1.size m2.size) m3.size) m4.size) m5.size) m6.size) m7.size) m8.size) m9.size) m10.size) m11.size) m12.size) m13.size) md1.size) m14.size) m15.size) m16.size) m17.size) m18.size) m19.size) m20.size) m21.size) m22.size) m23.size) lR)) aN))).nt m26).nt m27)⟩

set_option maxRecDepth 100000 in
set_option maxHeartbeats 2000000 in
theorem law_pull_inf (nNr : Nat) (cNr : Nat) (ANr : Option Addr) (bNr : Nat) (oNr : Nat) (xNr : List Nat) (Nj : Int) (nBr : Nat) (cBr : Nat) (ABr : Option Addr) (bBr : Nat) (oBr : Nat) (xBr : List Nat) (Bj : Int) (Dk : Int) (Dc0 : Nat) (Dc1 : Nat) (Dc2 : Nat) (Ds0 : Nat) (Ds1 : Nat) (sl : Nat) (lo : Nat) (a : Nat) (lnNr : xNr.length = nNr) (hANr : 0 < nNr → ANr = some ⟨bNr, oNr, none⟩) (lnBr : xBr.length = nBr) (hABr : 0 < nBr → ABr = some ⟨bBr, oBr, none⟩) (wNr : W32 xNr) (wBr : W32 xBr) (hn : nNr ≤ 1024) (hm : nBr ≤ 1024) (h0 : 0 < nNr) (h1 : 0 < nBr) (lDs0 : Ds0 < wid .f32) (lDs1 : Ds1 < wid .f32) (hv : vBow nNr Nj nBr Bj xNr xBr Dk Dc0 Dc1 Dc2 Ds0 Ds1 sl lo = true) (hf : finF a = false) (la : a < wid .f32) (w : World) (rNr : Rng w bNr oNr (fl xNr)) (rBr : Rng w bBr oBr (fl xBr)) : Cl Try.prog 3 #[.agg #[.slice ANr nNr cNr, vI Nj, .slice ABr nBr cBr, vI Bj, vI Dk, vF Dc0, vF Dc1, vF Dc2, vF Ds0, vF Ds1, vF sl, vF lo], vF a] w fun v w' => v = .bool true ∧ Mod [] w w' := by
  refine Cl.of Try.func3 Try.ntmps3 rfl rfl (ρ := [(0, .agg #[.slice ANr nNr cNr, vI Nj, .slice ABr nBr cBr, vI Bj, vI Dk, vF Dc0, vF Dc1, vF Dc2, vF Ds0, vF Ds1, vF sl, vF lo]), (1, vF a)]) rfl ?_
  refine CE.seq ?_
  refine CE.region ?_
  refine WL.op (op_box (cs := [.slice ANr nNr cNr, vI Nj, .slice ABr nBr cBr, vI Bj, vI Dk, vF Dc0, vF Dc1, vF Dc2, vF Ds0, vF Ds1, vF sl, vF lo]) rfl rfl) rfl rfl (ltb rfl) ?_
  rintro _ w1 ⟨rfl, r1, m1, z1⟩
  refine WL.det (op_assign rfl) rfl rfl rfl ?_
  refine WL.end ?_
  refine NE.code ?_
  refine CE.seq ?_
  refine CE.region ?_
  refine WL.det (op_assign rfl) rfl rfl rfl ?_
  refine WL.end ?_
  refine NE.code ?_
  refine CE.seq ?_
  refine CE.region ?_
  refine WL.det (op_loadA (i := 0) (cs := [.slice ANr nNr cNr, vI Nj, .slice ABr nBr cBr, vI Bj, vI Dk, vF Dc0, vF Dc1, vF Dc2, vF Ds0, vF Ds1, vF sl, vF lo]) rfl Try.isAgg31 Try.sizeOf31 r1.rng rfl rfl rfl) rfl rfl rfl ?_
  refine WL.det (op_move rfl) rfl rfl rfl ?_
  refine WL.call (oc_call (vs := [.agg #[.slice ANr nNr cNr, vI Nj, .slice ABr nBr cBr, vI Bj, vI Dk, vF Dc0, vF Dc1, vF Dc2, vF Ds0, vF Ds1, vF sl, vF lo], vI 1048576]) (cap := []) rfl rfl rfl Try.call12 (c_szBow 1048576 nNr cNr ANr Nj nBr cBr ABr Bj Dk Dc0 Dc1 Dc2 Ds0 Ds1 sl lo (by omega) (by omega) w1)) rfl rfl (ltb rfl) ?_
  rintro _ w2 ⟨rfl, m2⟩
  refine WL.det (op_assign rfl) rfl rfl rfl ?_
  refine WL.end ?_
  refine NE.code ?_
  refine CE.seq ?_
  refine CE.seq ?_
  refine CE.region ?_
  refine WL.det (op_move rfl) rfl rfl rfl ?_
  refine WL.det (op_lti_f rfl rfl (by omega)) rfl rfl rfl ?_
  refine WL.end ?_
  refine NE.code ?_
  refine CE.cond_f rfl rfl ?_
  refine CE.skip' ?_
  refine NE.code ?_
  refine CE.seq ?_
  refine CE.region ?_
  refine WL.det (op_loadA (i := 0) (cs := [.slice ANr nNr cNr, vI Nj, .slice ABr nBr cBr, vI Bj, vI Dk, vF Dc0, vF Dc1, vF Dc2, vF Ds0, vF Ds1, vF sl, vF lo]) rfl Try.isAgg31 Try.sizeOf31 (r1.ext m2).rng rfl rfl rfl) rfl rfl rfl ?_
  refine WL.call (oc_call (vs := [.agg #[.slice ANr nNr cNr, vI Nj, .slice ABr nBr cBr, vI Bj, vI Dk, vF Dc0, vF Dc1, vF Dc2, vF Ds0, vF Ds1, vF sl, vF lo]]) (cap := []) rfl rfl rfl Try.call14 (c_toBow nNr cNr ANr bNr oNr xNr Nj nBr cBr ABr bBr oBr xBr Bj Dk Dc0 Dc1 Dc2 Ds0 Ds1 sl lo lnNr hANr lnBr hABr (by omega) (by omega) w2 ((rNr.ext m1).ext m2) ((rBr.ext m1).ext m2))) rfl rfl (ltb rfl) ?_
  rintro _ w3 ⟨bNr'1, bBr'1, rfl, r2, r3, ge1, ge2, ne1, m3⟩
  refine WL.det (op_move rfl) rfl rfl rfl ?_
  refine WL.call (oc_call (vs := [.agg #[vS bNr'1 0 nNr nNr, vI Nj, vS bBr'1 0 nBr nBr, vI Bj, vI Dk, vF Dc0, vF Dc1, vF Dc2, vF Ds0, vF Ds1, vF sl, vF lo], vF a]) (cap := []) rfl rfl rfl Try.call13 (c_sPull_inf nNr nNr bNr'1 xNr nBr nBr bBr'1 xBr Nj Bj Dk Dc0 Dc1 Dc2 Ds0 Ds1 sl lo a lnNr lnBr (by omega) (by omega) (by first | assumption | exact W32.get (by assumption) _ | decide +kernel) (by first | assumption | exact W32.get (by assumption) _ | decide +kernel) la (by assumption) (by assumption) w3 r2.rng r3.rng)) rfl rfl (ltb rfl) ?_
  rintro _ w4 ⟨rfl, m4⟩
  refine WL.det (op_move rfl) rfl rfl rfl ?_
  refine WL.det (op_extract rfl rfl) rfl rfl rfl ?_
  refine WL.det (op_extract rfl rfl) rfl rfl rfl ?_
  refine WL.op (op_alloc (cs := [.slice none 0 0, vI 0, .slice none 0 0, vI 0, vI 0, vF 0, vF 0, vF 0, vF 0, vF 0, vF 0, vF 0]) Try.zeroValue36 rfl) rfl rfl (ltb rfl) ?_
  rintro _ w5 ⟨rfl, r4, m5, z2⟩
  refine WL.op0 (op_store (i := 0) (cs := [.slice none 0 0, vI 0, .slice none 0 0, vI 0, vI 0, vF 0, vF 0, vF 0, vF 0, vF 0, vF 0, vF 0]) rfl rfl rfl Try.sizeOf36 rfl r4 rfl (lB rfl) rfl) rfl rfl ?_
  rintro _ w6 ⟨r5, m6, z3⟩
  have r6 : Row w6 w4.heap.size 0 [.slice none 0 0, vI 0, .slice none 0 0, vI 0, vI 0, vF 0, vF 0, vF 0, vF 0, vF 0, vF 0, vF 0] := Row.congr r5 rfl
  refine WL.det (op_assign rfl) rfl rfl rfl ?_
  refine WL.end ?_
  refine NE.code ?_
  refine CE.seq ?_
  refine CE.region ?_
  refine WL.det (op_loadA (i := 0) (cs := [.slice ANr nNr cNr, vI Nj, .slice ABr nBr cBr, vI Bj, vI Dk, vF Dc0, vF Dc1, vF Dc2, vF Ds0, vF Ds1, vF sl, vF lo]) rfl Try.isAgg31 Try.sizeOf31 (((((r1.ext m2).ext m3).ext m4).ext m5).mod m6 (nC (lE (lL (lL r1.lt (lT (lT m2.size m3.size) m4.size)) lR)) nN)).rng rfl rfl rfl) rfl rfl rfl ?_
  refine WL.call (oc_call (vs := [.agg #[.slice ANr nNr cNr, vI Nj, .slice ABr nBr cBr, vI Bj, vI Dk, vF Dc0, vF Dc1, vF Dc2, vF Ds0, vF Ds1, vF sl, vF lo]]) (cap := []) rfl rfl rfl Try.call14 (c_toBow nNr cNr ANr bNr oNr xNr Nj nBr cBr ABr bBr oBr xBr Bj Dk Dc0 Dc1 Dc2 Ds0 Ds1 sl lo lnNr hANr lnBr hABr (by omega) (by omega) w6 (Rng.youngS rNr (((((rNr.ext m1).ext m2).ext m3).ext m4).ext m5) m6 (allge_cons (lT (lT (lT (lT m1.size m2.size) m3.size) m4.size) lR) allge_nil)) (Rng.youngS rBr (((((rBr.ext m1).ext m2).ext m3).ext m4).ext m5) m6 (allge_cons (lT (lT (lT (lT m1.size m2.size) m3.size) m4.size) lR) allge_nil)))) rfl rfl (ltb rfl) ?_
  rintro _ w7 ⟨bNr'2, bBr'2, rfl, r7, r8, ge3, ge4, ne2, m7⟩
  refine WL.op (op_alloc (cs := [.slice none 0 0, vI 0, .slice none 0 0, vI 0, vI 0, vF 0, vF 0, vF 0, vF 0, vF 0, vF 0, vF 0]) Try.zeroValue36 rfl) rfl rfl (ltb rfl) ?_
  rintro _ w8 ⟨rfl, r9, m8, z4⟩
  refine WL.op0 (op_store (i := 0) (cs := [vS bNr'2 0 nNr nNr, vI Nj, vS bBr'2 0 nBr nBr, vI Bj, vI Dk, vF Dc0, vF Dc1, vF Dc2, vF Ds0, vF Ds1, vF sl, vF lo]) rfl rfl rfl Try.sizeOf36 rfl r9 rfl (lB rfl) rfl) rfl rfl ?_
  rintro _ w9 ⟨r10, m9, z5⟩
  have r11 : Row w9 w7.heap.size 0 [vS bNr'2 0 nNr nNr, vI Nj, vS bBr'2 0 nBr nBr, vI Bj, vI Dk, vF Dc0, vF Dc1, vF Dc2, vF Ds0, vF Ds1, vF sl, vF lo] := Row.congr r10 rfl
  refine WL.end ?_
  refine NE.code ?_
  refine CE.seq ?_
  refine CE.region ?_
  refine WL.det (op_loadA (i := 0) (cs := [vS bNr'2 0 nNr nNr, vI Nj, vS bBr'2 0 nBr nBr, vI Bj, vI Dk, vF Dc0, vF Dc1, vF Dc2, vF Ds0, vF Ds1, vF sl, vF lo]) rfl Try.isAgg36 Try.sizeOf36 r11.rng rfl rfl rfl) rfl rfl rfl ?_
  refine WL.det (op_move rfl) rfl rfl rfl ?_
  refine WL.call (oc_call (vs := [.agg #[vS bNr'2 0 nNr nNr, vI Nj, vS bBr'2 0 nBr nBr, vI Bj, vI Dk, vF Dc0, vF Dc1, vF Dc2, vF Ds0, vF Ds1, vF sl, vF lo], vF a]) (cap := []) rfl rfl rfl Try.call15 (c_iPull_inf nNr nNr bNr'2 xNr nBr nBr bBr'2 xBr Nj Bj Dk Dc0 Dc1 Dc2 Ds0 Ds1 sl lo a lnNr lnBr (by omega) (by omega) (by first | assumption | exact W32.get (by assumption) _ | decide +kernel) (by first | assumption | exact W32.get (by assumption) _ | decide +kernel) la (by assumption) (by assumption) w9 ((r7.ext m8).mod m9 (nC (lE (lL r7.lt lR)) nN)).rng ((r8.ext m8).mod m9 (nC (lE (lL r8.lt lR)) nN)).rng)) rfl rfl (ltb rfl) ?_
  rintro _ w10 ⟨rfl, m10⟩
  refine WL.det (op_move rfl) rfl rfl rfl ?_
  refine WL.det (op_extract rfl rfl) rfl rfl rfl ?_
  refine WL.det (op_extract rfl rfl) rfl rfl rfl ?_
  refine WL.op (op_alloc (cs := [.slice none 0 0, vI 0, .slice none 0 0, vI 0, vI 0, vF 0, vF 0, vF 0, vF 0, vF 0, vF 0, vF 0]) Try.zeroValue36 rfl) rfl rfl (ltb rfl) ?_
  rintro _ w11 ⟨rfl, r12, m11, z6⟩
  refine WL.op0 (op_store (i := 0) (cs := [.slice none 0 0, vI 0, .slice none 0 0, vI 0, vI 0, vF 0, vF 0, vF 0, vF 0, vF 0, vF 0, vF 0]) rfl rfl rfl Try.sizeOf36 rfl r12 rfl (lB rfl) rfl) rfl rfl ?_
  rintro _ w12 ⟨r13, m12, z7⟩
  have r14 : Row w12 w10.heap.size 0 [.slice none 0 0, vI 0, .slice none 0 0, vI 0, vI 0, vF 0, vF 0, vF 0, vF 0, vF 0, vF 0, vF 0] := Row.congr r13 rfl
  refine WL.det (op_assign rfl) rfl rfl rfl ?_
  refine WL.end ?_
  refine NE.code ?_
  refine CE.seq ?_
  refine CE.seq ?_
  refine CE.region ?_
  refine WL.det (op_loadA (i := 0) (cs := [.slice none 0 0, vI 0, .slice none 0 0, vI 0, vI 0, vF 0, vF 0, vF 0, vF 0, vF 0, vF 0, vF 0]) rfl Try.isAgg36 Try.sizeOf36 r14.rng rfl rfl rfl) rfl rfl rfl ?_
  refine WL.det (op_loadA (i := 0) (cs := [.slice none 0 0, vI 0, .slice none 0 0, vI 0, vI 0, vF 0, vF 0, vF 0, vF 0, vF 0, vF 0, vF 0]) rfl Try.isAgg36 Try.sizeOf36 ((((((r6.ext m7).ext m8).mod m9 (nC (lE (lL (lL r4.lt (lT m6.size m7.size)) lR)) nN)).ext m10).ext m11).mod m12 (nC (lE (lL (lL r4.lt (lT (lT (lT (lT m6.size m7.size) m8.size) m9.size) m10.size)) lR)) nN)).rng rfl rfl rfl) rfl rfl rfl ?_
  refine WL.call (oc_call (vs := [.agg #[.slice none 0 0, vI 0, .slice none 0 0, vI 0, vI 0, vF 0, vF 0, vF 0, vF 0, vF 0, vF 0, vF 0], .agg #[.slice none 0 0, vI 0, .slice none 0 0, vI 0, vI 0, vF 0, vF 0, vF 0, vF 0, vF 0, vF 0, vF 0]]) (cap := []) rfl rfl rfl Try.call16 (c_eqBow 0 0 none 0 0 [] (0 : Int) 0 0 none 0 0 [] (0 : Int) (0 : Int) 0 0 0 0 0 0 0 0 0 0 0 0 0 0 0 none 0 0 0 none 0 0 0 0 0 0 0 0 0 rfl (fun h => absurd h (Nat.lt_irrefl _)) rfl (fun h => absurd h (Nat.lt_irrefl _)) (fun h => absurd h (Nat.lt_irrefl _)) (fun h => absurd h (Nat.lt_irrefl _)) rfl rfl rfl rfl rfl rfl rfl rfl rfl rfl rfl rfl rfl rfl (by omega) (by omega) w12 (Rng.nil _ _ _) (Rng.nil _ _ _) (Rng.nil _ _ _) (Rng.nil _ _ _))) rfl rfl (ltb rfl) ?_
  rintro _ w13 ⟨rfl, m13⟩
  refine WL.det (op_not rfl) rfl rfl rfl ?_
  refine WL.det (op_move rfl) rfl rfl rfl ?_
  refine WL.yes rfl rfl rfl (ltb rfl) rfl rfl ?_
  refine WL.det (op_move rfl) rfl rfl rfl ?_
  refine WL.yes rfl rfl rfl (ltb rfl) rfl rfl ?_
  refine WL.det (op_move rfl) rfl rfl rfl ?_
  refine WL.yes rfl rfl rfl (ltb rfl) rfl rfl ?_
  refine WL.det (op_nei rfl rfl) rfl rfl rfl ?_
  refine WL.det (op_pick_f rfl rfl rfl) rfl rfl rfl ?_
  refine WL.end ?_
  refine NE.code ?_
  refine CE.cond_f rfl rfl ?_
  refine CE.skip' ?_
  refine NE.code ?_
  refine CE.seq ?_
  refine CE.seq ?_
  refine CE.draw (fun | 2 => some (fun _ wA uA wB => ∃ (bNr' : Nat) (bBr' : Nat), uA = .agg #[vS bNr' 0 nNr nNr, vI Nj, vS bBr' 0 nBr nBr, vI Bj, vI Dk, vF Dc0, vF Dc1, vF Dc2, vF Ds0, vF Ds1, vF sl, vF lo] ∧ Row wB bNr' 0 (fl xNr) ∧ Row wB bBr' 0 (fl xBr) ∧ wA.heap.size ≤ bNr' ∧ wA.heap.size ≤ bBr' ∧ bNr' ≠ bBr' ∧ Mod [] wA wB) | _ => none) [0, 1, 2] [3, 4] [] (by kernel_rfl) (by kernel_rfl) ?_
  have md1 : Mod [] w13 w13.drew := (Mod.refl _ _).drew
  generalize w13.drew = w14 at md1 ⊢
  refine DR.det (i := 0) rfl rfl (by kernel_rfl) (.free rfl) rfl rfl (fun wD mD => op_loadA (i := 0) (cs := [vS bNr'2 0 nNr nNr, vI Nj, vS bBr'2 0 nBr nBr, vI Bj, vI Dk, vF Dc0, vF Dc1, vF Dc2, vF Ds0, vF Ds1, vF sl, vF lo]) rfl Try.isAgg36 Try.sizeOf36 ((((((r11.ext m10).ext m11).mod m12 (nC (lE (lL (lL r9.lt (lT m9.size m10.size)) lR)) nN)).ext m13).ext md1).ext mD).rng rfl rfl rfl) ?_
  refine DR.det (i := 1) rfl rfl (by kernel_rfl) (.free rfl) rfl rfl (fun wD mD => op_loadA (i := 0) (cs := [.slice ANr nNr cNr, vI Nj, .slice ABr nBr cBr, vI Bj, vI Dk, vF Dc0, vF Dc1, vF Dc2, vF Ds0, vF Ds1, vF sl, vF lo]) rfl Try.isAgg31 Try.sizeOf31 ((((((((((((((r1.ext m2).ext m3).ext m4).ext m5).mod m6 (nC (lE (lL (lL r1.lt (lT (lT m2.size m3.size) m4.size)) lR)) nN)).ext m7).ext m8).mod m9 (nC (lE (lL (lL r1.lt (lT (lT (lT (lT (lT m2.size m3.size) m4.size) m5.size) m6.size) m7.size)) lR)) nN)).ext m10).ext m11).mod m12 (nC (lE (lL (lL r1.lt (lT (lT (lT (lT (lT (lT (lT (lT m2.size m3.size) m4.size) m5.size) m6.size) m7.size) m8.size) m9.size) m10.size)) lR)) nN)).ext m13).ext md1).ext mD).rng rfl rfl rfl) ?_
  refine DR.one (i := 2) rfl rfl (by kernel_rfl) (.free rfl) rfl (ltb rfl) (vs := [.func (.func 14) #[] #[], .agg #[.slice ANr nNr cNr, vI Nj, .slice ABr nBr cBr, vI Bj, vI Dk, vF Dc0, vF Dc1, vF Dc2, vF Ds0, vF Ds1, vF sl, vF lo]]) rfl ?_
  intro w15 m14
  refine ⟨oc_call (vs := [.agg #[.slice ANr nNr cNr, vI Nj, .slice ABr nBr cBr, vI Bj, vI Dk, vF Dc0, vF Dc1, vF Dc2, vF Ds0, vF Ds1, vF sl, vF lo]]) (cap := []) rfl rfl rfl Try.call14 (c_toBow nNr cNr ANr bNr oNr xNr Nj nBr cBr ABr bBr oBr xBr Bj Dk Dc0 Dc1 Dc2 Ds0 Ds1 sl lo lnNr hANr lnBr hABr (by omega) (by omega) w15 ((((Rng.youngS rNr (((Rng.youngS rNr (((Rng.youngS rNr (((((rNr.ext m1).ext m2).ext m3).ext m4).ext m5) m6 (allge_cons (lT (lT (lT (lT m1.size m2.size) m3.size) m4.size) lR) allge_nil)).ext m7).ext m8) m9 (allge_cons (lT (lT (lT (lT (lT (lT (lT m1.size m2.size) m3.size) m4.size) m5.size) m6.size) m7.size) lR) allge_nil)).ext m10).ext m11) m12 (allge_cons (lT (lT (lT (lT (lT (lT (lT (lT (lT (lT m1.size m2.size) m3.size) m4.size) m5.size) m6.size) m7.size) m8.size) m9.size) m10.size) lR) allge_nil)).ext m13).ext md1).ext m14) ((((Rng.youngS rBr (((Rng.youngS rBr (((Rng.youngS rBr (((((rBr.ext m1).ext m2).ext m3).ext m4).ext m5) m6 (allge_cons (lT (lT (lT (lT m1.size m2.size) m3.size) m4.size) lR) allge_nil)).ext m7).ext m8) m9 (allge_cons (lT (lT (lT (lT (lT (lT (lT m1.size m2.size) m3.size) m4.size) m5.size) m6.size) m7.size) lR) allge_nil)).ext m10).ext m11) m12 (allge_cons (lT (lT (lT (lT (lT (lT (lT (lT (lT (lT m1.size m2.size) m3.size) m4.size) m5.size) m6.size) m7.size) m8.size) m9.size) m10.size) lR) allge_nil)).ext m13).ext md1).ext m14)), ?_⟩
  rintro _ w16 ⟨bNr'3, bBr'3, rfl, r15, r16, ge5, ge6, ne3, m15⟩
  refine ⟨(((Mod.refl [] w14).nt m14).nt m15), ?_⟩
  refine DR.done rfl ?_
  intro w17 m16
  refine WO.call rfl (.free rfl) rfl (ltb rfl) (oc_call (vs := [.agg #[vS bNr'2 0 nNr nNr, vI Nj, vS bBr'2 0 nBr nBr, vI Bj, vI Dk, vF Dc0, vF Dc1, vF Dc2, vF Ds0, vF Ds1, vF sl, vF lo], .agg #[vS bNr'3 0 nNr nNr, vI Nj, vS bBr'3 0 nBr nBr, vI Bj, vI Dk, vF Dc0, vF Dc1, vF Dc2, vF Ds0, vF Ds1, vF sl, vF lo]]) (cap := []) rfl rfl rfl Try.call16 (c_eqBow nNr nNr (some ⟨bNr'2, 0, none⟩) bNr'2 0 xNr Nj nBr nBr (some ⟨bBr'2, 0, none⟩) bBr'2 0 xBr Bj Dk Dc0 Dc0 Dc1 Dc1 Dc2 Dc2 Ds0 Ds0 Ds1 Ds1 sl sl lo lo nNr (some ⟨bNr'3, 0, none⟩) bNr'3 0 nBr (some ⟨bBr'3, 0, none⟩) bBr'3 0 Dc0 Dc1 Dc2 Ds0 Ds1 sl lo lnNr (fun _ => rfl) lnBr (fun _ => rfl) (fun _ => rfl) (fun _ => rfl) rfl rfl rfl rfl rfl rfl rfl rfl rfl rfl rfl rfl rfl rfl (by omega) (by omega) w17 ((((((((((r7.ext m8).mod m9 (nC (lE (lL r7.lt lR)) nN)).ext m10).ext m11).mod m12 (nC (lE (lL (lL r7.lt (lT (lT m8.size m9.size) m10.size)) lR)) nN)).ext m13).ext md1).ext m14).ext m15).ext m16).rng ((((((((((r8.ext m8).mod m9 (nC (lE (lL r8.lt lR)) nN)).ext m10).ext m11).mod m12 (nC (lE (lL (lL r8.lt (lT (lT m8.size m9.size) m10.size)) lR)) nN)).ext m13).ext md1).ext m14).ext m15).ext m16).rng (r15.ext m16).rng (r16.ext m16).rng)) ?_
  rintro _ w18 ⟨rfl, m17⟩
  refine WO.det (op_not rfl) rfl (.free rfl) rfl rfl ?_
  refine WO.end ?_
  refine NE.code ?_
  refine CE.cond_f rfl rfl ?_
  refine CE.skip' ?_
  refine NE.code ?_
  refine CE.seq ?_
  refine CE.region ?_
  refine WL.det (op_assign rfl) rfl rfl rfl ?_
  refine WL.end ?_
  refine NE.code ?_
  refine CE.seq ?_
  refine CE.region ?_
  refine WL.det (op_loadA (i := 0) (cs := [vS bNr'2 0 nNr nNr, vI Nj, vS bBr'2 0 nBr nBr, vI Bj, vI Dk, vF Dc0, vF Dc1, vF Dc2, vF Ds0, vF Ds1, vF sl, vF lo]) rfl Try.isAgg36 Try.sizeOf36 (((((((((r11.ext m10).ext m11).mod m12 (nC (lE (lL (lL r9.lt (lT m9.size m10.size)) lR)) nN)).ext m13).ext md1).ext m14).ext m15).ext m16).ext m17).rng rfl rfl rfl) rfl rfl rfl ?_
  refine WL.det (op_move rfl) rfl rfl rfl ?_
  refine WL.call (oc_call (vs := [.agg #[vS bNr'2 0 nNr nNr, vI Nj, vS bBr'2 0 nBr nBr, vI Bj, vI Dk, vF Dc0, vF Dc1, vF Dc2, vF Ds0, vF Ds1, vF sl, vF lo], vI 1]) (cap := []) rfl rfl rfl Try.call17 (c_markBow nNr nNr bNr'2 xNr Nj nBr nBr bBr'2 xBr Bj Dk Dc0 Dc1 Dc2 Ds0 Ds1 sl lo 1 lnNr lnBr (by omega) (by omega) (by omega) w18 (((((((((((r7.ext m8).mod m9 (nC (lE (lL r7.lt lR)) nN)).ext m10).ext m11).mod m12 (nC (lE (lL (lL r7.lt (lT (lT m8.size m9.size) m10.size)) lR)) nN)).ext m13).ext md1).ext m14).ext m15).ext m16).ext m17) (((((((((((r8.ext m8).mod m9 (nC (lE (lL r8.lt lR)) nN)).ext m10).ext m11).mod m12 (nC (lE (lL (lL r8.lt (lT (lT m8.size m9.size) m10.size)) lR)) nN)).ext m13).ext md1).ext m14).ext m15).ext m16).ext m17) ne2)) rfl rfl (ltb rfl) ?_
  rintro _ w19 ⟨rfl, r17, r18, m18⟩
  refine WL.det (op_assign rfl) rfl rfl rfl ?_
  refine WL.end ?_
  refine NE.code ?_
  refine CE.seq ?_
  refine CE.seq ?_
  refine CE.region ?_
  refine WL.det (op_move rfl) rfl rfl rfl ?_
  refine WL.det (op_lti_f rfl rfl (by omega)) rfl rfl rfl ?_
  refine WL.det (op_move rfl) rfl rfl rfl ?_
  refine WL.yes rfl rfl rfl (ltb rfl) rfl rfl ?_
  refine WL.det (op_loadA (i := 0) (cs := [.slice none 0 0, vI 0, .slice none 0 0, vI 0, vI 0, vF 0, vF 0, vF 0, vF 0, vF 0, vF 0, vF 0]) rfl Try.isAgg36 Try.sizeOf36 (((((((r14.ext m13).ext md1).ext m14).ext m15).ext m16).ext m17).mod m18 (nC (lG (lL (lL r7.lt (lT (lT m8.size m9.size) m10.size)) lR)) (nC (lG (lL (lL r8.lt (lT (lT m8.size m9.size) m10.size)) lR)) nN))).rng rfl rfl rfl) rfl rfl rfl ?_
  refine WL.yes rfl rfl rfl (ltb rfl) rfl rfl ?_
  refine WL.det (op_loadA (i := 0) (cs := [.slice none 0 0, vI 0, .slice none 0 0, vI 0, vI 0, vF 0, vF 0, vF 0, vF 0, vF 0, vF 0, vF 0]) rfl Try.isAgg36 Try.sizeOf36 (((((((((((((r6.ext m7).ext m8).mod m9 (nC (lE (lL (lL r4.lt (lT m6.size m7.size)) lR)) nN)).ext m10).ext m11).mod m12 (nC (lE (lL (lL r4.lt (lT (lT (lT (lT m6.size m7.size) m8.size) m9.size) m10.size)) lR)) nN)).ext m13).ext md1).ext m14).ext m15).ext m16).ext m17).mod m18 (nC (lE (lL (lL r4.lt m6.size) ge3)) (nC (lE (lL (lL r4.lt m6.size) ge4)) nN))).rng rfl rfl rfl) rfl rfl rfl ?_
  refine WL.yes rfl rfl rfl (ltb rfl) rfl rfl ?_
  refine WL.call (oc_call (vs := [.agg #[.slice none 0 0, vI 0, .slice none 0 0, vI 0, vI 0, vF 0, vF 0, vF 0, vF 0, vF 0, vF 0, vF 0], .agg #[.slice none 0 0, vI 0, .slice none 0 0, vI 0, vI 0, vF 0, vF 0, vF 0, vF 0, vF 0, vF 0, vF 0]]) (cap := []) rfl rfl rfl Try.call16 (c_eqBow 0 0 none 0 0 [] (0 : Int) 0 0 none 0 0 [] (0 : Int) (0 : Int) 0 0 0 0 0 0 0 0 0 0 0 0 0 0 0 none 0 0 0 none 0 0 0 0 0 0 0 0 0 rfl (fun h => absurd h (Nat.lt_irrefl _)) rfl (fun h => absurd h (Nat.lt_irrefl _)) (fun h => absurd h (Nat.lt_irrefl _)) (fun h => absurd h (Nat.lt_irrefl _)) rfl rfl rfl rfl rfl rfl rfl rfl rfl rfl rfl rfl rfl rfl (by omega) (by omega) w19 (Rng.nil _ _ _) (Rng.nil _ _ _) (Rng.nil _ _ _) (Rng.nil _ _ _))) rfl rfl (ltb rfl) ?_
  rintro _ w20 ⟨rfl, m19⟩
  refine WL.yes rfl rfl rfl (ltb rfl) rfl rfl ?_
  refine WL.det (op_not rfl) rfl rfl rfl ?_
  refine WL.det (op_pick_f rfl rfl rfl) rfl rfl rfl ?_
  refine WL.det (op_move rfl) rfl rfl rfl ?_
  refine WL.yes rfl rfl rfl (ltb rfl) rfl rfl ?_
  refine WL.det (op_move rfl) rfl rfl rfl ?_
  refine WL.yes rfl rfl rfl (ltb rfl) rfl rfl ?_
  refine WL.det (op_move rfl) rfl rfl rfl ?_
  refine WL.yes rfl rfl rfl (ltb rfl) rfl rfl ?_
  refine WL.det (op_nei rfl rfl) rfl rfl rfl ?_
  refine WL.det (op_pick_f rfl rfl rfl) rfl rfl rfl ?_
  refine WL.end ?_
  refine NE.code ?_
  refine CE.cond_f rfl rfl ?_
  refine CE.skip' ?_
  refine NE.code ?_
  refine CE.seq ?_
  refine CE.region ?_
  refine WL.det (op_assign rfl) rfl rfl rfl ?_
  refine WL.end ?_
  refine NE.code ?_
  refine CE.seq ?_
  refine CE.region ?_
  refine WL.det (op_loadA (i := 0) (cs := [.slice none 0 0, vI 0, .slice none 0 0, vI 0, vI 0, vF 0, vF 0, vF 0, vF 0, vF 0, vF 0, vF 0]) rfl Try.isAgg36 Try.sizeOf36 ((((((((r14.ext m13).ext md1).ext m14).ext m15).ext m16).ext m17).mod m18 (nC (lG (lL (lL r7.lt (lT (lT m8.size m9.size) m10.size)) lR)) (nC (lG (lL (lL r8.lt (lT (lT m8.size m9.size) m10.size)) lR)) nN))).ext m19).rng rfl rfl rfl) rfl rfl rfl ?_
  refine WL.det (op_move rfl) rfl rfl rfl ?_
  refine WL.call (oc_call (vs := [.agg #[.slice none 0 0, vI 0, .slice none 0 0, vI 0, vI 0, vF 0, vF 0, vF 0, vF 0, vF 0, vF 0, vF 0], vI 1]) (cap := []) rfl rfl rfl Try.call17 (c_markBow_nil (0 : Int) (0 : Int) (0 : Int) 0 0 0 0 0 0 0 1 (by omega) w20)) rfl rfl (ltb rfl) ?_
  rintro _ w21 ⟨rfl, m20⟩
  refine WL.det (op_assign rfl) rfl rfl rfl ?_
  refine WL.end ?_
  refine NE.code ?_
  refine CE.seq ?_
  refine CE.region ?_
  refine WL.det (op_assign rfl) rfl rfl rfl ?_
  refine WL.end ?_
  refine NE.code ?_
  refine CE.seq ?_
  refine CE.region ?_
  refine WL.det (op_loadA (i := 0) (cs := [.slice none 0 0, vI 0, .slice none 0 0, vI 0, vI 0, vF 0, vF 0, vF 0, vF 0, vF 0, vF 0, vF 0]) rfl Try.isAgg36 Try.sizeOf36 (((((((((r14.ext m13).ext md1).ext m14).ext m15).ext m16).ext m17).mod m18 (nC (lG (lL (lL r7.lt (lT (lT m8.size m9.size) m10.size)) lR)) (nC (lG (lL (lL r8.lt (lT (lT m8.size m9.size) m10.size)) lR)) nN))).ext m19).ext m20).rng rfl rfl rfl) rfl rfl rfl ?_
  refine WL.det (op_move rfl) rfl rfl rfl ?_
  refine WL.call (oc_call (vs := [.agg #[.slice none 0 0, vI 0, .slice none 0 0, vI 0, vI 0, vF 0, vF 0, vF 0, vF 0, vF 0, vF 0, vF 0], vI 1]) (cap := []) rfl rfl rfl Try.call18 (c_heldBow_nil (0 : Int) (0 : Int) (0 : Int) 0 0 0 0 0 0 0 1 (by omega) w21)) rfl rfl (ltb rfl) ?_
  rintro _ w22 ⟨rfl, m21⟩
  refine WL.det (op_assign rfl) rfl rfl rfl ?_
  refine WL.end ?_
  refine NE.code ?_
  refine CE.seq ?_
  refine CE.seq ?_
  refine CE.region ?_
  refine WL.det (op_move rfl) rfl rfl rfl ?_
  refine WL.det (op_lti rfl rfl) rfl rfl rfl ?_
  refine WL.end ?_
  refine NE.code ?_
  refine CE.cond_f rfl rfl ?_
  refine CE.skip' ?_
  refine NE.code ?_
  refine CE.seq ?_
  refine CE.seq ?_
  refine CE.region ?_
  refine WL.det (op_move rfl) rfl rfl rfl ?_
  refine WL.det (op_move rfl) rfl rfl rfl ?_
  refine WL.det (op_nei rfl rfl) rfl rfl rfl ?_
  refine WL.end ?_
  refine NE.code ?_
  refine CE.cond_f rfl rfl ?_
  refine CE.skip' ?_
  refine NE.code ?_
  refine CE.seq ?_
  refine CE.region ?_
  refine WL.det (op_loadA (i := 0) (cs := [.slice ANr nNr cNr, vI Nj, .slice ABr nBr cBr, vI Bj, vI Dk, vF Dc0, vF Dc1, vF Dc2, vF Ds0, vF Ds1, vF sl, vF lo]) rfl Try.isAgg31 Try.sizeOf31 (((((((((((((((((((((r1.ext m2).ext m3).ext m4).ext m5).mod m6 (nC (lE (lL (lL r1.lt (lT (lT m2.size m3.size) m4.size)) lR)) nN)).ext m7).ext m8).mod m9 (nC (lE (lL (lL r1.lt (lT (lT (lT (lT (lT m2.size m3.size) m4.size) m5.size) m6.size) m7.size)) lR)) nN)).ext m10).ext m11).mod m12 (nC (lE (lL (lL r1.lt (lT (lT (lT (lT (lT (lT (lT (lT m2.size m3.size) m4.size) m5.size) m6.size) m7.size) m8.size) m9.size) m10.size)) lR)) nN)).ext m13).ext md1).ext m14).ext m15).ext m16).ext m17).mod m18 (nC (lE (lL (lL r1.lt (lT (lT (lT (lT m2.size m3.size) m4.size) m5.size) m6.size)) ge3)) (nC (lE (lL (lL r1.lt (lT (lT (lT (lT m2.size m3.size) m4.size) m5.size) m6.size)) ge4)) nN))).ext m19).ext m20).ext m21).rng rfl rfl rfl) rfl rfl rfl ?_
  refine WL.call (oc_call (vs := [.agg #[.slice ANr nNr cNr, vI Nj, .slice ABr nBr cBr, vI Bj, vI Dk, vF Dc0, vF Dc1, vF Dc2, vF Ds0, vF Ds1, vF sl, vF lo]]) (cap := []) rfl rfl rfl Try.call14 (c_toBow nNr cNr ANr bNr oNr xNr Nj nBr cBr ABr bBr oBr xBr Bj Dk Dc0 Dc1 Dc2 Ds0 Ds1 sl lo lnNr hANr lnBr hABr (by omega) (by omega) w22 ((((Rng.youngS rNr (((((((Rng.youngS rNr (((Rng.youngS rNr (((Rng.youngS rNr (((((rNr.ext m1).ext m2).ext m3).ext m4).ext m5) m6 (allge_cons (lT (lT (lT (lT m1.size m2.size) m3.size) m4.size) lR) allge_nil)).ext m7).ext m8) m9 (allge_cons (lT (lT (lT (lT (lT (lT (lT m1.size m2.size) m3.size) m4.size) m5.size) m6.size) m7.size) lR) allge_nil)).ext m10).ext m11) m12 (allge_cons (lT (lT (lT (lT (lT (lT (lT (lT (lT (lT m1.size m2.size) m3.size) m4.size) m5.size) m6.size) m7.size) m8.size) m9.size) m10.size) lR) allge_nil)).ext m13).ext md1).ext m14).ext m15).ext m16).ext m17) m18 (allge_cons (lT (lT (lT (lT (lT (lT m1.size m2.size) m3.size) m4.size) m5.size) m6.size) ge3) (allge_cons (lT (lT (lT (lT (lT (lT m1.size m2.size) m3.size) m4.size) m5.size) m6.size) ge4) allge_nil))).ext m19).ext m20).ext m21) ((((Rng.youngS rBr (((((((Rng.youngS rBr (((Rng.youngS rBr (((Rng.youngS rBr (((((rBr.ext m1).ext m2).ext m3).ext m4).ext m5) m6 (allge_cons (lT (lT (lT (lT m1.size m2.size) m3.size) m4.size) lR) allge_nil)).ext m7).ext m8) m9 (allge_cons (lT (lT (lT (lT (lT (lT (lT m1.size m2.size) m3.size) m4.size) m5.size) m6.size) m7.size) lR) allge_nil)).ext m10).ext m11) m12 (allge_cons (lT (lT (lT (lT (lT (lT (lT (lT (lT (lT m1.size m2.size) m3.size) m4.size) m5.size) m6.size) m7.size) m8.size) m9.size) m10.size) lR) allge_nil)).ext m13).ext md1).ext m14).ext m15).ext m16).ext m17) m18 (allge_cons (lT (lT (lT (lT (lT (lT m1.size m2.size) m3.size) m4.size) m5.size) m6.size) ge3) (allge_cons (lT (lT (lT (lT (lT (lT m1.size m2.size) m3.size) m4.size) m5.size) m6.size) ge4) allge_nil))).ext m19).ext m20).ext m21))) rfl rfl (ltb rfl) ?_
  rintro _ w23 ⟨bNr'4, bBr'4, rfl, r19, r20, ge7, ge8, ne4, m22⟩
  refine WL.det (op_move rfl) rfl rfl rfl ?_
  refine WL.call (oc_call (vs := [.agg #[vS bNr'4 0 nNr nNr, vI Nj, vS bBr'4 0 nBr nBr, vI Bj, vI Dk, vF Dc0, vF Dc1, vF Dc2, vF Ds0, vF Ds1, vF sl, vF lo], vF a]) (cap := []) rfl rfl rfl Try.call15 (c_iPull_inf nNr nNr bNr'4 xNr nBr nBr bBr'4 xBr Nj Bj Dk Dc0 Dc1 Dc2 Ds0 Ds1 sl lo a lnNr lnBr (by omega) (by omega) (by first | assumption | exact W32.get (by assumption) _ | decide +kernel) (by first | assumption | exact W32.get (by assumption) _ | decide +kernel) la (by assumption) (by assumption) w23 r19.rng r20.rng)) rfl rfl (ltb rfl) ?_
  rintro _ w24 ⟨rfl, m23⟩
  refine WL.det (op_move rfl) rfl rfl rfl ?_
  refine WL.det (op_extract rfl rfl) rfl rfl rfl ?_
  refine WL.det (op_extract rfl rfl) rfl rfl rfl ?_
  refine WL.op (op_alloc (cs := [.slice none 0 0, vI 0, .slice none 0 0, vI 0, vI 0, vF 0, vF 0, vF 0, vF 0, vF 0, vF 0, vF 0]) Try.zeroValue36 rfl) rfl rfl (ltb rfl) ?_
  rintro _ w25 ⟨rfl, r21, m24, z8⟩
  refine WL.op0 (op_store (i := 0) (cs := [.slice none 0 0, vI 0, .slice none 0 0, vI 0, vI 0, vF 0, vF 0, vF 0, vF 0, vF 0, vF 0, vF 0]) rfl rfl rfl Try.sizeOf36 rfl r21 rfl (lB rfl) rfl) rfl rfl ?_
  rintro _ w26 ⟨r22, m25, z9⟩
  have r23 : Row w26 w24.heap.size 0 [.slice none 0 0, vI 0, .slice none 0 0, vI 0, vI 0, vF 0, vF 0, vF 0, vF 0, vF 0, vF 0, vF 0] := Row.congr r22 rfl
  refine WL.det (op_assign rfl) rfl rfl rfl ?_
  refine WL.end ?_
  refine NE.code ?_
  refine CE.seq ?_
  refine CE.seq ?_
  refine CE.region ?_
  refine WL.det (op_loadA (i := 0) (cs := [.slice none 0 0, vI 0, .slice none 0 0, vI 0, vI 0, vF 0, vF 0, vF 0, vF 0, vF 0, vF 0, vF 0]) rfl Try.isAgg36 Try.sizeOf36 r23.rng rfl rfl rfl) rfl rfl rfl ?_
  refine WL.det (op_loadA (i := 0) (cs := [.slice none 0 0, vI 0, .slice none 0 0, vI 0, vI 0, vF 0, vF 0, vF 0, vF 0, vF 0, vF 0, vF 0]) rfl Try.isAgg36 Try.sizeOf36 ((((((((((((((((((((r6.ext m7).ext m8).mod m9 (nC (lE (lL (lL r4.lt (lT m6.size m7.size)) lR)) nN)).ext m10).ext m11).mod m12 (nC (lE (lL (lL r4.lt (lT (lT (lT (lT m6.size m7.size) m8.size) m9.size) m10.size)) lR)) nN)).ext m13).ext md1).ext m14).ext m15).ext m16).ext m17).mod m18 (nC (lE (lL (lL r4.lt m6.size) ge3)) (nC (lE (lL (lL r4.lt m6.size) ge4)) nN))).ext m19).ext m20).ext m21).ext m22).ext m23).ext m24).mod m25 (nC (lE (lL (lL r4.lt (lT (lT (lT (lT (lT (lT (lT (lT (lT (lT (lT (lT (lT (lT (lT (lT (lT (lT m6.size m7.size) m8.size) m9.size) m10.size) m11.size) m12.size) m13.size) md1.size) m14.size) m15.size) m16.size) m17.size) m18.size) m19.size) m20.size) m21.size) m22.size) m23.size)) lR)) nN)).rng rfl rfl rfl) rfl rfl rfl ?_
  refine WL.call (oc_call (vs := [.agg #[.slice none 0 0, vI 0, .slice none 0 0, vI 0, vI 0, vF 0, vF 0, vF 0, vF 0, vF 0, vF 0, vF 0], .agg #[.slice none 0 0, vI 0, .slice none 0 0, vI 0, vI 0, vF 0, vF 0, vF 0, vF 0, vF 0, vF 0, vF 0]]) (cap := []) rfl rfl rfl Try.call16 (c_eqBow 0 0 none 0 0 [] (0 : Int) 0 0 none 0 0 [] (0 : Int) (0 : Int) 0 0 0 0 0 0 0 0 0 0 0 0 0 0 0 none 0 0 0 none 0 0 0 0 0 0 0 0 0 rfl (fun h => absurd h (Nat.lt_irrefl _)) rfl (fun h => absurd h (Nat.lt_irrefl _)) (fun h => absurd h (Nat.lt_irrefl _)) (fun h => absurd h (Nat.lt_irrefl _)) rfl rfl rfl rfl rfl rfl rfl rfl rfl rfl rfl rfl rfl rfl (by omega) (by omega) w26 (Rng.nil _ _ _) (Rng.nil _ _ _) (Rng.nil _ _ _) (Rng.nil _ _ _))) rfl rfl (ltb rfl) ?_
  rintro _ w27 ⟨rfl, m26⟩
  refine WL.det (op_not rfl) rfl rfl rfl ?_
  refine WL.det (op_move rfl) rfl rfl rfl ?_
  refine WL.yes rfl rfl rfl (ltb rfl) rfl rfl ?_
  refine WL.det (op_move rfl) rfl rfl rfl ?_
  refine WL.yes rfl rfl rfl (ltb rfl) rfl rfl ?_
  refine WL.det (op_move rfl) rfl rfl rfl ?_
  refine WL.yes rfl rfl rfl (ltb rfl) rfl rfl ?_
  refine WL.det (op_nei rfl rfl) rfl rfl rfl ?_
  refine WL.det (op_pick_f rfl rfl rfl) rfl rfl rfl ?_
  refine WL.end ?_
  refine NE.code ?_
  refine CE.cond_f rfl rfl ?_
  refine CE.skip' ?_
  refine NE.code ?_
  refine CE.seq ?_
  refine CE.region ?_
  refine WL.det (op_assign rfl) rfl rfl rfl ?_
  refine WL.end ?_
  refine NE.code ?_
  refine CE.seq ?_
  refine CE.region ?_
  refine WL.det (op_loadA (i := 0) (cs := [.slice none 0 0, vI 0, .slice none 0 0, vI 0, vI 0, vF 0, vF 0, vF 0, vF 0, vF 0, vF 0, vF 0]) rfl Try.isAgg36 Try.sizeOf36 (((((((((((((((r14.ext m13).ext md1).ext m14).ext m15).ext m16).ext m17).mod m18 (nC (lG (lL (lL r7.lt (lT (lT m8.size m9.size) m10.size)) lR)) (nC (lG (lL (lL r8.lt (lT (lT m8.size m9.size) m10.size)) lR)) nN))).ext m19).ext m20).ext m21).ext m22).ext m23).ext m24).mod m25 (nC (lE (lL (lL r12.lt (lT (lT (lT (lT (lT (lT (lT (lT (lT (lT (lT (lT m12.size m13.size) md1.size) m14.size) m15.size) m16.size) m17.size) m18.size) m19.size) m20.size) m21.size) m22.size) m23.size)) lR)) nN)).ext m26).rng rfl rfl rfl) rfl rfl rfl ?_
  refine WL.det (op_move rfl) rfl rfl rfl ?_
  refine WL.call (oc_call (vs := [.agg #[.slice none 0 0, vI 0, .slice none 0 0, vI 0, vI 0, vF 0, vF 0, vF 0, vF 0, vF 0, vF 0, vF 0], vI 1]) (cap := []) rfl rfl rfl Try.call18 (c_heldBow_nil (0 : Int) (0 : Int) (0 : Int) 0 0 0 0 0 0 0 1 (by omega) w27)) rfl rfl (ltb rfl) ?_
  rintro _ w28 ⟨rfl, m27⟩
  refine WL.det (op_assign rfl) rfl rfl rfl ?_
  refine WL.end ?_
  refine NE.code ?_
  refine CE.seq ?_
  refine CE.seq ?_
  refine CE.region ?_
  refine WL.det (op_move rfl) rfl rfl rfl ?_
  refine WL.det (op_lti rfl rfl) rfl rfl rfl ?_
  refine WL.end ?_
  refine NE.code ?_
  refine CE.cond_f rfl rfl ?_
  refine CE.skip' ?_
  refine NE.code ?_
  refine CE.seq ?_
  refine CE.seq ?_
  refine CE.region ?_
  refine WL.det (op_move rfl) rfl rfl rfl ?_
  refine WL.det (op_move rfl) rfl rfl rfl ?_
  refine WL.det (op_nei rfl rfl) rfl rfl rfl ?_
  refine WL.end ?_
  refine NE.code ?_
  refine CE.cond_f rfl rfl ?_
  refine CE.skip' ?_
  refine NE.code ?_
  refine CE.seq ?_
  refine CE.region ?_
  refine WL.det (op_assign rfl) rfl rfl rfl ?_
  refine WL.end ?_
  refine NE.code ?_
  refine CE.ret' ?_
  refine XE.leave1 Try.results3 rfl ?_
  refine ⟨rfl, (((((((((((((((((((((((((((((Mod.refl [] w).nt m1).nt m2).nt m3).nt m4).nt m5).then m6 ((aC (.inr (lT (lT (lT (lT m1.size m2.size) m3.size) m4.size) lR)) aN))).nt m7).nt m8).then m9 ((aC (.inr (lT (lT (lT (lT (lT (lT (lT m1.size m2.size) m3.size) m4.size) m5.size) m6.size) m7.size) lR)) aN))).nt m10).nt m11).then m12 ((aC (.inr (lT (lT (lT (lT (lT (lT (lT (lT (lT (lT m1.size m2.size) m3.size) m4.size) m5.size) m6.size) m7.size) m8.size) m9.size) m10.size) lR)) aN))).nt m13).nt md1).nt m14).nt m15).nt m16).nt m17).then m18 ((aC (.inr (lT (lT (lT (lT (lT (lT m1.size m2.size) m3.size) m4.size) m5.size) m6.size) ge3)) (aC (.inr (lT (lT (lT (lT (lT (lT m1.size m2.size) m3.size) m4.size) m5.size) m6.size) ge4)) aN)))).nt m19).nt m20).nt m21).nt m22).nt m23).nt m24).then m25 ((aC (.inr (lT (lT (lT (lT (lT (lT (lT (lT (lT (lT (lT (lT (lT (lT (lT (lT (lT (lT (lT (lT (lT (lT (lT (lT m1.size m2.size) m3.size) m4.size) m5.size) m6.size) m7.size) m8.size) m9.size) m10.size) m11.size) m12.size) m13.size) md1.size) m14.size) m15.size) m16.size) m17.size) m18.size) m19.size) m20.size) m21.size) m22.size) m23.size) lR)) aN))).nt m26).nt m27)⟩

set_option maxRecDepth 100000 in
set_option maxHeartbeats 2000000 in
theorem law_pull_bad (nNr : Nat) (cNr : Nat) (ANr : Option Addr) (bNr : Nat) (oNr : Nat) (xNr : List Nat) (Nj : Int) (nBr : Nat) (cBr : Nat) (ABr : Option Addr) (bBr : Nat) (oBr : Nat) (xBr : List Nat) (Bj : Int) (Dk : Int) (Dc0 : Nat) (Dc1 : Nat) (Dc2 : Nat) (Ds0 : Nat) (Ds1 : Nat) (sl : Nat) (lo : Nat) (a : Nat) (lnNr : xNr.length = nNr) (hANr : 0 < nNr → ANr = some ⟨bNr, oNr, none⟩) (lnBr : xBr.length = nBr) (hABr : 0 < nBr → ABr = some ⟨bBr, oBr, none⟩) (wNr : W32 xNr) (wBr : W32 xBr) (lDs0 : Ds0 < wid .f32) (lDs1 : Ds1 < wid .f32) (hv : vBow nNr Nj nBr Bj xNr xBr Dk Dc0 Dc1 Dc2 Ds0 Ds1 sl lo = false) (hn : nNr ≤ 9223372036854775807) (hm : nBr ≤ 9223372036854775807) (la : a < wid .f32) (w : World) (rNr : Rng w bNr oNr (fl xNr)) (rBr : Rng w bBr oBr (fl xBr)) : Cl Try.prog 3 #[.agg #[.slice ANr nNr cNr, vI Nj, .slice ABr nBr cBr, vI Bj, vI Dk, vF Dc0, vF Dc1, vF Dc2, vF Ds0, vF Ds1, vF sl, vF lo], vF a] w fun v w' => v = .bool true ∧ Mod [] w w' := by
  refine Cl.of Try.func3 Try.ntmps3 rfl rfl (ρ := [(0, .agg #[.slice ANr nNr cNr, vI Nj, .slice ABr nBr cBr, vI Bj, vI Dk, vF Dc0, vF Dc1, vF Dc2, vF Ds0, vF Ds1, vF sl, vF lo]), (1, vF a)]) rfl ?_
  refine CE.seq ?_
  refine CE.region ?_
  refine WL.op (op_box (cs := [.slice ANr nNr cNr, vI Nj, .slice ABr nBr cBr, vI Bj, vI Dk, vF Dc0, vF Dc1, vF Dc2, vF Ds0, vF Ds1, vF sl, vF lo]) rfl rfl) rfl rfl (ltb rfl) ?_
  rintro _ w1 ⟨rfl, r1, m1, z1⟩
  refine WL.det (op_assign rfl) rfl rfl rfl ?_
  refine WL.end ?_
  refine NE.code ?_
  refine CE.seq ?_
  refine CE.region ?_
  refine WL.det (op_assign rfl) rfl rfl rfl ?_
  refine WL.end ?_
  refine NE.code ?_
  refine CE.seq ?_
  refine CE.region ?_
  refine WL.det (op_loadA (i := 0) (cs := [.slice ANr nNr cNr, vI Nj, .slice ABr nBr cBr, vI Bj, vI Dk, vF Dc0, vF Dc1, vF Dc2, vF Ds0, vF Ds1, vF sl, vF lo]) rfl Try.isAgg31 Try.sizeOf31 r1.rng rfl rfl rfl) rfl rfl rfl ?_
  refine WL.det (op_move rfl) rfl rfl rfl ?_
  rcases Bool.eq_false_or_eq_true (decide (1048576 < nNr + nBr)) with hb1 | hb1
  · have hp1 := hb1; try simp only [Bool.and_eq_true, Bool.or_eq_true, Bool.not_eq_true', Bool.not_eq_false', Bool.and_eq_false_iff, Bool.or_eq_false_iff, decide_eq_true_eq, decide_eq_false_iff_not, beq_iff_eq, bne_iff_ne, beq_eq_false_iff_ne, bne_eq_false_iff_eq, ne_eq, Bool.false_eq_true, not_false_eq_true, not_true_eq_false, vIn_t, vIn_f] at hp1
    refine WL.call (oc_call (vs := [.agg #[.slice ANr nNr cNr, vI Nj, .slice ABr nBr cBr, vI Bj, vI Dk, vF Dc0, vF Dc1, vF Dc2, vF Ds0, vF Ds1, vF sl, vF lo], vI 1048576]) (cap := []) rfl rfl rfl Try.call12 (c_szBow_over 1048576 nNr cNr ANr Nj nBr cBr ABr Bj Dk Dc0 Dc1 Dc2 Ds0 Ds1 sl lo (by omega) (by omega) (by omega) (by omega) w1)) rfl rfl (ltb rfl) ?_
    rintro _ w2 ⟨rfl, m2⟩
    refine WL.det (op_assign rfl) rfl rfl rfl ?_
    refine WL.end ?_
    refine NE.code ?_
    refine CE.seq ?_
    refine CE.seq ?_
    refine CE.region ?_
    refine WL.det (op_move rfl) rfl rfl rfl ?_
    refine WL.det (op_lti rfl rfl) rfl rfl rfl ?_
    refine WL.end ?_
    refine NE.code ?_
    refine CE.cond_t rfl rfl ?_
    refine CE.seq ?_
    refine CE.region ?_
    refine WL.det (op_assign rfl) rfl rfl rfl ?_
    refine WL.end ?_
    refine NE.code ?_
    refine CE.ret' ?_
    refine XE.ret_then ?_
    refine XE.leave1 Try.results3 rfl ?_
    refine ⟨rfl, (((Mod.refl [] w).nt m1).nt m2)⟩
  · have hp1 := hb1; try simp only [Bool.and_eq_true, Bool.or_eq_true, Bool.not_eq_true', Bool.not_eq_false', Bool.and_eq_false_iff, Bool.or_eq_false_iff, decide_eq_true_eq, decide_eq_false_iff_not, beq_iff_eq, bne_iff_ne, beq_eq_false_iff_ne, bne_eq_false_iff_eq, ne_eq, Bool.false_eq_true, not_false_eq_true, not_true_eq_false, vIn_t, vIn_f] at hp1
    refine WL.call (oc_call (vs := [.agg #[.slice ANr nNr cNr, vI Nj, .slice ABr nBr cBr, vI Bj, vI Dk, vF Dc0, vF Dc1, vF Dc2, vF Ds0, vF Ds1, vF sl, vF lo], vI 1048576]) (cap := []) rfl rfl rfl Try.call12 (c_szBow 1048576 nNr cNr ANr Nj nBr cBr ABr Bj Dk Dc0 Dc1 Dc2 Ds0 Ds1 sl lo (by omega) (by omega) w1)) rfl rfl (ltb rfl) ?_
    rintro _ w3 ⟨rfl, m3⟩
    refine WL.det (op_assign rfl) rfl rfl rfl ?_
    refine WL.end ?_
    refine NE.code ?_
    refine CE.seq ?_
    refine CE.seq ?_
    refine CE.region ?_
    refine WL.det (op_move rfl) rfl rfl rfl ?_
    refine WL.det (op_lti_f rfl rfl (by omega)) rfl rfl rfl ?_
    refine WL.end ?_
    refine NE.code ?_
    refine CE.cond_f rfl rfl ?_
    refine CE.skip' ?_
    refine NE.code ?_
    refine CE.seq ?_
    refine CE.region ?_
    refine WL.det (op_loadA (i := 0) (cs := [.slice ANr nNr cNr, vI Nj, .slice ABr nBr cBr, vI Bj, vI Dk, vF Dc0, vF Dc1, vF Dc2, vF Ds0, vF Ds1, vF sl, vF lo]) rfl Try.isAgg31 Try.sizeOf31 (r1.ext m3).rng rfl rfl rfl) rfl rfl rfl ?_
    refine WL.call (oc_call (vs := [.agg #[.slice ANr nNr cNr, vI Nj, .slice ABr nBr cBr, vI Bj, vI Dk, vF Dc0, vF Dc1, vF Dc2, vF Ds0, vF Ds1, vF sl, vF lo]]) (cap := []) rfl rfl rfl Try.call14 (c_toBow nNr cNr ANr bNr oNr xNr Nj nBr cBr ABr bBr oBr xBr Bj Dk Dc0 Dc1 Dc2 Ds0 Ds1 sl lo lnNr hANr lnBr hABr (by omega) (by omega) w3 ((rNr.ext m1).ext m3) ((rBr.ext m1).ext m3))) rfl rfl (ltb rfl) ?_
    rintro _ w4 ⟨bNr'1, bBr'1, rfl, r2, r3, ge1, ge2, ne1, m4⟩
    refine WL.det (op_move rfl) rfl rfl rfl ?_
    refine WL.call (oc_call (vs := [.agg #[vS bNr'1 0 nNr nNr, vI Nj, vS bBr'1 0 nBr nBr, vI Bj, vI Dk, vF Dc0, vF Dc1, vF Dc2, vF Ds0, vF Ds1, vF sl, vF lo], vF a]) (cap := []) rfl rfl rfl Try.call13 (c_sPull_bad nNr nNr bNr'1 xNr nBr nBr bBr'1 xBr Nj Bj Dk Dc0 Dc1 Dc2 Ds0 Ds1 sl lo a lnNr lnBr (by omega) (by omega) (by first | assumption | exact W32.get (by assumption) _ | decide +kernel) (by first | assumption | exact W32.get (by assumption) _ | decide +kernel) la (by assumption) w4 r2.rng r3.rng)) rfl rfl (ltb rfl) ?_
    rintro _ w5 ⟨rfl, m5⟩
    refine WL.det (op_move rfl) rfl rfl rfl ?_
    refine WL.det (op_extract rfl rfl) rfl rfl rfl ?_
    refine WL.det (op_extract rfl rfl) rfl rfl rfl ?_
    refine WL.op (op_alloc (cs := [.slice none 0 0, vI 0, .slice none 0 0, vI 0, vI 0, vF 0, vF 0, vF 0, vF 0, vF 0, vF 0, vF 0]) Try.zeroValue36 rfl) rfl rfl (ltb rfl) ?_
    rintro _ w6 ⟨rfl, r4, m6, z2⟩
    refine WL.op0 (op_store (i := 0) (cs := [.slice none 0 0, vI 0, .slice none 0 0, vI 0, vI 0, vF 0, vF 0, vF 0, vF 0, vF 0, vF 0, vF 0]) rfl rfl rfl Try.sizeOf36 rfl r4 rfl (lB rfl) rfl) rfl rfl ?_
    rintro _ w7 ⟨r5, m7, z3⟩
    have r6 : Row w7 w5.heap.size 0 [.slice none 0 0, vI 0, .slice none 0 0, vI 0, vI 0, vF 0, vF 0, vF 0, vF 0, vF 0, vF 0, vF 0] := Row.congr r5 rfl
    refine WL.det (op_assign rfl) rfl rfl rfl ?_
    refine WL.end ?_
    refine NE.code ?_
    refine CE.seq ?_
    refine CE.region ?_
    refine WL.det (op_loadA (i := 0) (cs := [.slice ANr nNr cNr, vI Nj, .slice ABr nBr cBr, vI Bj, vI Dk, vF Dc0, vF Dc1, vF Dc2, vF Ds0, vF Ds1, vF sl, vF lo]) rfl Try.isAgg31 Try.sizeOf31 (((((r1.ext m3).ext m4).ext m5).ext m6).mod m7 (nC (lE (lL (lL r1.lt (lT (lT m3.size m4.size) m5.size)) lR)) nN)).rng rfl rfl rfl) rfl rfl rfl ?_
    refine WL.call (oc_call (vs := [.agg #[.slice ANr nNr cNr, vI Nj, .slice ABr nBr cBr, vI Bj, vI Dk, vF Dc0, vF Dc1, vF Dc2, vF Ds0, vF Ds1, vF sl, vF lo]]) (cap := []) rfl rfl rfl Try.call14 (c_toBow nNr cNr ANr bNr oNr xNr Nj nBr cBr ABr bBr oBr xBr Bj Dk Dc0 Dc1 Dc2 Ds0 Ds1 sl lo lnNr hANr lnBr hABr (by omega) (by omega) w7 (Rng.youngS rNr (((((rNr.ext m1).ext m3).ext m4).ext m5).ext m6) m7 (allge_cons (lT (lT (lT (lT m1.size m3.size) m4.size) m5.size) lR) allge_nil)) (Rng.youngS rBr (((((rBr.ext m1).ext m3).ext m4).ext m5).ext m6) m7 (allge_cons (lT (lT (lT (lT m1.size m3.size) m4.size) m5.size) lR) allge_nil)))) rfl rfl (ltb rfl) ?_
    rintro _ w8 ⟨bNr'2, bBr'2, rfl, r7, r8, ge3, ge4, ne2, m8⟩
    refine WL.op (op_alloc (cs := [.slice none 0 0, vI 0, .slice none 0 0, vI 0, vI 0, vF 0, vF 0, vF 0, vF 0, vF 0, vF 0, vF 0]) Try.zeroValue36 rfl) rfl rfl (ltb rfl) ?_
    rintro _ w9 ⟨rfl, r9, m9, z4⟩
    refine WL.op0 (op_store (i := 0) (cs := [vS bNr'2 0 nNr nNr, vI Nj, vS bBr'2 0 nBr nBr, vI Bj, vI Dk, vF Dc0, vF Dc1, vF Dc2, vF Ds0, vF Ds1, vF sl, vF lo]) rfl rfl rfl Try.sizeOf36 rfl r9 rfl (lB rfl) rfl) rfl rfl ?_
    rintro _ w10 ⟨r10, m10, z5⟩
    have r11 : Row w10 w8.heap.size 0 [vS bNr'2 0 nNr nNr, vI Nj, vS bBr'2 0 nBr nBr, vI Bj, vI Dk, vF Dc0, vF Dc1, vF Dc2, vF Ds0, vF Ds1, vF sl, vF lo] := Row.congr r10 rfl
    refine WL.end ?_
    refine NE.code ?_
    refine CE.seq ?_
    refine CE.region ?_
    refine WL.det (op_loadA (i := 0) (cs := [vS bNr'2 0 nNr nNr, vI Nj, vS bBr'2 0 nBr nBr, vI Bj, vI Dk, vF Dc0, vF Dc1, vF Dc2, vF Ds0, vF Ds1, vF sl, vF lo]) rfl Try.isAgg36 Try.sizeOf36 r11.rng rfl rfl rfl) rfl rfl rfl ?_
    refine WL.det (op_move rfl) rfl rfl rfl ?_
    refine WL.call (oc_call (vs := [.agg #[vS bNr'2 0 nNr nNr, vI Nj, vS bBr'2 0 nBr nBr, vI Bj, vI Dk, vF Dc0, vF Dc1, vF Dc2, vF Ds0, vF Ds1, vF sl, vF lo], vF a]) (cap := []) rfl rfl rfl Try.call15 (c_iPull_bad nNr nNr bNr'2 xNr nBr nBr bBr'2 xBr Nj Bj Dk Dc0 Dc1 Dc2 Ds0 Ds1 sl lo a lnNr lnBr (by omega) (by omega) (by first | assumption | exact W32.get (by assumption) _ | decide +kernel) (by first | assumption | exact W32.get (by assumption) _ | decide +kernel) la (by assumption) w10 ((r7.ext m9).mod m10 (nC (lE (lL r7.lt lR)) nN)).rng ((r8.ext m9).mod m10 (nC (lE (lL r8.lt lR)) nN)).rng)) rfl rfl (ltb rfl) ?_
    rintro _ w11 ⟨rfl, m11⟩
    refine WL.det (op_move rfl) rfl rfl rfl ?_
    refine WL.det (op_extract rfl rfl) rfl rfl rfl ?_
    refine WL.det (op_extract rfl rfl) rfl rfl rfl ?_
    refine WL.op (op_alloc (cs := [.slice none 0 0, vI 0, .slice none 0 0, vI 0, vI 0, vF 0, vF 0, vF 0, vF 0, vF 0, vF 0, vF 0]) Try.zeroValue36 rfl) rfl rfl (ltb rfl) ?_
    rintro _ w12 ⟨rfl, r12, m12, z6⟩
    refine WL.op0 (op_store (i := 0) (cs := [.slice none 0 0, vI 0, .slice none 0 0, vI 0, vI 0, vF 0, vF 0, vF 0, vF 0, vF 0, vF 0, vF 0]) rfl rfl rfl Try.sizeOf36 rfl r12 rfl (lB rfl) rfl) rfl rfl ?_
    rintro _ w13 ⟨r13, m13, z7⟩
    have r14 : Row w13 w11.heap.size 0 [.slice none 0 0, vI 0, .slice none 0 0, vI 0, vI 0, vF 0, vF 0, vF 0, vF 0, vF 0, vF 0, vF 0] := Row.congr r13 rfl
    refine WL.det (op_assign rfl) rfl rfl rfl ?_
    refine WL.end ?_
    refine NE.code ?_
    refine CE.seq ?_
    refine CE.seq ?_
    refine CE.region ?_
    refine WL.det (op_loadA (i := 0) (cs := [.slice none 0 0, vI 0, .slice none 0 0, vI 0, vI 0, vF 0, vF 0, vF 0, vF 0, vF 0, vF 0, vF 0]) rfl Try.isAgg36 Try.sizeOf36 r14.rng rfl rfl rfl) rfl rfl rfl ?_
    refine WL.det (op_loadA (i := 0) (cs := [.slice none 0 0, vI 0, .slice none 0 0, vI 0, vI 0, vF 0, vF 0, vF 0, vF 0, vF 0, vF 0, vF 0]) rfl Try.isAgg36 Try.sizeOf36 ((((((r6.ext m8).ext m9).mod m10 (nC (lE (lL (lL r4.lt (lT m7.size m8.size)) lR)) nN)).ext m11).ext m12).mod m13 (nC (lE (lL (lL r4.lt (lT (lT (lT (lT m7.size m8.size) m9.size) m10.size) m11.size)) lR)) nN)).rng rfl rfl rfl) rfl rfl rfl ?_
    refine WL.call (oc_call (vs := [.agg #[.slice none 0 0, vI 0, .slice none 0 0, vI 0, vI 0, vF 0, vF 0, vF 0, vF 0, vF 0, vF 0, vF 0], .agg #[.slice none 0 0, vI 0, .slice none 0 0, vI 0, vI 0, vF 0, vF 0, vF 0, vF 0, vF 0, vF 0, vF 0]]) (cap := []) rfl rfl rfl Try.call16 (c_eqBow 0 0 none 0 0 [] (0 : Int) 0 0 none 0 0 [] (0 : Int) (0 : Int) 0 0 0 0 0 0 0 0 0 0 0 0 0 0 0 none 0 0 0 none 0 0 0 0 0 0 0 0 0 rfl (fun h => absurd h (Nat.lt_irrefl _)) rfl (fun h => absurd h (Nat.lt_irrefl _)) (fun h => absurd h (Nat.lt_irrefl _)) (fun h => absurd h (Nat.lt_irrefl _)) rfl rfl rfl rfl rfl rfl rfl rfl rfl rfl rfl rfl rfl rfl (by omega) (by omega) w13 (Rng.nil _ _ _) (Rng.nil _ _ _) (Rng.nil _ _ _) (Rng.nil _ _ _))) rfl rfl (ltb rfl) ?_
    rintro _ w14 ⟨rfl, m14⟩
    refine WL.det (op_not rfl) rfl rfl rfl ?_
    refine WL.det (op_move rfl) rfl rfl rfl ?_
    refine WL.yes rfl rfl rfl (ltb rfl) rfl rfl ?_
    refine WL.det (op_move rfl) rfl rfl rfl ?_
    refine WL.yes rfl rfl rfl (ltb rfl) rfl rfl ?_
    refine WL.det (op_move rfl) rfl rfl rfl ?_
    refine WL.yes rfl rfl rfl (ltb rfl) rfl rfl ?_
    refine WL.det (op_nei rfl rfl) rfl rfl rfl ?_
    refine WL.det (op_pick_f rfl rfl rfl) rfl rfl rfl ?_
    refine WL.end ?_
    refine NE.code ?_
    refine CE.cond_f rfl rfl ?_
    refine CE.skip' ?_
    refine NE.code ?_
    refine CE.seq ?_
    refine CE.seq ?_
    refine CE.draw (fun | 2 => some (fun _ wA uA wB => ∃ (bNr' : Nat) (bBr' : Nat), uA = .agg #[vS bNr' 0 nNr nNr, vI Nj, vS bBr' 0 nBr nBr, vI Bj, vI Dk, vF Dc0, vF Dc1, vF Dc2, vF Ds0, vF Ds1, vF sl, vF lo] ∧ Row wB bNr' 0 (fl xNr) ∧ Row wB bBr' 0 (fl xBr) ∧ wA.heap.size ≤ bNr' ∧ wA.heap.size ≤ bBr' ∧ bNr' ≠ bBr' ∧ Mod [] wA wB) | _ => none) [0, 1, 2] [3, 4] [] (by kernel_rfl) (by kernel_rfl) ?_
    have md1 : Mod [] w14 w14.drew := (Mod.refl _ _).drew
    generalize w14.drew = w15 at md1 ⊢
    refine DR.det (i := 0) rfl rfl (by kernel_rfl) (.free rfl) rfl rfl (fun wD mD => op_loadA (i := 0) (cs := [vS bNr'2 0 nNr nNr, vI Nj, vS bBr'2 0 nBr nBr, vI Bj, vI Dk, vF Dc0, vF Dc1, vF Dc2, vF Ds0, vF Ds1, vF sl, vF lo]) rfl Try.isAgg36 Try.sizeOf36 ((((((r11.ext m11).ext m12).mod m13 (nC (lE (lL (lL r9.lt (lT m10.size m11.size)) lR)) nN)).ext m14).ext md1).ext mD).rng rfl rfl rfl) ?_
    refine DR.det (i := 1) rfl rfl (by kernel_rfl) (.free rfl) rfl rfl (fun wD mD => op_loadA (i := 0) (cs := [.slice ANr nNr cNr, vI Nj, .slice ABr nBr cBr, vI Bj, vI Dk, vF Dc0, vF Dc1, vF Dc2, vF Ds0, vF Ds1, vF sl, vF lo]) rfl Try.isAgg31 Try.sizeOf31 ((((((((((((((r1.ext m3).ext m4).ext m5).ext m6).mod m7 (nC (lE (lL (lL r1.lt (lT (lT m3.size m4.size) m5.size)) lR)) nN)).ext m8).ext m9).mod m10 (nC (lE (lL (lL r1.lt (lT (lT (lT (lT (lT m3.size m4.size) m5.size) m6.size) m7.size) m8.size)) lR)) nN)).ext m11).ext m12).mod m13 (nC (lE (lL (lL r1.lt (lT (lT (lT (lT (lT (lT (lT (lT m3.size m4.size) m5.size) m6.size) m7.size) m8.size) m9.size) m10.size) m11.size)) lR)) nN)).ext m14).ext md1).ext mD).rng rfl rfl rfl) ?_
    refine DR.one (i := 2) rfl rfl (by kernel_rfl) (.free rfl) rfl (ltb rfl) (vs := [.func (.func 14) #[] #[], .agg #[.slice ANr nNr cNr, vI Nj, .slice ABr nBr cBr, vI Bj, vI Dk, vF Dc0, vF Dc1, vF Dc2, vF Ds0, vF Ds1, vF sl, vF lo]]) rfl ?_
    intro w16 m15
    refine ⟨oc_call (vs := [.agg #[.slice ANr nNr cNr, vI Nj, .slice ABr nBr cBr, vI Bj, vI Dk, vF Dc0, vF Dc1, vF Dc2, vF Ds0, vF Ds1, vF sl, vF lo]]) (cap := []) rfl rfl rfl Try.call14 (c_toBow nNr cNr ANr bNr oNr xNr Nj nBr cBr ABr bBr oBr xBr Bj Dk Dc0 Dc1 Dc2 Ds0 Ds1 sl lo lnNr hANr lnBr hABr (by omega) (by omega) w16 ((((Rng.youngS rNr (((Rng.youngS rNr (((Rng.youngS rNr (((((rNr.ext m1).ext m3).ext m4).ext m5).ext m6) m7 (allge_cons (lT (lT (lT (lT m1.size m3.size) m4.size) m5.size) lR) allge_nil)).ext m8).ext m9) m10 (allge_cons (lT (lT (lT (lT (lT (lT (lT m1.size m3.size) m4.size) m5.size) m6.size) m7.size) m8.size) lR) allge_nil)).ext m11).ext m12) m13 (allge_cons (lT (lT (lT (lT (lT (lT (lT (lT (lT (lT m1.size m3.size) m4.size) m5.size) m6.size) m7.size) m8.size) m9.size) m10.size) m11.size) lR) allge_nil)).ext m14).ext md1).ext m15) ((((Rng.youngS rBr (((Rng.youngS rBr (((Rng.youngS rBr (((((rBr.ext m1).ext m3).ext m4).ext m5).ext m6) m7 (allge_cons (lT (lT (lT (lT m1.size m3.size) m4.size) m5.size) lR) allge_nil)).ext m8).ext m9) m10 (allge_cons (lT (lT (lT (lT (lT (lT (lT m1.size m3.size) m4.size) m5.size) m6.size) m7.size) m8.size) lR) allge_nil)).ext m11).ext m12) m13 (allge_cons (lT (lT (lT (lT (lT (lT (lT (lT (lT (lT m1.size m3.size) m4.size) m5.size) m6.size) m7.size) m8.size) m9.size) m10.size) m11.size) lR) allge_nil)).ext m14).ext md1).ext m15)), ?_⟩
    rintro _ w17 ⟨bNr'3, bBr'3, rfl, r15, r16, ge5, ge6, ne3, m16⟩
    refine ⟨(((Mod.refl [] w15).nt m15).nt m16), ?_⟩
    refine DR.done rfl ?_
    intro w18 m17
    refine WO.call rfl (.free rfl) rfl (ltb rfl) (oc_call (vs := [.agg #[vS bNr'2 0 nNr nNr, vI Nj, vS bBr'2 0 nBr nBr, vI Bj, vI Dk, vF Dc0, vF Dc1, vF Dc2, vF Ds0, vF Ds1, vF sl, vF lo], .agg #[vS bNr'3 0 nNr nNr, vI Nj, vS bBr'3 0 nBr nBr, vI Bj, vI Dk, vF Dc0, vF Dc1, vF Dc2, vF Ds0, vF Ds1, vF sl, vF lo]]) (cap := []) rfl rfl rfl Try.call16 (c_eqBow nNr nNr (some ⟨bNr'2, 0, none⟩) bNr'2 0 xNr Nj nBr nBr (some ⟨bBr'2, 0, none⟩) bBr'2 0 xBr Bj Dk Dc0 Dc0 Dc1 Dc1 Dc2 Dc2 Ds0 Ds0 Ds1 Ds1 sl sl lo lo nNr (some ⟨bNr'3, 0, none⟩) bNr'3 0 nBr (some ⟨bBr'3, 0, none⟩) bBr'3 0 Dc0 Dc1 Dc2 Ds0 Ds1 sl lo lnNr (fun _ => rfl) lnBr (fun _ => rfl) (fun _ => rfl) (fun _ => rfl) rfl rfl rfl rfl rfl rfl rfl rfl rfl rfl rfl rfl rfl rfl (by omega) (by omega) w18 ((((((((((r7.ext m9).mod m10 (nC (lE (lL r7.lt lR)) nN)).ext m11).ext m12).mod m13 (nC (lE (lL (lL r7.lt (lT (lT m9.size m10.size) m11.size)) lR)) nN)).ext m14).ext md1).ext m15).ext m16).ext m17).rng ((((((((((r8.ext m9).mod m10 (nC (lE (lL r8.lt lR)) nN)).ext m11).ext m12).mod m13 (nC (lE (lL (lL r8.lt (lT (lT m9.size m10.size) m11.size)) lR)) nN)).ext m14).ext md1).ext m15).ext m16).ext m17).rng (r15.ext m17).rng (r16.ext m17).rng)) ?_
    rintro _ w19 ⟨rfl, m18⟩
    refine WO.det (op_not rfl) rfl (.free rfl) rfl rfl ?_
    refine WO.end ?_
    refine NE.code ?_
    refine CE.cond_f rfl rfl ?_
    refine CE.skip' ?_
    refine NE.code ?_
    refine CE.seq ?_
    refine CE.region ?_
    refine WL.det (op_assign rfl) rfl rfl rfl ?_
    refine WL.end ?_
    refine NE.code ?_
    refine CE.seq ?_
    refine CE.region ?_
    refine WL.det (op_loadA (i := 0) (cs := [vS bNr'2 0 nNr nNr, vI Nj, vS bBr'2 0 nBr nBr, vI Bj, vI Dk, vF Dc0, vF Dc1, vF Dc2, vF Ds0, vF Ds1, vF sl, vF lo]) rfl Try.isAgg36 Try.sizeOf36 (((((((((r11.ext m11).ext m12).mod m13 (nC (lE (lL (lL r9.lt (lT m10.size m11.size)) lR)) nN)).ext m14).ext md1).ext m15).ext m16).ext m17).ext m18).rng rfl rfl rfl) rfl rfl rfl ?_
    refine WL.det (op_move rfl) rfl rfl rfl ?_
    refine WL.call (oc_call (vs := [.agg #[vS bNr'2 0 nNr nNr, vI Nj, vS bBr'2 0 nBr nBr, vI Bj, vI Dk, vF Dc0, vF Dc1, vF Dc2, vF Ds0, vF Ds1, vF sl, vF lo], vI 1]) (cap := []) rfl rfl rfl Try.call17 (c_markBow nNr nNr bNr'2 xNr Nj nBr nBr bBr'2 xBr Bj Dk Dc0 Dc1 Dc2 Ds0 Ds1 sl lo 1 lnNr lnBr (by omega) (by omega) (by omega) w19 (((((((((((r7.ext m9).mod m10 (nC (lE (lL r7.lt lR)) nN)).ext m11).ext m12).mod m13 (nC (lE (lL (lL r7.lt (lT (lT m9.size m10.size) m11.size)) lR)) nN)).ext m14).ext md1).ext m15).ext m16).ext m17).ext m18) (((((((((((r8.ext m9).mod m10 (nC (lE (lL r8.lt lR)) nN)).ext m11).ext m12).mod m13 (nC (lE (lL (lL r8.lt (lT (lT m9.size m10.size) m11.size)) lR)) nN)).ext m14).ext md1).ext m15).ext m16).ext m17).ext m18) ne2)) rfl rfl (ltb rfl) ?_
    rintro _ w20 ⟨rfl, r17, r18, m19⟩
    refine WL.det (op_assign rfl) rfl rfl rfl ?_
    refine WL.end ?_
    refine NE.code ?_
    refine CE.seq ?_
    refine CE.seq ?_
    refine CE.region ?_
    refine WL.det (op_move rfl) rfl rfl rfl ?_
    refine WL.det (op_lti_f rfl rfl (by omega)) rfl rfl rfl ?_
    refine WL.det (op_move rfl) rfl rfl rfl ?_
    refine WL.yes rfl rfl rfl (ltb rfl) rfl rfl ?_
    refine WL.det (op_loadA (i := 0) (cs := [.slice none 0 0, vI 0, .slice none 0 0, vI 0, vI 0, vF 0, vF 0, vF 0, vF 0, vF 0, vF 0, vF 0]) rfl Try.isAgg36 Try.sizeOf36 (((((((r14.ext m14).ext md1).ext m15).ext m16).ext m17).ext m18).mod m19 (nC (lG (lL (lL r7.lt (lT (lT m9.size m10.size) m11.size)) lR)) (nC (lG (lL (lL r8.lt (lT (lT m9.size m10.size) m11.size)) lR)) nN))).rng rfl rfl rfl) rfl rfl rfl ?_
    refine WL.yes rfl rfl rfl (ltb rfl) rfl rfl ?_
    refine WL.det (op_loadA (i := 0) (cs := [.slice none 0 0, vI 0, .slice none 0 0, vI 0, vI 0, vF 0, vF 0, vF 0, vF 0, vF 0, vF 0, vF 0]) rfl Try.isAgg36 Try.sizeOf36 (((((((((((((r6.ext m8).ext m9).mod m10 (nC (lE (lL (lL r4.lt (lT m7.size m8.size)) lR)) nN)).ext m11).ext m12).mod m13 (nC (lE (lL (lL r4.lt (lT (lT (lT (lT m7.size m8.size) m9.size) m10.size) m11.size)) lR)) nN)).ext m14).ext md1).ext m15).ext m16).ext m17).ext m18).mod m19 (nC (lE (lL (lL r4.lt m7.size) ge3)) (nC (lE (lL (lL r4.lt m7.size) ge4)) nN))).rng rfl rfl rfl) rfl rfl rfl ?_
    refine WL.yes rfl rfl rfl (ltb rfl) rfl rfl ?_
    refine WL.call (oc_call (vs := [.agg #[.slice none 0 0, vI 0, .slice none 0 0, vI 0, vI 0, vF 0, vF 0, vF 0, vF 0, vF 0, vF 0, vF 0], .agg #[.slice none 0 0, vI 0, .slice none 0 0, vI 0, vI 0, vF 0, vF 0, vF 0, vF 0, vF 0, vF 0, vF 0]]) (cap := []) rfl rfl rfl Try.call16 (c_eqBow 0 0 none 0 0 [] (0 : Int) 0 0 none 0 0 [] (0 : Int) (0 : Int) 0 0 0 0 0 0 0 0 0 0 0 0 0 0 0 none 0 0 0 none 0 0 0 0 0 0 0 0 0 rfl (fun h => absurd h (Nat.lt_irrefl _)) rfl (fun h => absurd h (Nat.lt_irrefl _)) (fun h => absurd h (Nat.lt_irrefl _)) (fun h => absurd h (Nat.lt_irrefl _)) rfl rfl rfl rfl rfl rfl rfl rfl rfl rfl rfl rfl rfl rfl (by omega) (by omega) w20 (Rng.nil _ _ _) (Rng.nil _ _ _) (Rng.nil _ _ _) (Rng.nil _ _ _))) rfl rfl (ltb rfl) ?_
    rintro _ w21 ⟨rfl, m20⟩
    refine WL.yes rfl rfl rfl (ltb rfl) rfl rfl ?_
    refine WL.det (op_not rfl) rfl rfl rfl ?_
    refine WL.det (op_pick_f rfl rfl rfl) rfl rfl rfl ?_
    refine WL.det (op_move rfl) rfl rfl rfl ?_
    refine WL.yes rfl rfl rfl (ltb rfl) rfl rfl ?_
    refine WL.det (op_move rfl) rfl rfl rfl ?_
    refine WL.yes rfl rfl rfl (ltb rfl) rfl rfl ?_
    refine WL.det (op_move rfl) rfl rfl rfl ?_
    refine WL.yes rfl rfl rfl (ltb rfl) rfl rfl ?_
    refine WL.det (op_nei rfl rfl) rfl rfl rfl ?_
    refine WL.det (op_pick_f rfl rfl rfl) rfl rfl rfl ?_
    refine WL.end ?_
    refine NE.code ?_
    refine CE.cond_f rfl rfl ?_
    refine CE.skip' ?_
    refine NE.code ?_
    refine CE.seq ?_
    refine CE.region ?_
    refine WL.det (op_assign rfl) rfl rfl rfl ?_
    refine WL.end ?_
    refine NE.code ?_
    refine CE.seq ?_
    refine CE.region ?_
    refine WL.det (op_loadA (i := 0) (cs := [.slice none 0 0, vI 0, .slice none 0 0, vI 0, vI 0, vF 0, vF 0, vF 0, vF 0, vF 0, vF 0, vF 0]) rfl Try.isAgg36 Try.sizeOf36 ((((((((r14.ext m14).ext md1).ext m15).ext m16).ext m17).ext m18).mod m19 (nC (lG (lL (lL r7.lt (lT (lT m9.size m10.size) m11.size)) lR)) (nC (lG (lL (lL r8.lt (lT (lT m9.size m10.size) m11.size)) lR)) nN))).ext m20).rng rfl rfl rfl) rfl rfl rfl ?_
    refine WL.det (op_move rfl) rfl rfl rfl ?_
    refine WL.call (oc_call (vs := [.agg #[.slice none 0 0, vI 0, .slice none 0 0, vI 0, vI 0, vF 0, vF 0, vF 0, vF 0, vF 0, vF 0, vF 0], vI 1]) (cap := []) rfl rfl rfl Try.call17 (c_markBow_nil (0 : Int) (0 : Int) (0 : Int) 0 0 0 0 0 0 0 1 (by omega) w21)) rfl rfl (ltb rfl) ?_
    rintro _ w22 ⟨rfl, m21⟩
    refine WL.det (op_assign rfl) rfl rfl rfl ?_
    refine WL.end ?_
    refine NE.code ?_
    refine CE.seq ?_
    refine CE.region ?_
    refine WL.det (op_assign rfl) rfl rfl rfl ?_
    refine WL.end ?_
    refine NE.code ?_
    refine CE.seq ?_
    refine CE.region ?_
    refine WL.det (op_loadA (i := 0) (cs := [.slice none 0 0, vI 0, .slice none 0 0, vI 0, vI 0, vF 0, vF 0, vF 0, vF 0, vF 0, vF 0, vF 0]) rfl Try.isAgg36 Try.sizeOf36 (((((((((r14.ext m14).ext md1).ext m15).ext m16).ext m17).ext m18).mod m19 (nC (lG (lL (lL r7.lt (lT (lT m9.size m10.size) m11.size)) lR)) (nC (lG (lL (lL r8.lt (lT (lT m9.size m10.size) m11.size)) lR)) nN))).ext m20).ext m21).rng rfl rfl rfl) rfl rfl rfl ?_
    refine WL.det (op_move rfl) rfl rfl rfl ?_
    refine WL.call (oc_call (vs := [.agg #[.slice none 0 0, vI 0, .slice none 0 0, vI 0, vI 0, vF 0, vF 0, vF 0, vF 0, vF 0, vF 0, vF 0], vI 1]) (cap := []) rfl rfl rfl Try.call18 (c_heldBow_nil (0 : Int) (0 : Int) (0 : Int) 0 0 0 0 0 0 0 1 (by omega) w22)) rfl rfl (ltb rfl) ?_
    rintro _ w23 ⟨rfl, m22⟩
    refine WL.det (op_assign rfl) rfl rfl rfl ?_
    refine WL.end ?_
    refine NE.code ?_
    refine CE.seq ?_
    refine CE.seq ?_
    refine CE.region ?_
    refine WL.det (op_move rfl) rfl rfl rfl ?_
    refine WL.det (op_lti rfl rfl) rfl rfl rfl ?_
    refine WL.end ?_
    refine NE.code ?_
    refine CE.cond_f rfl rfl ?_
    refine CE.skip' ?_
    refine NE.code ?_
    refine CE.seq ?_
    refine CE.seq ?_
    refine CE.region ?_
    refine WL.det (op_move rfl) rfl rfl rfl ?_
    refine WL.det (op_move rfl) rfl rfl rfl ?_
    refine WL.det (op_nei rfl rfl) rfl rfl rfl ?_
    refine WL.end ?_
    refine NE.code ?_
    refine CE.cond_f rfl rfl ?_
    refine CE.skip' ?_
    refine NE.code ?_
    refine CE.seq ?_
    refine CE.region ?_
    refine WL.det (op_loadA (i := 0) (cs := [.slice ANr nNr cNr, vI Nj, .slice ABr nBr cBr, vI Bj, vI Dk, vF Dc0, vF Dc1, vF Dc2, vF Ds0, vF Ds1, vF sl, vF lo]) rfl Try.isAgg31 Try.sizeOf31 (((((((((((((((((((((r1.ext m3).ext m4).ext m5).ext m6).mod m7 (nC (lE (lL (lL r1.lt (lT (lT m3.size m4.size) m5.size)) lR)) nN)).ext m8).ext m9).mod m10 (nC (lE (lL (lL r1.lt (lT (lT (lT (lT (lT m3.size m4.size) m5.size) m6.size) m7.size) m8.size)) lR)) nN)).ext m11).ext m12).mod m13 (nC (lE (lL (lL r1.lt (lT (lT (lT (lT (lT (lT (lT (lT m3.size m4.size) m5.size) m6.size) m7.size) m8.size) m9.size) m10.size) m11.size)) lR)) nN)).ext m14).ext md1).ext m15).ext m16).ext m17).ext m18).mod m19 (nC (lE (lL (lL r1.lt (lT (lT (lT (lT m3.size m4.size) m5.size) m6.size) m7.size)) ge3)) (nC (lE (lL (lL r1.lt (lT (lT (lT (lT m3.size m4.size) m5.size) m6.size) m7.size)) ge4)) nN))).ext m20).ext m21).ext m22).rng rfl rfl rfl) rfl rfl rfl ?_
    refine WL.call (oc_call (vs := [.agg #[.slice ANr nNr cNr, vI Nj, .slice ABr nBr cBr, vI Bj, vI Dk, vF Dc0, vF Dc1, vF Dc2, vF Ds0, vF Ds1, vF sl, vF lo]]) (cap := []) rfl rfl rfl Try.call14 (c_toBow nNr cNr ANr bNr oNr xNr Nj nBr cBr ABr bBr oBr xBr Bj Dk Dc0 Dc1 Dc2 Ds0 Ds1 sl lo lnNr hANr lnBr hABr (by omega) (by omega) w23 ((((Rng.youngS rNr (((((((Rng.youngS rNr (((Rng.youngS rNr (((Rng.youngS rNr (((((rNr.ext m1).ext m3).ext m4).ext m5).ext m6) m7 (allge_cons (lT (lT (lT (lT m1.size m3.size) m4.size) m5.size) lR) allge_nil)).ext m8).ext m9) m10 (allge_cons (lT (lT (lT (lT (lT (lT (lT m1.size m3.size) m4.size) m5.size) m6.size) m7.size) m8.size) lR) allge_nil)).ext m11).ext m12) m13 (allge_cons (lT (lT (lT (lT (lT (lT (lT (lT (lT (lT m1.size m3.size) m4.size) m5.size) m6.size) m7.size) m8.size) m9.size) m10.size) m11.size) lR) allge_nil)).ext m14).ext md1).ext m15).ext m16).ext m17).ext m18) m19 (allge_cons (lT (lT (lT (lT (lT (lT m1.size m3.size) m4.size) m5.size) m6.size) m7.size) ge3) (allge_cons (lT (lT (lT (lT (lT (lT m1.size m3.size) m4.size) m5.size) m6.size) m7.size) ge4) allge_nil))).ext m20).ext m21).ext m22) ((((Rng.youngS rBr (((((((Rng.youngS rBr (((Rng.youngS rBr (((Rng.youngS rBr (((((rBr.ext m1).ext m3).ext m4).ext m5).ext m6) m7 (allge_cons (lT (lT (lT (lT m1.size m3.size) m4.size) m5.size) lR) allge_nil)).ext m8).ext m9) m10 (allge_cons (lT (lT (lT (lT (lT (lT (lT m1.size m3.size) m4.size) m5.size) m6.size) m7.size) m8.size) lR) allge_nil)).ext m11).ext m12) m13 (allge_cons (lT (lT (lT (lT (lT (lT (lT (lT (lT (lT m1.size m3.size) m4.size) m5.size) m6.size) m7.size) m8.size) m9.size) m10.size) m11.size) lR) allge_nil)).ext m14).ext md1).ext m15).ext m16).ext m17).ext m18) m19 (allge_cons (lT (lT (lT (lT (lT (lT m1.size m3.size) m4.size) m5.size) m6.size) m7.size) ge3) (allge_cons (lT (lT (lT (lT (lT (lT m1.size m3.size) m4.size) m5.size) m6.size) m7.size) ge4) allge_nil))).ext m20).ext m21).ext m22))) rfl rfl (ltb rfl) ?_
    rintro _ w24 ⟨bNr'4, bBr'4, rfl, r19, r20, ge7, ge8, ne4, m23⟩
    refine WL.det (op_move rfl) rfl rfl rfl ?_
    refine WL.call (oc_call (vs := [.agg #[vS bNr'4 0 nNr nNr, vI Nj, vS bBr'4 0 nBr nBr, vI Bj, vI Dk, vF Dc0, vF Dc1, vF Dc2, vF Ds0, vF Ds1, vF sl, vF lo], vF a]) (cap := []) rfl rfl rfl Try.call15 (c_iPull_bad nNr nNr bNr'4 xNr nBr nBr bBr'4 xBr Nj Bj Dk Dc0 Dc1 Dc2 Ds0 Ds1 sl lo a lnNr lnBr (by omega) (by omega) (by first | assumption | exact W32.get (by assumption) _ | decide +kernel) (by first | assumption | exact W32.get (by assumption) _ | decide +kernel) la (by assumption) w24 r19.rng r20.rng)) rfl rfl (ltb rfl) ?_
    rintro _ w25 ⟨rfl, m24⟩
    refine WL.det (op_move rfl) rfl rfl rfl ?_
    refine WL.det (op_extract rfl rfl) rfl rfl rfl ?_
    refine WL.det (op_extract rfl rfl) rfl rfl rfl ?_
    refine WL.op (op_alloc (cs := [.slice none 0 0, vI 0, .slice none 0 0, vI 0, vI 0, vF 0, vF 0, vF 0, vF 0, vF 0, vF 0, vF 0]) Try.zeroValue36 rfl) rfl rfl (ltb rfl) ?_
    rintro _ w26 ⟨rfl, r21, m25, z8⟩
    refine WL.op0 (op_store (i := 0) (cs := [.slice none 0 0, vI 0, .slice none 0 0, vI 0, vI 0, vF 0, vF 0, vF 0, vF 0, vF 0, vF 0, vF 0]) rfl rfl rfl Try.sizeOf36 rfl r21 rfl (lB rfl) rfl) rfl rfl ?_
    rintro _ w27 ⟨r22, m26, z9⟩
    have r23 : Row w27 w25.heap.size 0 [.slice none 0 0, vI 0, .slice none 0 0, vI 0, vI 0, vF 0, vF 0, vF 0, vF 0, vF 0, vF 0, vF 0] := Row.congr r22 rfl
    refine WL.det (op_assign rfl) rfl rfl rfl ?_
    refine WL.end ?_
    refine NE.code ?_
    refine CE.seq ?_
    refine CE.seq ?_
    refine CE.region ?_
    refine WL.det (op_loadA (i := 0) (cs := [.slice none 0 0, vI 0, .slice none 0 0, vI 0, vI 0, vF 0, vF 0, vF 0, vF 0, vF 0, vF 0, vF 0]) rfl Try.isAgg36 Try.sizeOf36 r23.rng rfl rfl rfl) rfl rfl rfl ?_
    refine WL.det (op_loadA (i := 0) (cs := [.slice none 0 0, vI 0, .slice none 0 0, vI 0, vI 0, vF 0, vF 0, vF 0, vF 0, vF 0, vF 0, vF 0]) rfl Try.isAgg36 Try.sizeOf36 ((((((((((((((((((((r6.ext m8).ext m9).mod m10 (nC (lE (lL (lL r4.lt (lT m7.size m8.size)) lR)) nN)).ext m11).ext m12).mod m13 (nC (lE (lL (lL r4.lt (lT (lT (lT (lT m7.size m8.size) m9.size) m10.size) m11.size)) lR)) nN)).ext m14).ext md1).ext m15).ext m16).ext m17).ext m18).mod m19 (nC (lE (lL (lL r4.lt m7.size) ge3)) (nC (lE (lL (lL r4.lt m7.size) ge4)) nN))).ext m20).ext m21).ext m22).ext m23).ext m24).ext m25).mod m26 (nC (lE (lL (lL r4.lt (lT (lT (lT (lT (lT (lT (lT (lT (lT (lT (lT (lT (lT (lT (lT (lT (lT (lT m7.size m8.size) m9.size) m10.size) m11.size) m12.size) m13.size) m14.size) md1.size) m15.size) m16.size) m17.size) m18.size) m19.size) m20.size) m21.size) m22.size) m23.size) m24.size)) lR)) nN)).rng rfl rfl rfl) rfl rfl rfl ?_
    refine WL.call (oc_call (vs := [.agg #[.slice none 0 0, vI 0, .slice none 0 0, vI 0, vI 0, vF 0, vF 0, vF 0, vF 0, vF 0, vF 0, vF 0], .agg #[.slice none 0 0, vI 0, .slice none 0 0, vI 0, vI 0, vF 0, vF 0, vF 0, vF 0, vF 0, vF 0, vF 0]]) (cap := []) rfl rfl rfl Try.call16 (c_eqBow 0 0 none 0 0 [] (0 : Int) 0 0 none 0 0 [] (0 : Int) (0 : Int) 0 0 0 0 0 0 0 0 0 0 0 0 0 0 0 none 0 0 0 none 0 0 0 0 0 0 0 0 0 rfl (fun h => absurd h (Nat.lt_irrefl _)) rfl (fun h => absurd h (Nat.lt_irrefl _)) (fun h => absurd h (Nat.lt_irrefl _)) (fun h => absurd h (Nat.lt_irrefl _)) rfl rfl rfl rfl rfl rfl rfl rfl rfl rfl rfl rfl rfl rfl (by omega) (by omega) w27 (Rng.nil _ _ _) (Rng.nil _ _ _) (Rng.nil _ _ _) (Rng.nil _ _ _))) rfl rfl (ltb rfl) ?_
    rintro _ w28 ⟨rfl, m27⟩
    refine WL.det (op_not rfl) rfl rfl rfl ?_
    refine WL.det (op_move rfl) rfl rfl rfl ?_
    refine WL.yes rfl rfl rfl (ltb rfl) rfl rfl ?_
    refine WL.det (op_move rfl) rfl rfl rfl ?_
    refine WL.yes rfl rfl rfl (ltb rfl) rfl rfl ?_
    refine WL.det (op_move rfl) rfl rfl rfl ?_
    refine WL.yes rfl rfl rfl (ltb rfl) rfl rfl ?_
    refine WL.det (op_nei rfl rfl) rfl rfl rfl ?_
    refine WL.det (op_pick_f rfl rfl rfl) rfl rfl rfl ?_
    refine WL.end ?_
    refine NE.code ?_
    refine CE.cond_f rfl rfl ?_
    refine CE.skip' ?_
    refine NE.code ?_
    refine CE.seq ?_
    refine CE.region ?_
    refine WL.det (op_assign rfl) rfl rfl rfl ?_
    refine WL.end ?_
    refine NE.code ?_
    refine CE.seq ?_
    refine CE.region ?_
    refine WL.det (op_loadA (i := 0) (cs := [.slice none 0 0, vI 0, .slice none 0 0, vI 0, vI 0, vF 0, vF 0, vF 0, vF 0, vF 0, vF 0, vF 0]) rfl Try.isAgg36 Try.sizeOf36 (((((((((((((((r14.ext m14).ext md1).ext m15).ext m16).ext m17).ext m18).mod m19 (nC (lG (lL (lL r7.lt (lT (lT m9.size m10.size) m11.size)) lR)) (nC (lG (lL (lL r8.lt (lT (lT m9.size m10.size) m11.size)) lR)) nN))).ext m20).ext m21).ext m22).ext m23).ext m24).ext m25).mod m26 (nC (lE (lL (lL r12.lt (lT (lT (lT (lT (lT (lT (lT (lT (lT (lT (lT (lT m13.size m14.size) md1.size) m15.size) m16.size) m17.size) m18.size) m19.size) m20.size) m21.size) m22.size) m23.size) m24.size)) lR)) nN)).ext m27).rng rfl rfl rfl) rfl rfl rfl ?_
    refine WL.det (op_move rfl) rfl rfl rfl ?_
    refine WL.call (oc_call (vs := [.agg #[.slice none 0 0, vI 0, .slice none 0 0, vI 0, vI 0, vF 0, vF 0, vF 0, vF 0, vF 0, vF 0, vF 0], vI 1]) (cap := []) rfl rfl rfl Try.call18 (c_heldBow_nil (0 : Int) (0 : Int) (0 : Int) 0 0 0 0 0 0 0 1 (by omega) w28)) rfl rfl (ltb rfl) ?_
    rintro _ w29 ⟨rfl, m28⟩
    refine WL.det (op_assign rfl) rfl rfl rfl ?_
    refine WL.end ?_
    refine NE.code ?_
    refine CE.seq ?_
    refine CE.seq ?_
    refine CE.region ?_
    refine WL.det (op_move rfl) rfl rfl rfl ?_
    refine WL.det (op_lti rfl rfl) rfl rfl rfl ?_
    refine WL.end ?_
    refine NE.code ?_
    refine CE.cond_f rfl rfl ?_
    refine CE.skip' ?_
    refine NE.code ?_
    refine CE.seq ?_
    refine CE.seq ?_
    refine CE.region ?_
    refine WL.det (op_move rfl) rfl rfl rfl ?_
    refine WL.det (op_move rfl) rfl rfl rfl ?_
    refine WL.det (op_nei rfl rfl) rfl rfl rfl ?_
    refine WL.end ?_
    refine NE.code ?_
    refine CE.cond_f rfl rfl ?_
    refine CE.skip' ?_
    refine NE.code ?_
    refine CE.seq ?_
    refine CE.region ?_
    refine WL.det (op_assign rfl) rfl rfl rfl ?_
    refine WL.end ?_
    refine NE.code ?_
    refine CE.ret' ?_
    refine XE.leave1 Try.results3 rfl ?_
    refine ⟨rfl, (((((((((((((((((((((((((((((Mod.refl [] w).nt m1).nt m3).nt m4).nt m5).nt m6).then m7 ((aC (.inr (lT (lT (lT (lT m1.size m3.size) m4.size) m5.size) lR)) aN))).nt m8).nt m9).then m10 ((aC (.inr (lT (lT (lT (lT (lT (lT (lT m1.size m3.size) m4.size) m5.size) m6.size) m7.size) m8.size) lR)) aN))).nt m11).nt m12).then m13 ((aC (.inr (lT (lT (lT (lT (lT (lT (lT (lT (lT (lT m1.size m3.size) m4.size) m5.size) m6.size) m7.size) m8.size) m9.size) m10.size) m11.size) lR)) aN))).nt m14).nt md1).nt m15).nt m16).nt m17).nt m18).then m19 ((aC (.inr (lT (lT (lT (lT (lT (lT m1.size m3.size) m4.size) m5.size) m6.size) m7.size) ge3)) (aC (.inr (lT (lT (lT (lT (lT (lT m1.size m3.size) m4.size) m5.size) m6.size) m7.size) ge4)) aN)))).nt m20).nt m21).nt m22).nt m23).nt m24).nt m25).then m26 ((aC (.inr (lT (lT (lT (lT (lT (lT (lT (lT (lT (lT (lT (lT (lT (lT (lT (lT (lT (lT (lT (lT (lT (lT (lT (lT m1.size m3.size) m4.size) m5.size) m6.size) m7.size) m8.size) m9.size) m10.size) m11.size) m12.size) m13.size) m14.size) md1.size) m15.size) m16.size) m17.size) m18.size) m19.size) m20.size) m21.size) m22.size) m23.size) m24.size) lR)) aN))).nt m27).nt m28)⟩

end Go.Proofs.Ytkgdhlhmckdcmaa
