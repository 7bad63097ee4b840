/- The law on where a bow sticks, walked. -/
import Derived.Test.YtkgdhlhmckdcmaaH1
import Derived.Test.YtkgdhlhmckdcmaaE8
set_option linter.unusedVariables false
set_option linter.unusedSimpArgs false
namespace Go.Proofs.Ytkgdhlhmckdcmaa

set_option maxRecDepth 100000 in
set_option maxHeartbeats 2000000 in
theorem law_sticks (nNr : Nat) (cNr : Nat) (ANr : Option Addr) (bNr : Nat) (oNr : Nat) (xNr : List Nat) (nBr : Nat) (cBr : Nat) (ABr : Option Addr) (bBr : Nat) (oBr : Nat) (xBr : List Nat) (Dk : Int) (Dc0 : Nat) (Dc1 : Nat) (Dc2 : Nat) (Ds0 : Nat) (Ds1 : Nat) (sl : Nat) (lo : Nat) (i : Nat) (h : Nat) (a : Nat) (lnNr : xNr.length = nNr) (hANr : 0 < nNr → ANr = some ⟨bNr, oNr, none⟩) (lnBr : xBr.length = nBr) (hABr : 0 < nBr → ABr = some ⟨bBr, oBr, none⟩) (wNr : W32 xNr) (wBr : W32 xBr) (hi : i < nNr) (hh : h < nBr) (hn : nNr ≤ 1024) (hm : nBr ≤ 1024) (lDs0 : Ds0 < wid .f32) (lDs1 : Ds1 < wid .f32) (hv : vBow nNr ((i : Nat) : Int) nBr ((h : Nat) : Int) xNr xBr Dk Dc0 Dc1 Dc2 Ds0 Ds1 sl lo = true) (la : a < wid .f32) (w : World) (rNr : Rng w bNr oNr (fl xNr)) (rBr : Rng w bBr oBr (fl xBr)) : Cl Try.prog 4 #[.agg #[.slice ANr nNr cNr, .int .i64 ((i : Nat) : Int), .slice ABr nBr cBr, .int .i64 ((h : Nat) : Int), .int .i64 Dk, .float .f32 Dc0, .float .f32 Dc1, .float .f32 Dc2, .float .f32 Ds0, .float .f32 Ds1, .float .f32 sl, .float .f32 lo], .float .f32 a] w fun v w' => v = .bool true ∧ Mod [] w w' := by
  refine Cl.of Try.func4 Try.ntmps4 rfl rfl (ρ := [(0, .agg #[.slice ANr nNr cNr, .int .i64 ((i : Nat) : Int), .slice ABr nBr cBr, .int .i64 ((h : Nat) : Int), .int .i64 Dk, .float .f32 Dc0, .float .f32 Dc1, .float .f32 Dc2, .float .f32 Ds0, .float .f32 Ds1, .float .f32 sl, .float .f32 lo]), (1, .float .f32 a)]) rfl ?_
  refine CE.seq ?_
  refine CE.region ?_
  refine WL.op (op_box (cs := [.slice ANr nNr cNr, .int .i64 ((i : Nat) : Int), .slice ABr nBr cBr, .int .i64 ((h : Nat) : Int), .int .i64 Dk, .float .f32 Dc0, .float .f32 Dc1, .float .f32 Dc2, .float .f32 Ds0, .float .f32 Ds1, .float .f32 sl, .float .f32 lo]) rfl rfl) rfl rfl (ltb rfl) ?_
  rintro _ w1 ⟨rfl, r1, m1, z1⟩
  refine WL.det (op_assign rfl) rfl rfl rfl ?_
  refine WL.end ?_
  refine NE.code ?_
  refine CE.seq ?_
  refine CE.region ?_
  refine WL.det (op_assign rfl) rfl rfl rfl ?_
  refine WL.end ?_
  refine NE.code ?_
  refine CE.seq ?_
  refine CE.region ?_
  refine WL.det (op_loadA (i := 0) (cs := [.slice ANr nNr cNr, .int .i64 ((i : Nat) : Int), .slice ABr nBr cBr, .int .i64 ((h : Nat) : Int), .int .i64 Dk, .float .f32 Dc0, .float .f32 Dc1, .float .f32 Dc2, .float .f32 Ds0, .float .f32 Ds1, .float .f32 sl, .float .f32 lo]) rfl Try.isAgg31 Try.sizeOf31 r1.rng rfl rfl rfl) rfl rfl rfl ?_
  refine WL.det (op_move rfl) rfl rfl rfl ?_
  refine WL.call (oc_call (vs := [.agg #[.slice ANr nNr cNr, .int .i64 ((i : Nat) : Int), .slice ABr nBr cBr, .int .i64 ((h : Nat) : Int), .int .i64 Dk, .float .f32 Dc0, .float .f32 Dc1, .float .f32 Dc2, .float .f32 Ds0, .float .f32 Ds1, .float .f32 sl, .float .f32 lo], .int .i64 1048576]) (cap := []) rfl rfl rfl Try.call12 (c_szBow 1048576 nNr cNr ANr ((i : Nat) : Int) nBr cBr ABr ((h : Nat) : Int) Dk Dc0 Dc1 Dc2 Ds0 Ds1 sl lo (by omega) (by omega) w1)) rfl rfl (ltb rfl) ?_
  rintro _ w2 ⟨rfl, m2⟩
  refine WL.det (op_assign rfl) rfl rfl rfl ?_
  refine WL.end ?_
  refine NE.code ?_
  refine CE.seq ?_
  refine CE.seq ?_
  refine CE.region ?_
  refine WL.det (op_move rfl) rfl rfl rfl ?_
  refine WL.det (op_lti_f rfl rfl (by omega)) rfl rfl rfl ?_
  refine WL.end ?_
  refine NE.code ?_
  refine CE.cond_f rfl rfl ?_
  refine CE.skip' ?_
  refine NE.code ?_
  refine CE.seq ?_
  refine CE.region ?_
  refine WL.det (op_loadA (i := 0) (cs := [.slice ANr nNr cNr, .int .i64 ((i : Nat) : Int), .slice ABr nBr cBr, .int .i64 ((h : Nat) : Int), .int .i64 Dk, .float .f32 Dc0, .float .f32 Dc1, .float .f32 Dc2, .float .f32 Ds0, .float .f32 Ds1, .float .f32 sl, .float .f32 lo]) rfl Try.isAgg31 Try.sizeOf31 (r1.ext m2).rng rfl rfl rfl) rfl rfl rfl ?_
  refine WL.call (oc_call (vs := [.agg #[.slice ANr nNr cNr, .int .i64 ((i : Nat) : Int), .slice ABr nBr cBr, .int .i64 ((h : Nat) : Int), .int .i64 Dk, .float .f32 Dc0, .float .f32 Dc1, .float .f32 Dc2, .float .f32 Ds0, .float .f32 Ds1, .float .f32 sl, .float .f32 lo]]) (cap := []) rfl rfl rfl Try.call14 (c_toBow nNr cNr ANr bNr oNr xNr ((i : Nat) : Int) nBr cBr ABr bBr oBr xBr ((h : Nat) : Int) Dk Dc0 Dc1 Dc2 Ds0 Ds1 sl lo lnNr hANr lnBr hABr (by omega) (by omega) w2 ((rNr.ext m1).ext m2) ((rBr.ext m1).ext m2))) rfl rfl (ltb rfl) ?_
  rintro _ w3 ⟨bNr'1, bBr'1, rfl, r2, r3, ge1, ge2, ne1, m3⟩
  refine WL.det (op_move rfl) rfl rfl rfl ?_
  refine WL.call (oc_call (vs := [.agg #[.slice (some ⟨bNr'1, 0, none⟩) nNr nNr, .int .i64 ((i : Nat) : Int), .slice (some ⟨bBr'1, 0, none⟩) nBr nBr, .int .i64 ((h : Nat) : Int), .int .i64 Dk, .float .f32 Dc0, .float .f32 Dc1, .float .f32 Dc2, .float .f32 Ds0, .float .f32 Ds1, .float .f32 sl, .float .f32 lo], .float .f32 a]) (cap := []) rfl rfl rfl Try.call19 (c_sSticks nNr nNr bNr'1 xNr nBr nBr bBr'1 xBr i h Dk Dc0 Dc1 Dc2 Ds0 Ds1 sl lo a lnNr lnBr (by omega) (by omega) (by omega) (by omega) (by first | assumption | exact W32.get (by assumption) _ | decide +kernel) (by first | assumption | exact W32.get (by assumption) _ | decide +kernel) (by first | assumption | exact W32.set (by assumption) (by first | assumption | exact wid_lt (by assumption)) | exact W32.zeros _ | exact W32.nil) (by first | assumption | exact W32.set (by assumption) (by first | assumption | exact wid_lt (by assumption)) | exact W32.zeros _ | exact W32.nil) la (by assumption) w3 r2.rng r3.rng)) rfl rfl (ltb rfl) ?_
  rintro _ w4 ⟨rfl, m4⟩
  refine WL.det (op_move rfl) rfl rfl rfl ?_
  refine WL.det (op_extract rfl rfl) rfl rfl rfl ?_
  refine WL.det (op_extract rfl rfl) rfl rfl rfl ?_
  refine WL.det (op_assign rfl) rfl rfl rfl ?_
  refine WL.det (op_assign rfl) rfl rfl rfl ?_
  refine WL.end ?_
  refine NE.code ?_
  refine CE.seq ?_
  refine CE.region ?_
  refine WL.det (op_loadA (i := 0) (cs := [.slice ANr nNr cNr, .int .i64 ((i : Nat) : Int), .slice ABr nBr cBr, .int .i64 ((h : Nat) : Int), .int .i64 Dk, .float .f32 Dc0, .float .f32 Dc1, .float .f32 Dc2, .float .f32 Ds0, .float .f32 Ds1, .float .f32 sl, .float .f32 lo]) rfl Try.isAgg31 Try.sizeOf31 (((r1.ext m2).ext m3).ext m4).rng rfl rfl rfl) rfl rfl rfl ?_
  refine WL.call (oc_call (vs := [.agg #[.slice ANr nNr cNr, .int .i64 ((i : Nat) : Int), .slice ABr nBr cBr, .int .i64 ((h : Nat) : Int), .int .i64 Dk, .float .f32 Dc0, .float .f32 Dc1, .float .f32 Dc2, .float .f32 Ds0, .float .f32 Ds1, .float .f32 sl, .float .f32 lo]]) (cap := []) rfl rfl rfl Try.call14 (c_toBow nNr cNr ANr bNr oNr xNr ((i : Nat) : Int) nBr cBr ABr bBr oBr xBr ((h : Nat) : Int) Dk Dc0 Dc1 Dc2 Ds0 Ds1 sl lo lnNr hANr lnBr hABr (by omega) (by omega) w4 ((((rNr.ext m1).ext m2).ext m3).ext m4) ((((rBr.ext m1).ext m2).ext m3).ext m4))) rfl rfl (ltb rfl) ?_
  rintro _ w5 ⟨bNr'2, bBr'2, rfl, r4, r5, ge3, ge4, ne2, m5⟩
  refine WL.op (op_alloc (cs := [.slice none 0 0, .int .i64 0, .slice none 0 0, .int .i64 0, .int .i64 0, .float .f32 0, .float .f32 0, .float .f32 0, .float .f32 0, .float .f32 0, .float .f32 0, .float .f32 0]) Try.zeroValue36 rfl) rfl rfl (ltb rfl) ?_
  rintro _ w6 ⟨rfl, r6, m6, z2⟩
  refine WL.op0 (op_store (i := 0) (cs := [.slice (some ⟨bNr'2, 0, none⟩) nNr nNr, .int .i64 ((i : Nat) : Int), .slice (some ⟨bBr'2, 0, none⟩) nBr nBr, .int .i64 ((h : Nat) : Int), .int .i64 Dk, .float .f32 Dc0, .float .f32 Dc1, .float .f32 Dc2, .float .f32 Ds0, .float .f32 Ds1, .float .f32 sl, .float .f32 lo]) rfl rfl rfl Try.sizeOf36 rfl r6 rfl (Nat.le_of_ble_eq_true rfl) rfl) rfl rfl ?_
  rintro _ w7 ⟨r7, m7, z3⟩
  have r8 : Row w7 w5.heap.size 0 [.slice (some ⟨bNr'2, 0, none⟩) nNr nNr, .int .i64 ((i : Nat) : Int), .slice (some ⟨bBr'2, 0, none⟩) nBr nBr, .int .i64 ((h : Nat) : Int), .int .i64 Dk, .float .f32 Dc0, .float .f32 Dc1, .float .f32 Dc2, .float .f32 Ds0, .float .f32 Ds1, .float .f32 sl, .float .f32 lo] := Row.congr r7 rfl
  refine WL.end ?_
  refine NE.code ?_
  refine CE.seq ?_
  refine CE.region ?_
  refine WL.det (op_loadA (i := 0) (cs := [.slice (some ⟨bNr'2, 0, none⟩) nNr nNr, .int .i64 ((i : Nat) : Int), .slice (some ⟨bBr'2, 0, none⟩) nBr nBr, .int .i64 ((h : Nat) : Int), .int .i64 Dk, .float .f32 Dc0, .float .f32 Dc1, .float .f32 Dc2, .float .f32 Ds0, .float .f32 Ds1, .float .f32 sl, .float .f32 lo]) rfl Try.isAgg36 Try.sizeOf36 r8.rng rfl rfl rfl) rfl rfl rfl ?_
  refine WL.det (op_move rfl) rfl rfl rfl ?_
  refine WL.call (oc_call (vs := [.agg #[.slice (some ⟨bNr'2, 0, none⟩) nNr nNr, .int .i64 ((i : Nat) : Int), .slice (some ⟨bBr'2, 0, none⟩) nBr nBr, .int .i64 ((h : Nat) : Int), .int .i64 Dk, .float .f32 Dc0, .float .f32 Dc1, .float .f32 Dc2, .float .f32 Ds0, .float .f32 Ds1, .float .f32 sl, .float .f32 lo], .float .f32 a]) (cap := []) rfl rfl rfl Try.call20 (c_iSticks nNr nNr bNr'2 xNr nBr nBr bBr'2 xBr i h Dk Dc0 Dc1 Dc2 Ds0 Ds1 sl lo a lnNr lnBr (by omega) (by omega) (by omega) (by omega) (by first | assumption | exact W32.get (by assumption) _ | decide +kernel) (by first | assumption | exact W32.get (by assumption) _ | decide +kernel) (by first | assumption | exact W32.set (by assumption) (by first | assumption | exact wid_lt (by assumption)) | exact W32.zeros _ | exact W32.nil) (by first | assumption | exact W32.set (by assumption) (by first | assumption | exact wid_lt (by assumption)) | exact W32.zeros _ | exact W32.nil) la (by assumption) w7 ((r4.ext m6).mod m7 (notin_cons (Nat.ne_of_lt (Nat.lt_of_lt_of_le r4.lt (Nat.le_refl _))) notin_nil)).rng ((r5.ext m6).mod m7 (notin_cons (Nat.ne_of_lt (Nat.lt_of_lt_of_le r5.lt (Nat.le_refl _))) notin_nil)).rng)) rfl rfl (ltb rfl) ?_
  rintro _ w8 ⟨rfl, m8⟩
  refine WL.det (op_move rfl) rfl rfl rfl ?_
  refine WL.det (op_extract rfl rfl) rfl rfl rfl ?_
  refine WL.det (op_extract rfl rfl) rfl rfl rfl ?_
  refine WL.det (op_assign rfl) rfl rfl rfl ?_
  refine WL.det (op_assign rfl) rfl rfl rfl ?_
  refine WL.end ?_
  refine NE.code ?_
  refine CE.seq ?_
  refine CE.seq ?_
  refine CE.region ?_
  refine WL.det (op_move rfl) rfl rfl rfl ?_
  refine WL.det (op_move rfl) rfl rfl rfl ?_
  refine WL.det (op_neb_same rfl rfl Try.underlying4) rfl rfl rfl ?_
  refine WL.det (op_move rfl) rfl rfl rfl ?_
  refine WL.yes rfl rfl rfl (ltb rfl) rfl rfl ?_
  refine WL.det (op_move rfl) rfl rfl rfl ?_
  refine WL.yes rfl rfl rfl (ltb rfl) rfl rfl ?_
  refine WL.det (op_move rfl) rfl rfl rfl ?_
  refine WL.yes rfl rfl rfl (ltb rfl) rfl rfl ?_
  refine WL.det (op_nei rfl rfl) rfl rfl rfl ?_
  refine WL.det (op_pick_f rfl rfl rfl) rfl rfl rfl ?_
  refine WL.end ?_
  refine NE.code ?_
  refine CE.cond_f rfl rfl ?_
  refine CE.skip' ?_
  refine NE.code ?_
  refine CE.seq ?_
  refine CE.seq ?_
  refine CE.draw (fun | 2 => some (fun _ wA uA wB => ∃ (bNr' : Nat) (bBr' : Nat), uA = .agg #[.slice (some ⟨bNr', 0, none⟩) nNr nNr, .int .i64 ((i : Nat) : Int), .slice (some ⟨bBr', 0, none⟩) nBr nBr, .int .i64 ((h : Nat) : Int), .int .i64 Dk, .float .f32 Dc0, .float .f32 Dc1, .float .f32 Dc2, .float .f32 Ds0, .float .f32 Ds1, .float .f32 sl, .float .f32 lo] ∧ Row wB bNr' 0 (fl xNr) ∧ Row wB bBr' 0 (fl xBr) ∧ wA.heap.size ≤ bNr' ∧ wA.heap.size ≤ bBr' ∧ bNr' ≠ bBr' ∧ Mod [] wA wB) | _ => none) [0, 1, 2] [3, 4] [] (by kernel_rfl) (by kernel_rfl) ?_
  have md1 : Mod [] w8 w8.drew := (Mod.refl _ _).drew
  generalize w8.drew = w9 at md1 ⊢
  refine DR.det (i := 0) rfl rfl (by kernel_rfl) (.free rfl) rfl rfl (fun wD mD => op_loadA (i := 0) (cs := [.slice (some ⟨bNr'2, 0, none⟩) nNr nNr, .int .i64 ((i : Nat) : Int), .slice (some ⟨bBr'2, 0, none⟩) nBr nBr, .int .i64 ((h : Nat) : Int), .int .i64 Dk, .float .f32 Dc0, .float .f32 Dc1, .float .f32 Dc2, .float .f32 Ds0, .float .f32 Ds1, .float .f32 sl, .float .f32 lo]) rfl Try.isAgg36 Try.sizeOf36 (((r8.ext m8).ext md1).ext mD).rng rfl rfl rfl) ?_
  refine DR.det (i := 1) rfl rfl (by kernel_rfl) (.free rfl) rfl rfl (fun wD mD => op_loadA (i := 0) (cs := [.slice ANr nNr cNr, .int .i64 ((i : Nat) : Int), .slice ABr nBr cBr, .int .i64 ((h : Nat) : Int), .int .i64 Dk, .float .f32 Dc0, .float .f32 Dc1, .float .f32 Dc2, .float .f32 Ds0, .float .f32 Ds1, .float .f32 sl, .float .f32 lo]) rfl Try.isAgg31 Try.sizeOf31 (((((((((r1.ext m2).ext m3).ext m4).ext m5).ext m6).mod m7 (notin_cons (Nat.ne_of_lt (Nat.lt_of_lt_of_le (Nat.lt_of_lt_of_le r1.lt (Nat.le_trans (Nat.le_trans (Nat.le_trans m2.size m3.size) m4.size) m5.size)) (Nat.le_refl _))) notin_nil)).ext m8).ext md1).ext mD).rng rfl rfl rfl) ?_
  refine DR.one (i := 2) rfl rfl (by kernel_rfl) (.free rfl) rfl (ltb rfl) (vs := [.func (.func 14) #[] #[], .agg #[.slice ANr nNr cNr, .int .i64 ((i : Nat) : Int), .slice ABr nBr cBr, .int .i64 ((h : Nat) : Int), .int .i64 Dk, .float .f32 Dc0, .float .f32 Dc1, .float .f32 Dc2, .float .f32 Ds0, .float .f32 Ds1, .float .f32 sl, .float .f32 lo]]) rfl ?_
  intro w10 m9
  refine ⟨oc_call (vs := [.agg #[.slice ANr nNr cNr, .int .i64 ((i : Nat) : Int), .slice ABr nBr cBr, .int .i64 ((h : Nat) : Int), .int .i64 Dk, .float .f32 Dc0, .float .f32 Dc1, .float .f32 Dc2, .float .f32 Ds0, .float .f32 Ds1, .float .f32 sl, .float .f32 lo]]) (cap := []) rfl rfl rfl Try.call14 (c_toBow nNr cNr ANr bNr oNr xNr ((i : Nat) : Int) nBr cBr ABr bBr oBr xBr ((h : Nat) : Int) Dk Dc0 Dc1 Dc2 Ds0 Ds1 sl lo lnNr hANr lnBr hABr (by omega) (by omega) w10 ((((Rng.youngS rNr ((((((rNr.ext m1).ext m2).ext m3).ext m4).ext m5).ext m6) m7 (allge_cons (Nat.le_trans (Nat.le_trans (Nat.le_trans (Nat.le_trans (Nat.le_trans m1.size m2.size) m3.size) m4.size) m5.size) (Nat.le_refl _)) allge_nil)).ext m8).ext md1).ext m9) ((((Rng.youngS rBr ((((((rBr.ext m1).ext m2).ext m3).ext m4).ext m5).ext m6) m7 (allge_cons (Nat.le_trans (Nat.le_trans (Nat.le_trans (Nat.le_trans (Nat.le_trans m1.size m2.size) m3.size) m4.size) m5.size) (Nat.le_refl _)) allge_nil)).ext m8).ext md1).ext m9)), ?_⟩
  rintro _ w11 ⟨bNr'3, bBr'3, rfl, r9, r10, ge5, ge6, ne3, m10⟩
  refine ⟨(((Mod.refl [] w9).nil_then m9).nil_then m10), ?_⟩
  refine DR.done rfl ?_
  intro w12 m11
  refine WO.call rfl (.free rfl) rfl (ltb rfl) (oc_call (vs := [.agg #[.slice (some ⟨bNr'2, 0, none⟩) nNr nNr, .int .i64 ((i : Nat) : Int), .slice (some ⟨bBr'2, 0, none⟩) nBr nBr, .int .i64 ((h : Nat) : Int), .int .i64 Dk, .float .f32 Dc0, .float .f32 Dc1, .float .f32 Dc2, .float .f32 Ds0, .float .f32 Ds1, .float .f32 sl, .float .f32 lo], .agg #[.slice (some ⟨bNr'3, 0, none⟩) nNr nNr, .int .i64 ((i : Nat) : Int), .slice (some ⟨bBr'3, 0, none⟩) nBr nBr, .int .i64 ((h : Nat) : Int), .int .i64 Dk, .float .f32 Dc0, .float .f32 Dc1, .float .f32 Dc2, .float .f32 Ds0, .float .f32 Ds1, .float .f32 sl, .float .f32 lo]]) (cap := []) rfl rfl rfl Try.call16 (c_eqBow nNr nNr (some ⟨bNr'2, 0, none⟩) bNr'2 0 xNr ((i : Nat) : Int) nBr nBr (some ⟨bBr'2, 0, none⟩) bBr'2 0 xBr ((h : Nat) : Int) Dk Dc0 Dc0 Dc1 Dc1 Dc2 Dc2 Ds0 Ds0 Ds1 Ds1 sl sl lo lo nNr (some ⟨bNr'3, 0, none⟩) bNr'3 0 nBr (some ⟨bBr'3, 0, none⟩) bBr'3 0 Dc0 Dc1 Dc2 Ds0 Ds1 sl lo lnNr (fun _ => rfl) lnBr (fun _ => rfl) (fun _ => rfl) (fun _ => rfl) rfl rfl rfl rfl rfl rfl rfl rfl rfl rfl rfl rfl rfl rfl (by omega) (by omega) w12 (((((((r4.ext m6).mod m7 (notin_cons (Nat.ne_of_lt (Nat.lt_of_lt_of_le r4.lt (Nat.le_refl _))) notin_nil)).ext m8).ext md1).ext m9).ext m10).ext m11).rng (((((((r5.ext m6).mod m7 (notin_cons (Nat.ne_of_lt (Nat.lt_of_lt_of_le r5.lt (Nat.le_refl _))) notin_nil)).ext m8).ext md1).ext m9).ext m10).ext m11).rng (r9.ext m11).rng (r10.ext m11).rng)) ?_
  rintro _ w13 ⟨rfl, m12⟩
  refine WO.det (op_not rfl) rfl (.free rfl) rfl rfl ?_
  refine WO.end ?_
  refine NE.code ?_
  refine CE.cond_f rfl rfl ?_
  refine CE.skip' ?_
  refine NE.code ?_
  refine CE.seq ?_
  refine CE.region ?_
  refine WL.det (op_assign rfl) rfl rfl rfl ?_
  refine WL.end ?_
  refine NE.code ?_
  refine CE.ret' ?_
  refine XE.leave1 Try.results4 rfl ?_
  refine ⟨rfl, ((((((((((((((Mod.refl [] w).nil_then m1).nil_then m2).nil_then m3).nil_then m4).nil_then m5).nil_then m6).then m7 ((allow_cons (.inr (Nat.le_trans (Nat.le_trans (Nat.le_trans (Nat.le_trans (Nat.le_trans m1.size m2.size) m3.size) m4.size) m5.size) (Nat.le_refl _))) allow_nil))).nil_then m8).nil_then md1).nil_then m9).nil_then m10).nil_then m11).nil_then m12)⟩

set_option maxRecDepth 100000 in
set_option maxHeartbeats 2000000 in
theorem law_sticks_bad (nNr : Nat) (cNr : Nat) (ANr : Option Addr) (bNr : Nat) (oNr : Nat) (xNr : List Nat) (Nj : Int) (nBr : Nat) (cBr : Nat) (ABr : Option Addr) (bBr : Nat) (oBr : Nat) (xBr : List Nat) (Bj : Int) (Dk : Int) (Dc0 : Nat) (Dc1 : Nat) (Dc2 : Nat) (Ds0 : Nat) (Ds1 : Nat) (sl : Nat) (lo : Nat) (a : Nat) (lnNr : xNr.length = nNr) (hANr : 0 < nNr → ANr = some ⟨bNr, oNr, none⟩) (lnBr : xBr.length = nBr) (hABr : 0 < nBr → ABr = some ⟨bBr, oBr, none⟩) (wNr : W32 xNr) (wBr : W32 xBr) (lDs0 : Ds0 < wid .f32) (lDs1 : Ds1 < wid .f32) (hv : vBow nNr Nj nBr Bj xNr xBr Dk Dc0 Dc1 Dc2 Ds0 Ds1 sl lo = false) (hn : nNr ≤ 9223372036854775807) (hm : nBr ≤ 9223372036854775807) (la : a < wid .f32) (w : World) (rNr : Rng w bNr oNr (fl xNr)) (rBr : Rng w bBr oBr (fl xBr)) : Cl Try.prog 4 #[.agg #[.slice ANr nNr cNr, .int .i64 Nj, .slice ABr nBr cBr, .int .i64 Bj, .int .i64 Dk, .float .f32 Dc0, .float .f32 Dc1, .float .f32 Dc2, .float .f32 Ds0, .float .f32 Ds1, .float .f32 sl, .float .f32 lo], .float .f32 a] w fun v w' => v = .bool true ∧ Mod [] w w' := by
  refine Cl.of Try.func4 Try.ntmps4 rfl rfl (ρ := [(0, .agg #[.slice ANr nNr cNr, .int .i64 Nj, .slice ABr nBr cBr, .int .i64 Bj, .int .i64 Dk, .float .f32 Dc0, .float .f32 Dc1, .float .f32 Dc2, .float .f32 Ds0, .float .f32 Ds1, .float .f32 sl, .float .f32 lo]), (1, .float .f32 a)]) rfl ?_
  refine CE.seq ?_
  refine CE.region ?_
  refine WL.op (op_box (cs := [.slice ANr nNr cNr, .int .i64 Nj, .slice ABr nBr cBr, .int .i64 Bj, .int .i64 Dk, .float .f32 Dc0, .float .f32 Dc1, .float .f32 Dc2, .float .f32 Ds0, .float .f32 Ds1, .float .f32 sl, .float .f32 lo]) rfl rfl) rfl rfl (ltb rfl) ?_
  rintro _ w1 ⟨rfl, r1, m1, z1⟩
  refine WL.det (op_assign rfl) rfl rfl rfl ?_
  refine WL.end ?_
  refine NE.code ?_
  refine CE.seq ?_
  refine CE.region ?_
  refine WL.det (op_assign rfl) rfl rfl rfl ?_
  refine WL.end ?_
  refine NE.code ?_
  refine CE.seq ?_
  refine CE.region ?_
  refine WL.det (op_loadA (i := 0) (cs := [.slice ANr nNr cNr, .int .i64 Nj, .slice ABr nBr cBr, .int .i64 Bj, .int .i64 Dk, .float .f32 Dc0, .float .f32 Dc1, .float .f32 Dc2, .float .f32 Ds0, .float .f32 Ds1, .float .f32 sl, .float .f32 lo]) rfl Try.isAgg31 Try.sizeOf31 r1.rng rfl rfl rfl) rfl rfl rfl ?_
  refine WL.det (op_move rfl) rfl rfl rfl ?_
  rcases Bool.eq_false_or_eq_true (decide (1048576 < nNr + nBr)) with hb1 | hb1
  · have hp1 := hb1; try simp only [Bool.and_eq_true, Bool.or_eq_true, Bool.not_eq_true', Bool.not_eq_false', Bool.and_eq_false_iff, Bool.or_eq_false_iff, decide_eq_true_eq, decide_eq_false_iff_not, beq_iff_eq, bne_iff_ne, beq_eq_false_iff_ne, bne_eq_false_iff_eq, ne_eq, Bool.false_eq_true, not_false_eq_true, not_true_eq_false, vIn_t, vIn_f] at hp1
    refine WL.call (oc_call (vs := [.agg #[.slice ANr nNr cNr, .int .i64 Nj, .slice ABr nBr cBr, .int .i64 Bj, .int .i64 Dk, .float .f32 Dc0, .float .f32 Dc1, .float .f32 Dc2, .float .f32 Ds0, .float .f32 Ds1, .float .f32 sl, .float .f32 lo], .int .i64 1048576]) (cap := []) rfl rfl rfl Try.call12 (c_szBow_over 1048576 nNr cNr ANr Nj nBr cBr ABr Bj Dk Dc0 Dc1 Dc2 Ds0 Ds1 sl lo (by omega) (by omega) (by omega) (by omega) w1)) rfl rfl (ltb rfl) ?_
    rintro _ w2 ⟨rfl, m2⟩
    refine WL.det (op_assign rfl) rfl rfl rfl ?_
    refine WL.end ?_
    refine NE.code ?_
    refine CE.seq ?_
    refine CE.seq ?_
    refine CE.region ?_
    refine WL.det (op_move rfl) rfl rfl rfl ?_
    refine WL.det (op_lti rfl rfl) rfl rfl rfl ?_
    refine WL.end ?_
    refine NE.code ?_
    refine CE.cond_t rfl rfl ?_
    refine CE.seq ?_
    refine CE.region ?_
    refine WL.det (op_assign rfl) rfl rfl rfl ?_
    refine WL.end ?_
    refine NE.code ?_
    refine CE.ret' ?_
    refine XE.ret_then ?_
    refine XE.leave1 Try.results4 rfl ?_
    refine ⟨rfl, (((Mod.refl [] w).nil_then m1).nil_then m2)⟩
  · have hp1 := hb1; try simp only [Bool.and_eq_true, Bool.or_eq_true, Bool.not_eq_true', Bool.not_eq_false', Bool.and_eq_false_iff, Bool.or_eq_false_iff, decide_eq_true_eq, decide_eq_false_iff_not, beq_iff_eq, bne_iff_ne, beq_eq_false_iff_ne, bne_eq_false_iff_eq, ne_eq, Bool.false_eq_true, not_false_eq_true, not_true_eq_false, vIn_t, vIn_f] at hp1
    refine WL.call (oc_call (vs := [.agg #[.slice ANr nNr cNr, .int .i64 Nj, .slice ABr nBr cBr, .int .i64 Bj, .int .i64 Dk, .float .f32 Dc0, .float .f32 Dc1, .float .f32 Dc2, .float .f32 Ds0, .float .f32 Ds1, .float .f32 sl, .float .f32 lo], .int .i64 1048576]) (cap := []) rfl rfl rfl Try.call12 (c_szBow 1048576 nNr cNr ANr Nj nBr cBr ABr Bj Dk Dc0 Dc1 Dc2 Ds0 Ds1 sl lo (by omega) (by omega) w1)) rfl rfl (ltb rfl) ?_
    rintro _ w3 ⟨rfl, m3⟩
    refine WL.det (op_assign rfl) rfl rfl rfl ?_
    refine WL.end ?_
    refine NE.code ?_
    refine CE.seq ?_
    refine CE.seq ?_
    refine CE.region ?_
    refine WL.det (op_move rfl) rfl rfl rfl ?_
    refine WL.det (op_lti_f rfl rfl (by omega)) rfl rfl rfl ?_
    refine WL.end ?_
    refine NE.code ?_
    refine CE.cond_f rfl rfl ?_
    refine CE.skip' ?_
    refine NE.code ?_
    refine CE.seq ?_
    refine CE.region ?_
    refine WL.det (op_loadA (i := 0) (cs := [.slice ANr nNr cNr, .int .i64 Nj, .slice ABr nBr cBr, .int .i64 Bj, .int .i64 Dk, .float .f32 Dc0, .float .f32 Dc1, .float .f32 Dc2, .float .f32 Ds0, .float .f32 Ds1, .float .f32 sl, .float .f32 lo]) rfl Try.isAgg31 Try.sizeOf31 (r1.ext m3).rng rfl rfl rfl) rfl rfl rfl ?_
    refine WL.call (oc_call (vs := [.agg #[.slice ANr nNr cNr, .int .i64 Nj, .slice ABr nBr cBr, .int .i64 Bj, .int .i64 Dk, .float .f32 Dc0, .float .f32 Dc1, .float .f32 Dc2, .float .f32 Ds0, .float .f32 Ds1, .float .f32 sl, .float .f32 lo]]) (cap := []) rfl rfl rfl Try.call14 (c_toBow nNr cNr ANr bNr oNr xNr Nj nBr cBr ABr bBr oBr xBr Bj Dk Dc0 Dc1 Dc2 Ds0 Ds1 sl lo lnNr hANr lnBr hABr (by omega) (by omega) w3 ((rNr.ext m1).ext m3) ((rBr.ext m1).ext m3))) rfl rfl (ltb rfl) ?_
    rintro _ w4 ⟨bNr'1, bBr'1, rfl, r2, r3, ge1, ge2, ne1, m4⟩
    refine WL.det (op_move rfl) rfl rfl rfl ?_
    refine WL.call (oc_call (vs := [.agg #[.slice (some ⟨bNr'1, 0, none⟩) nNr nNr, .int .i64 Nj, .slice (some ⟨bBr'1, 0, none⟩) nBr nBr, .int .i64 Bj, .int .i64 Dk, .float .f32 Dc0, .float .f32 Dc1, .float .f32 Dc2, .float .f32 Ds0, .float .f32 Ds1, .float .f32 sl, .float .f32 lo], .float .f32 a]) (cap := []) rfl rfl rfl Try.call19 (c_sSticks_bad nNr nNr bNr'1 xNr nBr nBr bBr'1 xBr Nj Bj Dk Dc0 Dc1 Dc2 Ds0 Ds1 sl lo a lnNr lnBr (by omega) (by omega) (by first | assumption | exact W32.get (by assumption) _ | decide +kernel) (by first | assumption | exact W32.get (by assumption) _ | decide +kernel) la (by assumption) w4 r2.rng r3.rng)) rfl rfl (ltb rfl) ?_
    rintro _ w5 ⟨rfl, m5⟩
    refine WL.det (op_move rfl) rfl rfl rfl ?_
    refine WL.det (op_extract rfl rfl) rfl rfl rfl ?_
    refine WL.det (op_extract rfl rfl) rfl rfl rfl ?_
    refine WL.det (op_assign rfl) rfl rfl rfl ?_
    refine WL.det (op_assign rfl) rfl rfl rfl ?_
    refine WL.end ?_
    refine NE.code ?_
    refine CE.seq ?_
    refine CE.region ?_
    refine WL.det (op_loadA (i := 0) (cs := [.slice ANr nNr cNr, .int .i64 Nj, .slice ABr nBr cBr, .int .i64 Bj, .int .i64 Dk, .float .f32 Dc0, .float .f32 Dc1, .float .f32 Dc2, .float .f32 Ds0, .float .f32 Ds1, .float .f32 sl, .float .f32 lo]) rfl Try.isAgg31 Try.sizeOf31 (((r1.ext m3).ext m4).ext m5).rng rfl rfl rfl) rfl rfl rfl ?_
    refine WL.call (oc_call (vs := [.agg #[.slice ANr nNr cNr, .int .i64 Nj, .slice ABr nBr cBr, .int .i64 Bj, .int .i64 Dk, .float .f32 Dc0, .float .f32 Dc1, .float .f32 Dc2, .float .f32 Ds0, .float .f32 Ds1, .float .f32 sl, .float .f32 lo]]) (cap := []) rfl rfl rfl Try.call14 (c_toBow nNr cNr ANr bNr oNr xNr Nj nBr cBr ABr bBr oBr xBr Bj Dk Dc0 Dc1 Dc2 Ds0 Ds1 sl lo lnNr hANr lnBr hABr (by omega) (by omega) w5 ((((rNr.ext m1).ext m3).ext m4).ext m5) ((((rBr.ext m1).ext m3).ext m4).ext m5))) rfl rfl (ltb rfl) ?_
    rintro _ w6 ⟨bNr'2, bBr'2, rfl, r4, r5, ge3, ge4, ne2, m6⟩
    refine WL.op (op_alloc (cs := [.slice none 0 0, .int .i64 0, .slice none 0 0, .int .i64 0, .int .i64 0, .float .f32 0, .float .f32 0, .float .f32 0, .float .f32 0, .float .f32 0, .float .f32 0, .float .f32 0]) Try.zeroValue36 rfl) rfl rfl (ltb rfl) ?_
    rintro _ w7 ⟨rfl, r6, m7, z2⟩
    refine WL.op0 (op_store (i := 0) (cs := [.slice (some ⟨bNr'2, 0, none⟩) nNr nNr, .int .i64 Nj, .slice (some ⟨bBr'2, 0, none⟩) nBr nBr, .int .i64 Bj, .int .i64 Dk, .float .f32 Dc0, .float .f32 Dc1, .float .f32 Dc2, .float .f32 Ds0, .float .f32 Ds1, .float .f32 sl, .float .f32 lo]) rfl rfl rfl Try.sizeOf36 rfl r6 rfl (Nat.le_of_ble_eq_true rfl) rfl) rfl rfl ?_
    rintro _ w8 ⟨r7, m8, z3⟩
    have r8 : Row w8 w6.heap.size 0 [.slice (some ⟨bNr'2, 0, none⟩) nNr nNr, .int .i64 Nj, .slice (some ⟨bBr'2, 0, none⟩) nBr nBr, .int .i64 Bj, .int .i64 Dk, .float .f32 Dc0, .float .f32 Dc1, .float .f32 Dc2, .float .f32 Ds0, .float .f32 Ds1, .float .f32 sl, .float .f32 lo] := Row.congr r7 rfl
    refine WL.end ?_
    refine NE.code ?_
    refine CE.seq ?_
    refine CE.region ?_
    refine WL.det (op_loadA (i := 0) (cs := [.slice (some ⟨bNr'2, 0, none⟩) nNr nNr, .int .i64 Nj, .slice (some ⟨bBr'2, 0, none⟩) nBr nBr, .int .i64 Bj, .int .i64 Dk, .float .f32 Dc0, .float .f32 Dc1, .float .f32 Dc2, .float .f32 Ds0, .float .f32 Ds1, .float .f32 sl, .float .f32 lo]) rfl Try.isAgg36 Try.sizeOf36 r8.rng rfl rfl rfl) rfl rfl rfl ?_
    refine WL.det (op_move rfl) rfl rfl rfl ?_
    refine WL.call (oc_call (vs := [.agg #[.slice (some ⟨bNr'2, 0, none⟩) nNr nNr, .int .i64 Nj, .slice (some ⟨bBr'2, 0, none⟩) nBr nBr, .int .i64 Bj, .int .i64 Dk, .float .f32 Dc0, .float .f32 Dc1, .float .f32 Dc2, .float .f32 Ds0, .float .f32 Ds1, .float .f32 sl, .float .f32 lo], .float .f32 a]) (cap := []) rfl rfl rfl Try.call20 (c_iSticks_bad nNr nNr bNr'2 xNr nBr nBr bBr'2 xBr Nj Bj Dk Dc0 Dc1 Dc2 Ds0 Ds1 sl lo a lnNr lnBr (by omega) (by omega) (by first | assumption | exact W32.get (by assumption) _ | decide +kernel) (by first | assumption | exact W32.get (by assumption) _ | decide +kernel) la (by assumption) w8 ((r4.ext m7).mod m8 (notin_cons (Nat.ne_of_lt (Nat.lt_of_lt_of_le r4.lt (Nat.le_refl _))) notin_nil)).rng ((r5.ext m7).mod m8 (notin_cons (Nat.ne_of_lt (Nat.lt_of_lt_of_le r5.lt (Nat.le_refl _))) notin_nil)).rng)) rfl rfl (ltb rfl) ?_
    rintro _ w9 ⟨rfl, m9⟩
    refine WL.det (op_move rfl) rfl rfl rfl ?_
    refine WL.det (op_extract rfl rfl) rfl rfl rfl ?_
    refine WL.det (op_extract rfl rfl) rfl rfl rfl ?_
    refine WL.det (op_assign rfl) rfl rfl rfl ?_
    refine WL.det (op_assign rfl) rfl rfl rfl ?_
    refine WL.end ?_
    refine NE.code ?_
    refine CE.seq ?_
    refine CE.seq ?_
    refine CE.region ?_
    refine WL.det (op_move rfl) rfl rfl rfl ?_
    refine WL.det (op_move rfl) rfl rfl rfl ?_
    refine WL.det (op_neb_same rfl rfl Try.underlying4) rfl rfl rfl ?_
    refine WL.det (op_move rfl) rfl rfl rfl ?_
    refine WL.yes rfl rfl rfl (ltb rfl) rfl rfl ?_
    refine WL.det (op_move rfl) rfl rfl rfl ?_
    refine WL.yes rfl rfl rfl (ltb rfl) rfl rfl ?_
    refine WL.det (op_move rfl) rfl rfl rfl ?_
    refine WL.yes rfl rfl rfl (ltb rfl) rfl rfl ?_
    refine WL.det (op_nei rfl rfl) rfl rfl rfl ?_
    refine WL.det (op_pick_f rfl rfl rfl) rfl rfl rfl ?_
    refine WL.end ?_
    refine NE.code ?_
    refine CE.cond_f rfl rfl ?_
    refine CE.skip' ?_
    refine NE.code ?_
    refine CE.seq ?_
    refine CE.seq ?_
    refine CE.draw (fun | 2 => some (fun _ wA uA wB => ∃ (bNr' : Nat) (bBr' : Nat), uA = .agg #[.slice (some ⟨bNr', 0, none⟩) nNr nNr, .int .i64 Nj, .slice (some ⟨bBr', 0, none⟩) nBr nBr, .int .i64 Bj, .int .i64 Dk, .float .f32 Dc0, .float .f32 Dc1, .float .f32 Dc2, .float .f32 Ds0, .float .f32 Ds1, .float .f32 sl, .float .f32 lo] ∧ Row wB bNr' 0 (fl xNr) ∧ Row wB bBr' 0 (fl xBr) ∧ wA.heap.size ≤ bNr' ∧ wA.heap.size ≤ bBr' ∧ bNr' ≠ bBr' ∧ Mod [] wA wB) | _ => none) [0, 1, 2] [3, 4] [] (by kernel_rfl) (by kernel_rfl) ?_
    have md1 : Mod [] w9 w9.drew := (Mod.refl _ _).drew
    generalize w9.drew = w10 at md1 ⊢
    refine DR.det (i := 0) rfl rfl (by kernel_rfl) (.free rfl) rfl rfl (fun wD mD => op_loadA (i := 0) (cs := [.slice (some ⟨bNr'2, 0, none⟩) nNr nNr, .int .i64 Nj, .slice (some ⟨bBr'2, 0, none⟩) nBr nBr, .int .i64 Bj, .int .i64 Dk, .float .f32 Dc0, .float .f32 Dc1, .float .f32 Dc2, .float .f32 Ds0, .float .f32 Ds1, .float .f32 sl, .float .f32 lo]) rfl Try.isAgg36 Try.sizeOf36 (((r8.ext m9).ext md1).ext mD).rng rfl rfl rfl) ?_
    refine DR.det (i := 1) rfl rfl (by kernel_rfl) (.free rfl) rfl rfl (fun wD mD => op_loadA (i := 0) (cs := [.slice ANr nNr cNr, .int .i64 Nj, .slice ABr nBr cBr, .int .i64 Bj, .int .i64 Dk, .float .f32 Dc0, .float .f32 Dc1, .float .f32 Dc2, .float .f32 Ds0, .float .f32 Ds1, .float .f32 sl, .float .f32 lo]) rfl Try.isAgg31 Try.sizeOf31 (((((((((r1.ext m3).ext m4).ext m5).ext m6).ext m7).mod m8 (notin_cons (Nat.ne_of_lt (Nat.lt_of_lt_of_le (Nat.lt_of_lt_of_le r1.lt (Nat.le_trans (Nat.le_trans (Nat.le_trans m3.size m4.size) m5.size) m6.size)) (Nat.le_refl _))) notin_nil)).ext m9).ext md1).ext mD).rng rfl rfl rfl) ?_
    refine DR.one (i := 2) rfl rfl (by kernel_rfl) (.free rfl) rfl (ltb rfl) (vs := [.func (.func 14) #[] #[], .agg #[.slice ANr nNr cNr, .int .i64 Nj, .slice ABr nBr cBr, .int .i64 Bj, .int .i64 Dk, .float .f32 Dc0, .float .f32 Dc1, .float .f32 Dc2, .float .f32 Ds0, .float .f32 Ds1, .float .f32 sl, .float .f32 lo]]) rfl ?_
    intro w11 m10
    refine ⟨oc_call (vs := [.agg #[.slice ANr nNr cNr, .int .i64 Nj, .slice ABr nBr cBr, .int .i64 Bj, .int .i64 Dk, .float .f32 Dc0, .float .f32 Dc1, .float .f32 Dc2, .float .f32 Ds0, .float .f32 Ds1, .float .f32 sl, .float .f32 lo]]) (cap := []) rfl rfl rfl Try.call14 (c_toBow nNr cNr ANr bNr oNr xNr Nj nBr cBr ABr bBr oBr xBr Bj Dk Dc0 Dc1 Dc2 Ds0 Ds1 sl lo lnNr hANr lnBr hABr (by omega) (by omega) w11 ((((Rng.youngS rNr ((((((rNr.ext m1).ext m3).ext m4).ext m5).ext m6).ext m7) m8 (allge_cons (Nat.le_trans (Nat.le_trans (Nat.le_trans (Nat.le_trans (Nat.le_trans m1.size m3.size) m4.size) m5.size) m6.size) (Nat.le_refl _)) allge_nil)).ext m9).ext md1).ext m10) ((((Rng.youngS rBr ((((((rBr.ext m1).ext m3).ext m4).ext m5).ext m6).ext m7) m8 (allge_cons (Nat.le_trans (Nat.le_trans (Nat.le_trans (Nat.le_trans (Nat.le_trans m1.size m3.size) m4.size) m5.size) m6.size) (Nat.le_refl _)) allge_nil)).ext m9).ext md1).ext m10)), ?_⟩
    rintro _ w12 ⟨bNr'3, bBr'3, rfl, r9, r10, ge5, ge6, ne3, m11⟩
    refine ⟨(((Mod.refl [] w10).nil_then m10).nil_then m11), ?_⟩
    refine DR.done rfl ?_
    intro w13 m12
    refine WO.call rfl (.free rfl) rfl (ltb rfl) (oc_call (vs := [.agg #[.slice (some ⟨bNr'2, 0, none⟩) nNr nNr, .int .i64 Nj, .slice (some ⟨bBr'2, 0, none⟩) nBr nBr, .int .i64 Bj, .int .i64 Dk, .float .f32 Dc0, .float .f32 Dc1, .float .f32 Dc2, .float .f32 Ds0, .float .f32 Ds1, .float .f32 sl, .float .f32 lo], .agg #[.slice (some ⟨bNr'3, 0, none⟩) nNr nNr, .int .i64 Nj, .slice (some ⟨bBr'3, 0, none⟩) nBr nBr, .int .i64 Bj, .int .i64 Dk, .float .f32 Dc0, .float .f32 Dc1, .float .f32 Dc2, .float .f32 Ds0, .float .f32 Ds1, .float .f32 sl, .float .f32 lo]]) (cap := []) rfl rfl rfl Try.call16 (c_eqBow nNr nNr (some ⟨bNr'2, 0, none⟩) bNr'2 0 xNr Nj nBr nBr (some ⟨bBr'2, 0, none⟩) bBr'2 0 xBr Bj Dk Dc0 Dc0 Dc1 Dc1 Dc2 Dc2 Ds0 Ds0 Ds1 Ds1 sl sl lo lo nNr (some ⟨bNr'3, 0, none⟩) bNr'3 0 nBr (some ⟨bBr'3, 0, none⟩) bBr'3 0 Dc0 Dc1 Dc2 Ds0 Ds1 sl lo lnNr (fun _ => rfl) lnBr (fun _ => rfl) (fun _ => rfl) (fun _ => rfl) rfl rfl rfl rfl rfl rfl rfl rfl rfl rfl rfl rfl rfl rfl (by omega) (by omega) w13 (((((((r4.ext m7).mod m8 (notin_cons (Nat.ne_of_lt (Nat.lt_of_lt_of_le r4.lt (Nat.le_refl _))) notin_nil)).ext m9).ext md1).ext m10).ext m11).ext m12).rng (((((((r5.ext m7).mod m8 (notin_cons (Nat.ne_of_lt (Nat.lt_of_lt_of_le r5.lt (Nat.le_refl _))) notin_nil)).ext m9).ext md1).ext m10).ext m11).ext m12).rng (r9.ext m12).rng (r10.ext m12).rng)) ?_
    rintro _ w14 ⟨rfl, m13⟩
    refine WO.det (op_not rfl) rfl (.free rfl) rfl rfl ?_
    refine WO.end ?_
    refine NE.code ?_
    refine CE.cond_f rfl rfl ?_
    refine CE.skip' ?_
    refine NE.code ?_
    refine CE.seq ?_
    refine CE.region ?_
    refine WL.det (op_assign rfl) rfl rfl rfl ?_
    refine WL.end ?_
    refine NE.code ?_
    refine CE.ret' ?_
    refine XE.leave1 Try.results4 rfl ?_
    refine ⟨rfl, ((((((((((((((Mod.refl [] w).nil_then m1).nil_then m3).nil_then m4).nil_then m5).nil_then m6).nil_then m7).then m8 ((allow_cons (.inr (Nat.le_trans (Nat.le_trans (Nat.le_trans (Nat.le_trans (Nat.le_trans m1.size m3.size) m4.size) m5.size) m6.size) (Nat.le_refl _))) allow_nil))).nil_then m9).nil_then md1).nil_then m10).nil_then m11).nil_then m12).nil_then m13)⟩

end Go.Proofs.Ytkgdhlhmckdcmaa
