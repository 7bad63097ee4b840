/- The law on a step of a string, walked. -/
import Derived.Test.YtabfdgpldcegiaaG3
import Derived.Test.YtabfdgpldcegiaaE8
set_option linter.unusedVariables false
set_option linter.unusedSimpArgs false
namespace Go.Proofs.Ytabfdgpldcegiaa

set_option maxRecDepth 100000 in
set_option maxHeartbeats 2000000 in
theorem law_stepstr (nLr : Nat) (cLr : Nat) (ALr : Option Addr) (bLr : Nat) (oLr : Nat) (xLr : List Nat) (Tk : Int) (Tc0 : Nat) (Tc1 : Nat) (Tc2 : Nat) (Ts0 : Nat) (Ts1 : Nat) (Dk : Int) (Dc0 : Nat) (Dc1 : Nat) (Dc2 : Nat) (Ds0 : Nat) (Ds1 : Nat) (g : Nat) (i : Nat) (a : Nat) (lnLr : xLr.length = nLr) (hALr : 0 < nLr → ALr = some ⟨bLr, oLr, none⟩) (wLr : W32 xLr) (hi : i < nLr) (hn : nLr ≤ 1024) (lTs0 : Ts0 < wid .f32) (lTs1 : Ts1 < wid .f32) (lDs0 : Ds0 < wid .f32) (lDs1 : Ds1 < wid .f32) (hv : vStr nLr ((i : Nat) : Int) Tk Tc0 Tc1 Tc2 Ts0 Ts1 Dk Dc0 Dc1 Dc2 Ds0 Ds1 g = true) (la : a < wid .f32) (w : World) (rLr : Rng w bLr oLr (fl xLr)) : Cl Try.prog 7 #[.agg #[.slice ALr nLr cLr, .int .i64 ((i : Nat) : Int), .int .i64 Tk, .float .f32 Tc0, .float .f32 Tc1, .float .f32 Tc2, .float .f32 Ts0, .float .f32 Ts1, .int .i64 Dk, .float .f32 Dc0, .float .f32 Dc1, .float .f32 Dc2, .float .f32 Ds0, .float .f32 Ds1, .float .f32 g], .float .f32 a] w fun v w' => v = .bool true ∧ Mod [] w w' := by
  refine Cl.of Try.func7 Try.ntmps7 rfl rfl (ρ := [(0, .agg #[.slice ALr nLr cLr, .int .i64 ((i : Nat) : Int), .int .i64 Tk, .float .f32 Tc0, .float .f32 Tc1, .float .f32 Tc2, .float .f32 Ts0, .float .f32 Ts1, .int .i64 Dk, .float .f32 Dc0, .float .f32 Dc1, .float .f32 Dc2, .float .f32 Ds0, .float .f32 Ds1, .float .f32 g]), (1, .float .f32 a)]) rfl ?_
  refine CE.seq ?_
  refine CE.region ?_
  refine WL.op (op_box (cs := [.slice ALr nLr cLr, .int .i64 ((i : Nat) : Int), .int .i64 Tk, .float .f32 Tc0, .float .f32 Tc1, .float .f32 Tc2, .float .f32 Ts0, .float .f32 Ts1, .int .i64 Dk, .float .f32 Dc0, .float .f32 Dc1, .float .f32 Dc2, .float .f32 Ds0, .float .f32 Ds1, .float .f32 g]) rfl rfl) rfl rfl (ltb rfl) ?_
  rintro _ w1 ⟨rfl, r1, m1, z1⟩
  refine WL.det (op_assign rfl) rfl rfl rfl ?_
  refine WL.end ?_
  refine NE.code ?_
  refine CE.seq ?_
  refine CE.region ?_
  refine WL.det (op_assign rfl) rfl rfl rfl ?_
  refine WL.end ?_
  refine NE.code ?_
  refine CE.seq ?_
  refine CE.region ?_
  refine WL.det (op_loadA (i := 0) (cs := [.slice ALr nLr cLr, .int .i64 ((i : Nat) : Int), .int .i64 Tk, .float .f32 Tc0, .float .f32 Tc1, .float .f32 Tc2, .float .f32 Ts0, .float .f32 Ts1, .int .i64 Dk, .float .f32 Dc0, .float .f32 Dc1, .float .f32 Dc2, .float .f32 Ds0, .float .f32 Ds1, .float .f32 g]) rfl Try.isAgg51 Try.sizeOf51 r1.rng rfl rfl rfl) rfl rfl rfl ?_
  refine WL.det (op_move rfl) rfl rfl rfl ?_
  refine WL.call (oc_call (vs := [.agg #[.slice ALr nLr cLr, .int .i64 ((i : Nat) : Int), .int .i64 Tk, .float .f32 Tc0, .float .f32 Tc1, .float .f32 Tc2, .float .f32 Ts0, .float .f32 Ts1, .int .i64 Dk, .float .f32 Dc0, .float .f32 Dc1, .float .f32 Dc2, .float .f32 Ds0, .float .f32 Ds1, .float .f32 g], .int .i64 1048576]) (cap := []) rfl rfl rfl Try.call25 (c_szString 1048576 nLr cLr ALr ((i : Nat) : Int) Tk Tc0 Tc1 Tc2 Ts0 Ts1 Dk Dc0 Dc1 Dc2 Ds0 Ds1 g (by omega) (by omega) w1)) rfl rfl (ltb rfl) ?_
  rintro _ w2 ⟨rfl, m2⟩
  refine WL.det (op_assign rfl) rfl rfl rfl ?_
  refine WL.end ?_
  refine NE.code ?_
  refine CE.seq ?_
  refine CE.seq ?_
  refine CE.region ?_
  refine WL.det (op_move rfl) rfl rfl rfl ?_
  refine WL.det (op_lti_f rfl rfl (by omega)) rfl rfl rfl ?_
  refine WL.end ?_
  refine NE.code ?_
  refine CE.cond_f rfl rfl ?_
  refine CE.skip' ?_
  refine NE.code ?_
  refine CE.seq ?_
  refine CE.region ?_
  refine WL.det (op_loadA (i := 0) (cs := [.slice ALr nLr cLr, .int .i64 ((i : Nat) : Int), .int .i64 Tk, .float .f32 Tc0, .float .f32 Tc1, .float .f32 Tc2, .float .f32 Ts0, .float .f32 Ts1, .int .i64 Dk, .float .f32 Dc0, .float .f32 Dc1, .float .f32 Dc2, .float .f32 Ds0, .float .f32 Ds1, .float .f32 g]) rfl Try.isAgg51 Try.sizeOf51 (r1.ext m2).rng rfl rfl rfl) rfl rfl rfl ?_
  refine WL.call (oc_call (vs := [.agg #[.slice ALr nLr cLr, .int .i64 ((i : Nat) : Int), .int .i64 Tk, .float .f32 Tc0, .float .f32 Tc1, .float .f32 Tc2, .float .f32 Ts0, .float .f32 Ts1, .int .i64 Dk, .float .f32 Dc0, .float .f32 Dc1, .float .f32 Dc2, .float .f32 Ds0, .float .f32 Ds1, .float .f32 g]]) (cap := []) rfl rfl rfl Try.call26 (c_toString nLr cLr ALr bLr oLr xLr ((i : Nat) : Int) Tk Tc0 Tc1 Tc2 Ts0 Ts1 Dk Dc0 Dc1 Dc2 Ds0 Ds1 g lnLr hALr (by omega) w2 ((rLr.ext m1).ext m2))) rfl rfl (ltb rfl) ?_
  rintro _ w3 ⟨bLr'1, rfl, r2, ge1, m3⟩
  refine WL.det (op_move rfl) rfl rfl rfl ?_
  refine WL.call (oc_call (vs := [.agg #[.slice (some ⟨bLr'1, 0, none⟩) nLr nLr, .int .i64 ((i : Nat) : Int), .int .i64 Tk, .float .f32 Tc0, .float .f32 Tc1, .float .f32 Tc2, .float .f32 Ts0, .float .f32 Ts1, .int .i64 Dk, .float .f32 Dc0, .float .f32 Dc1, .float .f32 Dc2, .float .f32 Ds0, .float .f32 Ds1, .float .f32 g], .float .f32 a]) (cap := []) rfl rfl rfl Try.call38 (c_sStepStr nLr nLr bLr'1 xLr i Tk Tc0 Tc1 Tc2 Ts0 Ts1 Dk Dc0 Dc1 Dc2 Ds0 Ds1 g a lnLr (by omega) (by omega) (by first | assumption | exact W32.get (by assumption) _ | decide +kernel) (by first | assumption | exact W32.get (by assumption) _ | decide +kernel) (by first | assumption | exact W32.get (by assumption) _ | decide +kernel) (by first | assumption | exact W32.get (by assumption) _ | decide +kernel) la (by first | assumption | exact W32.set (by assumption) (by first | assumption | exact wid_lt (by assumption)) | exact W32.zeros _ | exact W32.nil) (by assumption) w3 r2.rng)) rfl rfl (ltb rfl) ?_
  rintro _ w4 ⟨b'1, c'1, rfl, r3, ge2, m4⟩
  refine WL.det (op_move rfl) rfl rfl rfl ?_
  refine WL.det (op_extract rfl rfl) rfl rfl rfl ?_
  refine WL.det (op_extract rfl rfl) rfl rfl rfl ?_
  refine WL.det (op_extract rfl rfl) rfl rfl rfl ?_
  refine WL.op (op_alloc (cs := [.slice none 0 0, .int .i64 0, .int .i64 0, .float .f32 0, .float .f32 0, .float .f32 0, .float .f32 0, .float .f32 0, .int .i64 0, .float .f32 0, .float .f32 0, .float .f32 0, .float .f32 0, .float .f32 0, .float .f32 0]) Try.zeroValue33 rfl) rfl rfl (ltb rfl) ?_
  rintro _ w5 ⟨rfl, r4, m5, z2⟩
  refine WL.op0 (op_store (i := 0) (cs := [.slice (some ⟨b'1, 0, none⟩) nLr c'1, .int .i64 (((i + 1) % nLr : Nat) : Int), .int .i64 Tk, .float .f32 Tc0, .float .f32 Tc1, .float .f32 Tc2, .float .f32 (stepS Tk Tc0 Tc1 Tc2 Ts0 Ts1 (xLr.getD i 0)), .float .f32 (stepT Tk Tc0 Tc1 Tc2 Ts0 Ts1 (xLr.getD i 0)), .int .i64 Dk, .float .f32 Dc0, .float .f32 Dc1, .float .f32 Dc2, .float .f32 (stepS Dk Dc0 Dc1 Dc2 Ds0 Ds1 (stepY Tk Tc0 Tc1 Tc2 Ts0 Ts1 (xLr.getD i 0))), .float .f32 (stepT Dk Dc0 Dc1 Dc2 Ds0 Ds1 (stepY Tk Tc0 Tc1 Tc2 Ts0 Ts1 (xLr.getD i 0))), .float .f32 g]) rfl rfl rfl Try.sizeOf33 rfl r4 rfl (Nat.le_of_ble_eq_true rfl) rfl) rfl rfl ?_
  rintro _ w6 ⟨r5, m6, z3⟩
  have r6 : Row w6 w4.heap.size 0 [.slice (some ⟨b'1, 0, none⟩) nLr c'1, .int .i64 (((i + 1) % nLr : Nat) : Int), .int .i64 Tk, .float .f32 Tc0, .float .f32 Tc1, .float .f32 Tc2, .float .f32 (stepS Tk Tc0 Tc1 Tc2 Ts0 Ts1 (xLr.getD i 0)), .float .f32 (stepT Tk Tc0 Tc1 Tc2 Ts0 Ts1 (xLr.getD i 0)), .int .i64 Dk, .float .f32 Dc0, .float .f32 Dc1, .float .f32 Dc2, .float .f32 (stepS Dk Dc0 Dc1 Dc2 Ds0 Ds1 (stepY Tk Tc0 Tc1 Tc2 Ts0 Ts1 (xLr.getD i 0))), .float .f32 (stepT Dk Dc0 Dc1 Dc2 Ds0 Ds1 (stepY Tk Tc0 Tc1 Tc2 Ts0 Ts1 (xLr.getD i 0))), .float .f32 g] := Row.congr r5 rfl
  refine WL.det (op_assign rfl) rfl rfl rfl ?_
  refine WL.det (op_assign rfl) rfl rfl rfl ?_
  refine WL.end ?_
  refine NE.code ?_
  refine CE.seq ?_
  refine CE.region ?_
  refine WL.det (op_loadA (i := 0) (cs := [.slice ALr nLr cLr, .int .i64 ((i : Nat) : Int), .int .i64 Tk, .float .f32 Tc0, .float .f32 Tc1, .float .f32 Tc2, .float .f32 Ts0, .float .f32 Ts1, .int .i64 Dk, .float .f32 Dc0, .float .f32 Dc1, .float .f32 Dc2, .float .f32 Ds0, .float .f32 Ds1, .float .f32 g]) rfl Try.isAgg51 Try.sizeOf51 (((((r1.ext m2).ext m3).ext m4).ext m5).mod m6 (notin1 (Nat.ne_of_lt (Nat.lt_of_lt_of_le (Nat.lt_of_lt_of_le r1.lt (Nat.le_trans (Nat.le_trans m2.size m3.size) m4.size)) (Nat.le_refl _))))).rng rfl rfl rfl) rfl rfl rfl ?_
  refine WL.call (oc_call (vs := [.agg #[.slice ALr nLr cLr, .int .i64 ((i : Nat) : Int), .int .i64 Tk, .float .f32 Tc0, .float .f32 Tc1, .float .f32 Tc2, .float .f32 Ts0, .float .f32 Ts1, .int .i64 Dk, .float .f32 Dc0, .float .f32 Dc1, .float .f32 Dc2, .float .f32 Ds0, .float .f32 Ds1, .float .f32 g]]) (cap := []) rfl rfl rfl Try.call26 (c_toString nLr cLr ALr bLr oLr xLr ((i : Nat) : Int) Tk Tc0 Tc1 Tc2 Ts0 Ts1 Dk Dc0 Dc1 Dc2 Ds0 Ds1 g lnLr hALr (by omega) w6 (Rng.young rLr (((((rLr.ext m1).ext m2).ext m3).ext m4).ext m5) m6 rfl (Nat.le_trans (Nat.le_trans (Nat.le_trans (Nat.le_trans m1.size m2.size) m3.size) m4.size) (Nat.le_refl _))))) rfl rfl (ltb rfl) ?_
  rintro _ w7 ⟨bLr'2, rfl, r7, ge3, m7⟩
  refine WL.op (op_alloc (cs := [.slice none 0 0, .int .i64 0, .int .i64 0, .float .f32 0, .float .f32 0, .float .f32 0, .float .f32 0, .float .f32 0, .int .i64 0, .float .f32 0, .float .f32 0, .float .f32 0, .float .f32 0, .float .f32 0, .float .f32 0]) Try.zeroValue33 rfl) rfl rfl (ltb rfl) ?_
  rintro _ w8 ⟨rfl, r8, m8, z4⟩
  refine WL.op0 (op_store (i := 0) (cs := [.slice (some ⟨bLr'2, 0, none⟩) nLr nLr, .int .i64 ((i : Nat) : Int), .int .i64 Tk, .float .f32 Tc0, .float .f32 Tc1, .float .f32 Tc2, .float .f32 Ts0, .float .f32 Ts1, .int .i64 Dk, .float .f32 Dc0, .float .f32 Dc1, .float .f32 Dc2, .float .f32 Ds0, .float .f32 Ds1, .float .f32 g]) rfl rfl rfl Try.sizeOf33 rfl r8 rfl (Nat.le_of_ble_eq_true rfl) rfl) rfl rfl ?_
  rintro _ w9 ⟨r9, m9, z5⟩
  have r10 : Row w9 w7.heap.size 0 [.slice (some ⟨bLr'2, 0, none⟩) nLr nLr, .int .i64 ((i : Nat) : Int), .int .i64 Tk, .float .f32 Tc0, .float .f32 Tc1, .float .f32 Tc2, .float .f32 Ts0, .float .f32 Ts1, .int .i64 Dk, .float .f32 Dc0, .float .f32 Dc1, .float .f32 Dc2, .float .f32 Ds0, .float .f32 Ds1, .float .f32 g] := Row.congr r9 rfl
  refine WL.end ?_
  refine NE.code ?_
  refine CE.seq ?_
  refine CE.region ?_
  refine WL.det (op_loadA (i := 0) (cs := [.slice (some ⟨bLr'2, 0, none⟩) nLr nLr, .int .i64 ((i : Nat) : Int), .int .i64 Tk, .float .f32 Tc0, .float .f32 Tc1, .float .f32 Tc2, .float .f32 Ts0, .float .f32 Ts1, .int .i64 Dk, .float .f32 Dc0, .float .f32 Dc1, .float .f32 Dc2, .float .f32 Ds0, .float .f32 Ds1, .float .f32 g]) rfl Try.isAgg33 Try.sizeOf33 r10.rng rfl rfl rfl) rfl rfl rfl ?_
  refine WL.det (op_move rfl) rfl rfl rfl ?_
  refine WL.call (oc_call (vs := [.agg #[.slice (some ⟨bLr'2, 0, none⟩) nLr nLr, .int .i64 ((i : Nat) : Int), .int .i64 Tk, .float .f32 Tc0, .float .f32 Tc1, .float .f32 Tc2, .float .f32 Ts0, .float .f32 Ts1, .int .i64 Dk, .float .f32 Dc0, .float .f32 Dc1, .float .f32 Dc2, .float .f32 Ds0, .float .f32 Ds1, .float .f32 g], .float .f32 a]) (cap := []) rfl rfl rfl Try.call34 (c_iStepStr nLr nLr bLr'2 xLr i Tk Tc0 Tc1 Tc2 Ts0 Ts1 Dk Dc0 Dc1 Dc2 Ds0 Ds1 g a lnLr (by omega) (by omega) (by first | assumption | exact W32.get (by assumption) _ | decide +kernel) (by first | assumption | exact W32.get (by assumption) _ | decide +kernel) (by first | assumption | exact W32.get (by assumption) _ | decide +kernel) (by first | assumption | exact W32.get (by assumption) _ | decide +kernel) la (by first | assumption | exact W32.set (by assumption) (by first | assumption | exact wid_lt (by assumption)) | exact W32.zeros _ | exact W32.nil) (by assumption) w9 ((r7.ext m8).mod m9 (notin1 (Nat.ne_of_lt (Nat.lt_of_lt_of_le r7.lt (Nat.le_refl _))))).rng)) rfl rfl (ltb rfl) ?_
  rintro _ w10 ⟨b'2, c'2, rfl, r11, ge4, m10⟩
  refine WL.det (op_move rfl) rfl rfl rfl ?_
  refine WL.det (op_extract rfl rfl) rfl rfl rfl ?_
  refine WL.det (op_extract rfl rfl) rfl rfl rfl ?_
  refine WL.det (op_extract rfl rfl) rfl rfl rfl ?_
  refine WL.op (op_alloc (cs := [.slice none 0 0, .int .i64 0, .int .i64 0, .float .f32 0, .float .f32 0, .float .f32 0, .float .f32 0, .float .f32 0, .int .i64 0, .float .f32 0, .float .f32 0, .float .f32 0, .float .f32 0, .float .f32 0, .float .f32 0]) Try.zeroValue33 rfl) rfl rfl (ltb rfl) ?_
  rintro _ w11 ⟨rfl, r12, m11, z6⟩
  refine WL.op0 (op_store (i := 0) (cs := [.slice (some ⟨b'2, 0, none⟩) nLr c'2, .int .i64 (((i + 1) % nLr : Nat) : Int), .int .i64 Tk, .float .f32 Tc0, .float .f32 Tc1, .float .f32 Tc2, .float .f32 (stepS Tk Tc0 Tc1 Tc2 Ts0 Ts1 (xLr.getD i 0)), .float .f32 (stepT Tk Tc0 Tc1 Tc2 Ts0 Ts1 (xLr.getD i 0)), .int .i64 Dk, .float .f32 Dc0, .float .f32 Dc1, .float .f32 Dc2, .float .f32 (stepS Dk Dc0 Dc1 Dc2 Ds0 Ds1 (stepY Tk Tc0 Tc1 Tc2 Ts0 Ts1 (xLr.getD i 0))), .float .f32 (stepT Dk Dc0 Dc1 Dc2 Ds0 Ds1 (stepY Tk Tc0 Tc1 Tc2 Ts0 Ts1 (xLr.getD i 0))), .float .f32 g]) rfl rfl rfl Try.sizeOf33 rfl r12 rfl (Nat.le_of_ble_eq_true rfl) rfl) rfl rfl ?_
  rintro _ w12 ⟨r13, m12, z7⟩
  have r14 : Row w12 w10.heap.size 0 [.slice (some ⟨b'2, 0, none⟩) nLr c'2, .int .i64 (((i + 1) % nLr : Nat) : Int), .int .i64 Tk, .float .f32 Tc0, .float .f32 Tc1, .float .f32 Tc2, .float .f32 (stepS Tk Tc0 Tc1 Tc2 Ts0 Ts1 (xLr.getD i 0)), .float .f32 (stepT Tk Tc0 Tc1 Tc2 Ts0 Ts1 (xLr.getD i 0)), .int .i64 Dk, .float .f32 Dc0, .float .f32 Dc1, .float .f32 Dc2, .float .f32 (stepS Dk Dc0 Dc1 Dc2 Ds0 Ds1 (stepY Tk Tc0 Tc1 Tc2 Ts0 Ts1 (xLr.getD i 0))), .float .f32 (stepT Dk Dc0 Dc1 Dc2 Ds0 Ds1 (stepY Tk Tc0 Tc1 Tc2 Ts0 Ts1 (xLr.getD i 0))), .float .f32 g] := Row.congr r13 rfl
  refine WL.det (op_assign rfl) rfl rfl rfl ?_
  refine WL.det (op_assign rfl) rfl rfl rfl ?_
  refine WL.end ?_
  refine NE.code ?_
  refine CE.seq ?_
  refine CE.seq ?_
  refine CE.region ?_
  refine WL.det (op_loadA (i := 0) (cs := [.slice (some ⟨b'2, 0, none⟩) nLr c'2, .int .i64 (((i + 1) % nLr : Nat) : Int), .int .i64 Tk, .float .f32 Tc0, .float .f32 Tc1, .float .f32 Tc2, .float .f32 (stepS Tk Tc0 Tc1 Tc2 Ts0 Ts1 (xLr.getD i 0)), .float .f32 (stepT Tk Tc0 Tc1 Tc2 Ts0 Ts1 (xLr.getD i 0)), .int .i64 Dk, .float .f32 Dc0, .float .f32 Dc1, .float .f32 Dc2, .float .f32 (stepS Dk Dc0 Dc1 Dc2 Ds0 Ds1 (stepY Tk Tc0 Tc1 Tc2 Ts0 Ts1 (xLr.getD i 0))), .float .f32 (stepT Dk Dc0 Dc1 Dc2 Ds0 Ds1 (stepY Tk Tc0 Tc1 Tc2 Ts0 Ts1 (xLr.getD i 0))), .float .f32 g]) rfl Try.isAgg33 Try.sizeOf33 r14.rng rfl rfl rfl) rfl rfl rfl ?_
  refine WL.det (op_loadA (i := 0) (cs := [.slice (some ⟨b'1, 0, none⟩) nLr c'1, .int .i64 (((i + 1) % nLr : Nat) : Int), .int .i64 Tk, .float .f32 Tc0, .float .f32 Tc1, .float .f32 Tc2, .float .f32 (stepS Tk Tc0 Tc1 Tc2 Ts0 Ts1 (xLr.getD i 0)), .float .f32 (stepT Tk Tc0 Tc1 Tc2 Ts0 Ts1 (xLr.getD i 0)), .int .i64 Dk, .float .f32 Dc0, .float .f32 Dc1, .float .f32 Dc2, .float .f32 (stepS Dk Dc0 Dc1 Dc2 Ds0 Ds1 (stepY Tk Tc0 Tc1 Tc2 Ts0 Ts1 (xLr.getD i 0))), .float .f32 (stepT Dk Dc0 Dc1 Dc2 Ds0 Ds1 (stepY Tk Tc0 Tc1 Tc2 Ts0 Ts1 (xLr.getD i 0))), .float .f32 g]) rfl Try.isAgg33 Try.sizeOf33 ((((((r6.ext m7).ext m8).mod m9 (notin1 (Nat.ne_of_lt (Nat.lt_of_lt_of_le (Nat.lt_of_lt_of_le r4.lt (Nat.le_trans m6.size m7.size)) (Nat.le_refl _))))).ext m10).ext m11).mod m12 (notin1 (Nat.ne_of_lt (Nat.lt_of_lt_of_le (Nat.lt_of_lt_of_le r4.lt (Nat.le_trans (Nat.le_trans (Nat.le_trans (Nat.le_trans m6.size m7.size) m8.size) m9.size) m10.size)) (Nat.le_refl _))))).rng rfl rfl rfl) rfl rfl rfl ?_
  refine WL.call (oc_call (vs := [.agg #[.slice (some ⟨b'2, 0, none⟩) nLr c'2, .int .i64 (((i + 1) % nLr : Nat) : Int), .int .i64 Tk, .float .f32 Tc0, .float .f32 Tc1, .float .f32 Tc2, .float .f32 (stepS Tk Tc0 Tc1 Tc2 Ts0 Ts1 (xLr.getD i 0)), .float .f32 (stepT Tk Tc0 Tc1 Tc2 Ts0 Ts1 (xLr.getD i 0)), .int .i64 Dk, .float .f32 Dc0, .float .f32 Dc1, .float .f32 Dc2, .float .f32 (stepS Dk Dc0 Dc1 Dc2 Ds0 Ds1 (stepY Tk Tc0 Tc1 Tc2 Ts0 Ts1 (xLr.getD i 0))), .float .f32 (stepT Dk Dc0 Dc1 Dc2 Ds0 Ds1 (stepY Tk Tc0 Tc1 Tc2 Ts0 Ts1 (xLr.getD i 0))), .float .f32 g], .agg #[.slice (some ⟨b'1, 0, none⟩) nLr c'1, .int .i64 (((i + 1) % nLr : Nat) : Int), .int .i64 Tk, .float .f32 Tc0, .float .f32 Tc1, .float .f32 Tc2, .float .f32 (stepS Tk Tc0 Tc1 Tc2 Ts0 Ts1 (xLr.getD i 0)), .float .f32 (stepT Tk Tc0 Tc1 Tc2 Ts0 Ts1 (xLr.getD i 0)), .int .i64 Dk, .float .f32 Dc0, .float .f32 Dc1, .float .f32 Dc2, .float .f32 (stepS Dk Dc0 Dc1 Dc2 Ds0 Ds1 (stepY Tk Tc0 Tc1 Tc2 Ts0 Ts1 (xLr.getD i 0))), .float .f32 (stepT Dk Dc0 Dc1 Dc2 Ds0 Ds1 (stepY Tk Tc0 Tc1 Tc2 Ts0 Ts1 (xLr.getD i 0))), .float .f32 g]]) (cap := []) rfl rfl rfl Try.call27 (c_eqString nLr c'2 (some ⟨b'2, 0, none⟩) b'2 0 (xLr.set i (keptF (fop .add .f32 (fop .mul .f32 (stepY Dk Dc0 Dc1 Dc2 Ds0 Ds1 (stepY Tk Tc0 Tc1 Tc2 Ts0 Ts1 (xLr.getD i 0))) g) a))) (((i + 1) % nLr : Nat) : Int) Tk Tc0 Tc0 Tc1 Tc1 Tc2 Tc2 (stepS Tk Tc0 Tc1 Tc2 Ts0 Ts1 (xLr.getD i 0)) (stepS Tk Tc0 Tc1 Tc2 Ts0 Ts1 (xLr.getD i 0)) (stepT Tk Tc0 Tc1 Tc2 Ts0 Ts1 (xLr.getD i 0)) (stepT Tk Tc0 Tc1 Tc2 Ts0 Ts1 (xLr.getD i 0)) Dk Dc0 Dc0 Dc1 Dc1 Dc2 Dc2 (stepS Dk Dc0 Dc1 Dc2 Ds0 Ds1 (stepY Tk Tc0 Tc1 Tc2 Ts0 Ts1 (xLr.getD i 0))) (stepS Dk Dc0 Dc1 Dc2 Ds0 Ds1 (stepY Tk Tc0 Tc1 Tc2 Ts0 Ts1 (xLr.getD i 0))) (stepT Dk Dc0 Dc1 Dc2 Ds0 Ds1 (stepY Tk Tc0 Tc1 Tc2 Ts0 Ts1 (xLr.getD i 0))) (stepT Dk Dc0 Dc1 Dc2 Ds0 Ds1 (stepY Tk Tc0 Tc1 Tc2 Ts0 Ts1 (xLr.getD i 0))) g g c'1 (some ⟨b'1, 0, none⟩) b'1 0 Tc0 Tc1 Tc2 (stepS Tk Tc0 Tc1 Tc2 Ts0 Ts1 (xLr.getD i 0)) (stepT Tk Tc0 Tc1 Tc2 Ts0 Ts1 (xLr.getD i 0)) Dc0 Dc1 Dc2 (stepS Dk Dc0 Dc1 Dc2 Ds0 Ds1 (stepY Tk Tc0 Tc1 Tc2 Ts0 Ts1 (xLr.getD i 0))) (stepT Dk Dc0 Dc1 Dc2 Ds0 Ds1 (stepY Tk Tc0 Tc1 Tc2 Ts0 Ts1 (xLr.getD i 0))) g ((List.length_set).trans lnLr) (fun _ => rfl) (fun _ => rfl) rfl rfl rfl rfl rfl rfl rfl rfl rfl rfl rfl rfl rfl rfl rfl rfl rfl rfl rfl rfl rfl rfl (by omega) w12 ((r11.ext m11).mod m12 (notin1 (Nat.ne_of_lt (Nat.lt_of_lt_of_le r11.lt (Nat.le_refl _))))).rng ((((((((r3.ext m5).mod m6 (notin1 (Nat.ne_of_lt (Nat.lt_of_lt_of_le r3.lt (Nat.le_refl _))))).ext m7).ext m8).mod m9 (notin1 (Nat.ne_of_lt (Nat.lt_of_lt_of_le (Nat.lt_of_lt_of_le r3.lt (Nat.le_trans (Nat.le_trans m5.size m6.size) m7.size)) (Nat.le_refl _))))).ext m10).ext m11).mod m12 (notin1 (Nat.ne_of_lt (Nat.lt_of_lt_of_le (Nat.lt_of_lt_of_le r3.lt (Nat.le_trans (Nat.le_trans (Nat.le_trans (Nat.le_trans (Nat.le_trans m5.size m6.size) m7.size) m8.size) m9.size) m10.size)) (Nat.le_refl _))))).rng)) rfl rfl (ltb rfl) ?_
  rintro _ w13 ⟨rfl, m13⟩
  refine WL.det (op_not rfl) rfl rfl rfl ?_
  refine WL.det (op_move rfl) rfl rfl rfl ?_
  refine WL.yes rfl rfl rfl (ltb rfl) rfl rfl ?_
  refine WL.det (op_move rfl) rfl rfl rfl ?_
  refine WL.yes rfl rfl rfl (ltb rfl) rfl rfl ?_
  refine WL.op (op_widen (e := (wide (xLr.getD i 0))) rfl rfl Try.runUnderlying27 Try.runUnderlying67 rfl) rfl rfl (ltb rfl) ?_
  rintro _ w14 ⟨⟨f1, rfl, hf1, lf1⟩, m14⟩
  refine WL.yes rfl rfl rfl (ltb rfl) rfl rfl ?_
  refine WL.det (op_move rfl) rfl rfl rfl ?_
  refine WL.yes rfl rfl rfl (ltb rfl) rfl rfl ?_
  refine WL.op (op_widen (e := (wide (xLr.getD i 0))) rfl rfl Try.runUnderlying27 Try.runUnderlying67 rfl) rfl rfl (ltb rfl) ?_
  rintro _ w15 ⟨⟨f2, rfl, hf2, lf2⟩, m15⟩
  refine WL.yes rfl rfl rfl (ltb rfl) rfl rfl ?_
  refine WL.call (oc_call (vs := [.float .f64 f1, .float .f64 f2]) (cap := []) rfl rfl rfl Try.call39 (c_sameFloat f1 (wide (xLr.getD i 0)) f2 (wide (xLr.getD i 0)) hf1 hf2 w15)) rfl rfl (ltb rfl) ?_
  rintro _ w16 ⟨rfl, m16⟩
  refine WL.yes rfl rfl rfl (ltb rfl) rfl rfl ?_
  refine WL.det (op_not rfl) rfl rfl rfl ?_
  refine WL.det (op_pick_f rfl rfl rfl) rfl rfl rfl ?_
  refine WL.det (op_move rfl) rfl rfl rfl ?_
  refine WL.yes rfl rfl rfl (ltb rfl) rfl (bnot_t (sameF_self _)) ?_
  refine WL.det (op_move rfl) rfl rfl rfl ?_
  refine WL.yes rfl rfl rfl (ltb rfl) rfl (bnot_t (sameF_self _)) ?_
  refine WL.det (op_move rfl) rfl rfl rfl ?_
  refine WL.yes rfl rfl rfl (ltb rfl) rfl (bnot_t (sameF_self _)) ?_
  refine WL.det (op_nei rfl rfl) rfl rfl rfl ?_
  refine WL.det (op_pick_f rfl (bnot_t (sameF_self _)) rfl) rfl rfl rfl ?_
  refine WL.end ?_
  refine NE.code ?_
  refine CE.cond_f rfl rfl ?_
  refine CE.skip' ?_
  refine NE.code ?_
  refine CE.seq ?_
  refine CE.seq ?_
  refine CE.draw (fun | 2 => some (fun _ wA uA wB => ∃ (bLr' : Nat), uA = .agg #[.slice (some ⟨bLr', 0, none⟩) nLr nLr, .int .i64 ((i : Nat) : Int), .int .i64 Tk, .float .f32 Tc0, .float .f32 Tc1, .float .f32 Tc2, .float .f32 Ts0, .float .f32 Ts1, .int .i64 Dk, .float .f32 Dc0, .float .f32 Dc1, .float .f32 Dc2, .float .f32 Ds0, .float .f32 Ds1, .float .f32 g] ∧ Row wB bLr' 0 (fl xLr) ∧ wA.heap.size ≤ bLr' ∧ Mod [] wA wB) | _ => none) [0, 1, 2] [3, 4] [] (by kernel_rfl) (by kernel_rfl) ?_
  have md1 : Mod [] w16 w16.drew := (Mod.refl _ _).drew
  generalize w16.drew = w17 at md1 ⊢
  refine DR.det (i := 0) rfl rfl (by kernel_rfl) (.free rfl) rfl rfl (fun wD mD => op_loadA (i := 0) (cs := [.slice (some ⟨bLr'2, 0, none⟩) nLr nLr, .int .i64 ((i : Nat) : Int), .int .i64 Tk, .float .f32 Tc0, .float .f32 Tc1, .float .f32 Tc2, .float .f32 Ts0, .float .f32 Ts1, .int .i64 Dk, .float .f32 Dc0, .float .f32 Dc1, .float .f32 Dc2, .float .f32 Ds0, .float .f32 Ds1, .float .f32 g]) rfl Try.isAgg33 Try.sizeOf33 (((((((((r10.ext m10).ext m11).mod m12 (notin1 (Nat.ne_of_lt (Nat.lt_of_lt_of_le (Nat.lt_of_lt_of_le r8.lt (Nat.le_trans m9.size m10.size)) (Nat.le_refl _))))).ext m13).ext m14).ext m15).ext m16).ext md1).ext mD).rng rfl rfl rfl) ?_
  refine DR.det (i := 1) rfl rfl (by kernel_rfl) (.free rfl) rfl rfl (fun wD mD => op_loadA (i := 0) (cs := [.slice ALr nLr cLr, .int .i64 ((i : Nat) : Int), .int .i64 Tk, .float .f32 Tc0, .float .f32 Tc1, .float .f32 Tc2, .float .f32 Ts0, .float .f32 Ts1, .int .i64 Dk, .float .f32 Dc0, .float .f32 Dc1, .float .f32 Dc2, .float .f32 Ds0, .float .f32 Ds1, .float .f32 g]) rfl Try.isAgg51 Try.sizeOf51 (((((((((((((((((r1.ext m2).ext m3).ext m4).ext m5).mod m6 (notin1 (Nat.ne_of_lt (Nat.lt_of_lt_of_le (Nat.lt_of_lt_of_le r1.lt (Nat.le_trans (Nat.le_trans m2.size m3.size) m4.size)) (Nat.le_refl _))))).ext m7).ext m8).mod m9 (notin1 (Nat.ne_of_lt (Nat.lt_of_lt_of_le (Nat.lt_of_lt_of_le r1.lt (Nat.le_trans (Nat.le_trans (Nat.le_trans (Nat.le_trans (Nat.le_trans m2.size m3.size) m4.size) m5.size) m6.size) m7.size)) (Nat.le_refl _))))).ext m10).ext m11).mod m12 (notin1 (Nat.ne_of_lt (Nat.lt_of_lt_of_le (Nat.lt_of_lt_of_le r1.lt (Nat.le_trans (Nat.le_trans (Nat.le_trans (Nat.le_trans (Nat.le_trans (Nat.le_trans (Nat.le_trans (Nat.le_trans m2.size m3.size) m4.size) m5.size) m6.size) m7.size) m8.size) m9.size) m10.size)) (Nat.le_refl _))))).ext m13).ext m14).ext m15).ext m16).ext md1).ext mD).rng rfl rfl rfl) ?_
  refine DR.one (i := 2) rfl rfl (by kernel_rfl) (.free rfl) rfl (ltb rfl) (vs := [.func (.func 26) #[] #[], .agg #[.slice ALr nLr cLr, .int .i64 ((i : Nat) : Int), .int .i64 Tk, .float .f32 Tc0, .float .f32 Tc1, .float .f32 Tc2, .float .f32 Ts0, .float .f32 Ts1, .int .i64 Dk, .float .f32 Dc0, .float .f32 Dc1, .float .f32 Dc2, .float .f32 Ds0, .float .f32 Ds1, .float .f32 g]]) rfl ?_
  intro w18 m17
  refine ⟨oc_call (vs := [.agg #[.slice ALr nLr cLr, .int .i64 ((i : Nat) : Int), .int .i64 Tk, .float .f32 Tc0, .float .f32 Tc1, .float .f32 Tc2, .float .f32 Ts0, .float .f32 Ts1, .int .i64 Dk, .float .f32 Dc0, .float .f32 Dc1, .float .f32 Dc2, .float .f32 Ds0, .float .f32 Ds1, .float .f32 g]]) (cap := []) rfl rfl rfl Try.call26 (c_toString nLr cLr ALr bLr oLr xLr ((i : Nat) : Int) Tk Tc0 Tc1 Tc2 Ts0 Ts1 Dk Dc0 Dc1 Dc2 Ds0 Ds1 g lnLr hALr (by omega) w18 (((((((Rng.young rLr (((Rng.young rLr (((Rng.young rLr (((((rLr.ext m1).ext m2).ext m3).ext m4).ext m5) m6 rfl (Nat.le_trans (Nat.le_trans (Nat.le_trans (Nat.le_trans m1.size m2.size) m3.size) m4.size) (Nat.le_refl _))).ext m7).ext m8) m9 rfl (Nat.le_trans (Nat.le_trans (Nat.le_trans (Nat.le_trans (Nat.le_trans (Nat.le_trans (Nat.le_trans m1.size m2.size) m3.size) m4.size) m5.size) m6.size) m7.size) (Nat.le_refl _))).ext m10).ext m11) m12 rfl (Nat.le_trans (Nat.le_trans (Nat.le_trans (Nat.le_trans (Nat.le_trans (Nat.le_trans (Nat.le_trans (Nat.le_trans (Nat.le_trans (Nat.le_trans m1.size m2.size) m3.size) m4.size) m5.size) m6.size) m7.size) m8.size) m9.size) m10.size) (Nat.le_refl _))).ext m13).ext m14).ext m15).ext m16).ext md1).ext m17)), ?_⟩
  rintro _ w19 ⟨bLr'3, rfl, r15, ge5, m18⟩
  refine ⟨(((Mod.refl [] w17).nil_then m17).nil_then m18), ?_⟩
  refine DR.done rfl ?_
  intro w20 m19
  refine WO.call rfl (.free rfl) rfl (ltb rfl) (oc_call (vs := [.agg #[.slice (some ⟨bLr'2, 0, none⟩) nLr nLr, .int .i64 ((i : Nat) : Int), .int .i64 Tk, .float .f32 Tc0, .float .f32 Tc1, .float .f32 Tc2, .float .f32 Ts0, .float .f32 Ts1, .int .i64 Dk, .float .f32 Dc0, .float .f32 Dc1, .float .f32 Dc2, .float .f32 Ds0, .float .f32 Ds1, .float .f32 g], .agg #[.slice (some ⟨bLr'3, 0, none⟩) nLr nLr, .int .i64 ((i : Nat) : Int), .int .i64 Tk, .float .f32 Tc0, .float .f32 Tc1, .float .f32 Tc2, .float .f32 Ts0, .float .f32 Ts1, .int .i64 Dk, .float .f32 Dc0, .float .f32 Dc1, .float .f32 Dc2, .float .f32 Ds0, .float .f32 Ds1, .float .f32 g]]) (cap := []) rfl rfl rfl Try.call27 (c_eqString nLr nLr (some ⟨bLr'2, 0, none⟩) bLr'2 0 xLr ((i : Nat) : Int) Tk Tc0 Tc0 Tc1 Tc1 Tc2 Tc2 Ts0 Ts0 Ts1 Ts1 Dk Dc0 Dc0 Dc1 Dc1 Dc2 Dc2 Ds0 Ds0 Ds1 Ds1 g g nLr (some ⟨bLr'3, 0, none⟩) bLr'3 0 Tc0 Tc1 Tc2 Ts0 Ts1 Dc0 Dc1 Dc2 Ds0 Ds1 g lnLr (fun _ => rfl) (fun _ => rfl) rfl rfl rfl rfl rfl rfl rfl rfl rfl rfl rfl rfl rfl rfl rfl rfl rfl rfl rfl rfl rfl rfl (by omega) w20 (((((((((((((r7.ext m8).mod m9 (notin1 (Nat.ne_of_lt (Nat.lt_of_lt_of_le r7.lt (Nat.le_refl _))))).ext m10).ext m11).mod m12 (notin1 (Nat.ne_of_lt (Nat.lt_of_lt_of_le (Nat.lt_of_lt_of_le r7.lt (Nat.le_trans (Nat.le_trans m8.size m9.size) m10.size)) (Nat.le_refl _))))).ext m13).ext m14).ext m15).ext m16).ext md1).ext m17).ext m18).ext m19).rng (r15.ext m19).rng)) ?_
  rintro _ w21 ⟨rfl, m20⟩
  refine WO.det (op_not rfl) rfl (.free rfl) rfl rfl ?_
  refine WO.end ?_
  refine NE.code ?_
  refine CE.cond_f rfl rfl ?_
  refine CE.skip' ?_
  refine NE.code ?_
  refine CE.seq ?_
  refine CE.region ?_
  refine WL.det (op_assign rfl) rfl rfl rfl ?_
  refine WL.end ?_
  refine NE.code ?_
  refine CE.seq ?_
  refine CE.region ?_
  refine WL.det (op_loadA (i := 0) (cs := [.slice (some ⟨bLr'2, 0, none⟩) nLr nLr, .int .i64 ((i : Nat) : Int), .int .i64 Tk, .float .f32 Tc0, .float .f32 Tc1, .float .f32 Tc2, .float .f32 Ts0, .float .f32 Ts1, .int .i64 Dk, .float .f32 Dc0, .float .f32 Dc1, .float .f32 Dc2, .float .f32 Ds0, .float .f32 Ds1, .float .f32 g]) rfl Try.isAgg33 Try.sizeOf33 ((((((((((((r10.ext m10).ext m11).mod m12 (notin1 (Nat.ne_of_lt (Nat.lt_of_lt_of_le (Nat.lt_of_lt_of_le r8.lt (Nat.le_trans m9.size m10.size)) (Nat.le_refl _))))).ext m13).ext m14).ext m15).ext m16).ext md1).ext m17).ext m18).ext m19).ext m20).rng rfl rfl rfl) rfl rfl rfl ?_
  refine WL.det (op_move rfl) rfl rfl rfl ?_
  refine WL.call (oc_call (vs := [.agg #[.slice (some ⟨bLr'2, 0, none⟩) nLr nLr, .int .i64 ((i : Nat) : Int), .int .i64 Tk, .float .f32 Tc0, .float .f32 Tc1, .float .f32 Tc2, .float .f32 Ts0, .float .f32 Ts1, .int .i64 Dk, .float .f32 Dc0, .float .f32 Dc1, .float .f32 Dc2, .float .f32 Ds0, .float .f32 Ds1, .float .f32 g], .int .i64 1]) (cap := []) rfl rfl rfl Try.call28 (c_markString nLr nLr bLr'2 xLr ((i : Nat) : Int) Tk Tc0 Tc1 Tc2 Ts0 Ts1 Dk Dc0 Dc1 Dc2 Ds0 Ds1 g 1 lnLr (by omega) (by omega) w21 ((((((((((((((r7.ext m8).mod m9 (notin1 (Nat.ne_of_lt (Nat.lt_of_lt_of_le r7.lt (Nat.le_refl _))))).ext m10).ext m11).mod m12 (notin1 (Nat.ne_of_lt (Nat.lt_of_lt_of_le (Nat.lt_of_lt_of_le r7.lt (Nat.le_trans (Nat.le_trans m8.size m9.size) m10.size)) (Nat.le_refl _))))).ext m13).ext m14).ext m15).ext m16).ext md1).ext m17).ext m18).ext m19).ext m20))) rfl rfl (ltb rfl) ?_
  rintro _ w22 ⟨rfl, r16, m21⟩
  refine WL.det (op_assign rfl) rfl rfl rfl ?_
  refine WL.end ?_
  refine NE.code ?_
  refine CE.seq ?_
  refine CE.seq ?_
  refine CE.region ?_
  refine WL.det (op_move rfl) rfl rfl rfl ?_
  refine WL.det (op_lti_f rfl rfl (by omega)) rfl rfl rfl ?_
  refine WL.det (op_move rfl) rfl rfl rfl ?_
  refine WL.yes rfl rfl rfl (ltb rfl) rfl rfl ?_
  refine WL.det (op_loadA (i := 0) (cs := [.slice (some ⟨b'2, 0, none⟩) nLr c'2, .int .i64 (((i + 1) % nLr : Nat) : Int), .int .i64 Tk, .float .f32 Tc0, .float .f32 Tc1, .float .f32 Tc2, .float .f32 (stepS Tk Tc0 Tc1 Tc2 Ts0 Ts1 (xLr.getD i 0)), .float .f32 (stepT Tk Tc0 Tc1 Tc2 Ts0 Ts1 (xLr.getD i 0)), .int .i64 Dk, .float .f32 Dc0, .float .f32 Dc1, .float .f32 Dc2, .float .f32 (stepS Dk Dc0 Dc1 Dc2 Ds0 Ds1 (stepY Tk Tc0 Tc1 Tc2 Ts0 Ts1 (xLr.getD i 0))), .float .f32 (stepT Dk Dc0 Dc1 Dc2 Ds0 Ds1 (stepY Tk Tc0 Tc1 Tc2 Ts0 Ts1 (xLr.getD i 0))), .float .f32 g]) rfl Try.isAgg33 Try.sizeOf33 ((((((((((r14.ext m13).ext m14).ext m15).ext m16).ext md1).ext m17).ext m18).ext m19).ext m20).mod m21 (notin1 (Nat.ne_of_gt (Nat.lt_of_lt_of_le (Nat.lt_of_lt_of_le r7.lt (Nat.le_trans (Nat.le_trans m8.size m9.size) m10.size)) (Nat.le_refl _))))).rng rfl rfl rfl) rfl rfl rfl ?_
  refine WL.yes rfl rfl rfl (ltb rfl) rfl rfl ?_
  refine WL.det (op_loadA (i := 0) (cs := [.slice (some ⟨b'1, 0, none⟩) nLr c'1, .int .i64 (((i + 1) % nLr : Nat) : Int), .int .i64 Tk, .float .f32 Tc0, .float .f32 Tc1, .float .f32 Tc2, .float .f32 (stepS Tk Tc0 Tc1 Tc2 Ts0 Ts1 (xLr.getD i 0)), .float .f32 (stepT Tk Tc0 Tc1 Tc2 Ts0 Ts1 (xLr.getD i 0)), .int .i64 Dk, .float .f32 Dc0, .float .f32 Dc1, .float .f32 Dc2, .float .f32 (stepS Dk Dc0 Dc1 Dc2 Ds0 Ds1 (stepY Tk Tc0 Tc1 Tc2 Ts0 Ts1 (xLr.getD i 0))), .float .f32 (stepT Dk Dc0 Dc1 Dc2 Ds0 Ds1 (stepY Tk Tc0 Tc1 Tc2 Ts0 Ts1 (xLr.getD i 0))), .float .f32 g]) rfl Try.isAgg33 Try.sizeOf33 ((((((((((((((((r6.ext m7).ext m8).mod m9 (notin1 (Nat.ne_of_lt (Nat.lt_of_lt_of_le (Nat.lt_of_lt_of_le r4.lt (Nat.le_trans m6.size m7.size)) (Nat.le_refl _))))).ext m10).ext m11).mod m12 (notin1 (Nat.ne_of_lt (Nat.lt_of_lt_of_le (Nat.lt_of_lt_of_le r4.lt (Nat.le_trans (Nat.le_trans (Nat.le_trans (Nat.le_trans m6.size m7.size) m8.size) m9.size) m10.size)) (Nat.le_refl _))))).ext m13).ext m14).ext m15).ext m16).ext md1).ext m17).ext m18).ext m19).ext m20).mod m21 (notin1 (Nat.ne_of_lt (Nat.lt_of_lt_of_le (Nat.lt_of_lt_of_le r4.lt m6.size) ge3)))).rng rfl rfl rfl) rfl rfl rfl ?_
  refine WL.yes rfl rfl rfl (ltb rfl) rfl rfl ?_
  refine WL.call (oc_call (vs := [.agg #[.slice (some ⟨b'2, 0, none⟩) nLr c'2, .int .i64 (((i + 1) % nLr : Nat) : Int), .int .i64 Tk, .float .f32 Tc0, .float .f32 Tc1, .float .f32 Tc2, .float .f32 (stepS Tk Tc0 Tc1 Tc2 Ts0 Ts1 (xLr.getD i 0)), .float .f32 (stepT Tk Tc0 Tc1 Tc2 Ts0 Ts1 (xLr.getD i 0)), .int .i64 Dk, .float .f32 Dc0, .float .f32 Dc1, .float .f32 Dc2, .float .f32 (stepS Dk Dc0 Dc1 Dc2 Ds0 Ds1 (stepY Tk Tc0 Tc1 Tc2 Ts0 Ts1 (xLr.getD i 0))), .float .f32 (stepT Dk Dc0 Dc1 Dc2 Ds0 Ds1 (stepY Tk Tc0 Tc1 Tc2 Ts0 Ts1 (xLr.getD i 0))), .float .f32 g], .agg #[.slice (some ⟨b'1, 0, none⟩) nLr c'1, .int .i64 (((i + 1) % nLr : Nat) : Int), .int .i64 Tk, .float .f32 Tc0, .float .f32 Tc1, .float .f32 Tc2, .float .f32 (stepS Tk Tc0 Tc1 Tc2 Ts0 Ts1 (xLr.getD i 0)), .float .f32 (stepT Tk Tc0 Tc1 Tc2 Ts0 Ts1 (xLr.getD i 0)), .int .i64 Dk, .float .f32 Dc0, .float .f32 Dc1, .float .f32 Dc2, .float .f32 (stepS Dk Dc0 Dc1 Dc2 Ds0 Ds1 (stepY Tk Tc0 Tc1 Tc2 Ts0 Ts1 (xLr.getD i 0))), .float .f32 (stepT Dk Dc0 Dc1 Dc2 Ds0 Ds1 (stepY Tk Tc0 Tc1 Tc2 Ts0 Ts1 (xLr.getD i 0))), .float .f32 g]]) (cap := []) rfl rfl rfl Try.call27 (c_eqString nLr c'2 (some ⟨b'2, 0, none⟩) b'2 0 (xLr.set i (keptF (fop .add .f32 (fop .mul .f32 (stepY Dk Dc0 Dc1 Dc2 Ds0 Ds1 (stepY Tk Tc0 Tc1 Tc2 Ts0 Ts1 (xLr.getD i 0))) g) a))) (((i + 1) % nLr : Nat) : Int) Tk Tc0 Tc0 Tc1 Tc1 Tc2 Tc2 (stepS Tk Tc0 Tc1 Tc2 Ts0 Ts1 (xLr.getD i 0)) (stepS Tk Tc0 Tc1 Tc2 Ts0 Ts1 (xLr.getD i 0)) (stepT Tk Tc0 Tc1 Tc2 Ts0 Ts1 (xLr.getD i 0)) (stepT Tk Tc0 Tc1 Tc2 Ts0 Ts1 (xLr.getD i 0)) Dk Dc0 Dc0 Dc1 Dc1 Dc2 Dc2 (stepS Dk Dc0 Dc1 Dc2 Ds0 Ds1 (stepY Tk Tc0 Tc1 Tc2 Ts0 Ts1 (xLr.getD i 0))) (stepS Dk Dc0 Dc1 Dc2 Ds0 Ds1 (stepY Tk Tc0 Tc1 Tc2 Ts0 Ts1 (xLr.getD i 0))) (stepT Dk Dc0 Dc1 Dc2 Ds0 Ds1 (stepY Tk Tc0 Tc1 Tc2 Ts0 Ts1 (xLr.getD i 0))) (stepT Dk Dc0 Dc1 Dc2 Ds0 Ds1 (stepY Tk Tc0 Tc1 Tc2 Ts0 Ts1 (xLr.getD i 0))) g g c'1 (some ⟨b'1, 0, none⟩) b'1 0 Tc0 Tc1 Tc2 (stepS Tk Tc0 Tc1 Tc2 Ts0 Ts1 (xLr.getD i 0)) (stepT Tk Tc0 Tc1 Tc2 Ts0 Ts1 (xLr.getD i 0)) Dc0 Dc1 Dc2 (stepS Dk Dc0 Dc1 Dc2 Ds0 Ds1 (stepY Tk Tc0 Tc1 Tc2 Ts0 Ts1 (xLr.getD i 0))) (stepT Dk Dc0 Dc1 Dc2 Ds0 Ds1 (stepY Tk Tc0 Tc1 Tc2 Ts0 Ts1 (xLr.getD i 0))) g ((List.length_set).trans lnLr) (fun _ => rfl) (fun _ => rfl) rfl rfl rfl rfl rfl rfl rfl rfl rfl rfl rfl rfl rfl rfl rfl rfl rfl rfl rfl rfl rfl rfl (by omega) w22 ((((((((((((r11.ext m11).mod m12 (notin1 (Nat.ne_of_lt (Nat.lt_of_lt_of_le r11.lt (Nat.le_refl _))))).ext m13).ext m14).ext m15).ext m16).ext md1).ext m17).ext m18).ext m19).ext m20).mod m21 (notin1 (Nat.ne_of_gt (Nat.lt_of_lt_of_le (Nat.lt_of_lt_of_le r7.lt (Nat.le_trans m8.size m9.size)) ge4)))).rng ((((((((((((((((((r3.ext m5).mod m6 (notin1 (Nat.ne_of_lt (Nat.lt_of_lt_of_le r3.lt (Nat.le_refl _))))).ext m7).ext m8).mod m9 (notin1 (Nat.ne_of_lt (Nat.lt_of_lt_of_le (Nat.lt_of_lt_of_le r3.lt (Nat.le_trans (Nat.le_trans m5.size m6.size) m7.size)) (Nat.le_refl _))))).ext m10).ext m11).mod m12 (notin1 (Nat.ne_of_lt (Nat.lt_of_lt_of_le (Nat.lt_of_lt_of_le r3.lt (Nat.le_trans (Nat.le_trans (Nat.le_trans (Nat.le_trans (Nat.le_trans m5.size m6.size) m7.size) m8.size) m9.size) m10.size)) (Nat.le_refl _))))).ext m13).ext m14).ext m15).ext m16).ext md1).ext m17).ext m18).ext m19).ext m20).mod m21 (notin1 (Nat.ne_of_lt (Nat.lt_of_lt_of_le (Nat.lt_of_lt_of_le r3.lt (Nat.le_trans m5.size m6.size)) ge3)))).rng)) rfl rfl (ltb rfl) ?_
  rintro _ w23 ⟨rfl, m22⟩
  refine WL.yes rfl rfl rfl (ltb rfl) rfl rfl ?_
  refine WL.det (op_not rfl) rfl rfl rfl ?_
  refine WL.det (op_pick_f rfl rfl rfl) rfl rfl rfl ?_
  refine WL.det (op_move rfl) rfl rfl rfl ?_
  refine WL.yes rfl rfl rfl (ltb rfl) rfl rfl ?_
  refine WL.det (op_move rfl) rfl rfl rfl ?_
  refine WL.yes rfl rfl rfl (ltb rfl) rfl rfl ?_
  refine WL.op (op_widen (e := (wide (xLr.getD i 0))) rfl rfl Try.runUnderlying27 Try.runUnderlying67 rfl) rfl rfl (ltb rfl) ?_
  rintro _ w24 ⟨⟨f3, rfl, hf3, lf3⟩, m23⟩
  refine WL.yes rfl rfl rfl (ltb rfl) rfl rfl ?_
  refine WL.det (op_move rfl) rfl rfl rfl ?_
  refine WL.yes rfl rfl rfl (ltb rfl) rfl rfl ?_
  refine WL.op (op_widen (e := (wide (xLr.getD i 0))) rfl rfl Try.runUnderlying27 Try.runUnderlying67 rfl) rfl rfl (ltb rfl) ?_
  rintro _ w25 ⟨⟨f4, rfl, hf4, lf4⟩, m24⟩
  refine WL.yes rfl rfl rfl (ltb rfl) rfl rfl ?_
  refine WL.call (oc_call (vs := [.float .f64 f3, .float .f64 f4]) (cap := []) rfl rfl rfl Try.call39 (c_sameFloat f3 (wide (xLr.getD i 0)) f4 (wide (xLr.getD i 0)) hf3 hf4 w25)) rfl rfl (ltb rfl) ?_
  rintro _ w26 ⟨rfl, m25⟩
  refine WL.yes rfl rfl rfl (ltb rfl) rfl rfl ?_
  refine WL.det (op_not rfl) rfl rfl rfl ?_
  refine WL.det (op_pick_f rfl rfl rfl) rfl rfl rfl ?_
  refine WL.det (op_move rfl) rfl rfl rfl ?_
  refine WL.yes rfl rfl rfl (ltb rfl) rfl (bnot_t (sameF_self _)) ?_
  refine WL.det (op_move rfl) rfl rfl rfl ?_
  refine WL.yes rfl rfl rfl (ltb rfl) rfl (bnot_t (sameF_self _)) ?_
  refine WL.det (op_move rfl) rfl rfl rfl ?_
  refine WL.yes rfl rfl rfl (ltb rfl) rfl (bnot_t (sameF_self _)) ?_
  refine WL.det (op_nei rfl rfl) rfl rfl rfl ?_
  refine WL.det (op_pick_f rfl (bnot_t (sameF_self _)) rfl) rfl rfl rfl ?_
  refine WL.end ?_
  refine NE.code ?_
  refine CE.cond_f rfl rfl ?_
  refine CE.skip' ?_
  refine NE.code ?_
  refine CE.seq ?_
  refine CE.region ?_
  refine WL.det (op_assign rfl) rfl rfl rfl ?_
  refine WL.end ?_
  refine NE.code ?_
  refine CE.seq ?_
  refine CE.region ?_
  refine WL.det (op_loadA (i := 0) (cs := [.slice (some ⟨b'2, 0, none⟩) nLr c'2, .int .i64 (((i + 1) % nLr : Nat) : Int), .int .i64 Tk, .float .f32 Tc0, .float .f32 Tc1, .float .f32 Tc2, .float .f32 (stepS Tk Tc0 Tc1 Tc2 Ts0 Ts1 (xLr.getD i 0)), .float .f32 (stepT Tk Tc0 Tc1 Tc2 Ts0 Ts1 (xLr.getD i 0)), .int .i64 Dk, .float .f32 Dc0, .float .f32 Dc1, .float .f32 Dc2, .float .f32 (stepS Dk Dc0 Dc1 Dc2 Ds0 Ds1 (stepY Tk Tc0 Tc1 Tc2 Ts0 Ts1 (xLr.getD i 0))), .float .f32 (stepT Dk Dc0 Dc1 Dc2 Ds0 Ds1 (stepY Tk Tc0 Tc1 Tc2 Ts0 Ts1 (xLr.getD i 0))), .float .f32 g]) rfl Try.isAgg33 Try.sizeOf33 ((((((((((((((r14.ext m13).ext m14).ext m15).ext m16).ext md1).ext m17).ext m18).ext m19).ext m20).mod m21 (notin1 (Nat.ne_of_gt (Nat.lt_of_lt_of_le (Nat.lt_of_lt_of_le r7.lt (Nat.le_trans (Nat.le_trans m8.size m9.size) m10.size)) (Nat.le_refl _))))).ext m22).ext m23).ext m24).ext m25).rng rfl rfl rfl) rfl rfl rfl ?_
  refine WL.det (op_move rfl) rfl rfl rfl ?_
  refine WL.call (oc_call (vs := [.agg #[.slice (some ⟨b'2, 0, none⟩) nLr c'2, .int .i64 (((i + 1) % nLr : Nat) : Int), .int .i64 Tk, .float .f32 Tc0, .float .f32 Tc1, .float .f32 Tc2, .float .f32 (stepS Tk Tc0 Tc1 Tc2 Ts0 Ts1 (xLr.getD i 0)), .float .f32 (stepT Tk Tc0 Tc1 Tc2 Ts0 Ts1 (xLr.getD i 0)), .int .i64 Dk, .float .f32 Dc0, .float .f32 Dc1, .float .f32 Dc2, .float .f32 (stepS Dk Dc0 Dc1 Dc2 Ds0 Ds1 (stepY Tk Tc0 Tc1 Tc2 Ts0 Ts1 (xLr.getD i 0))), .float .f32 (stepT Dk Dc0 Dc1 Dc2 Ds0 Ds1 (stepY Tk Tc0 Tc1 Tc2 Ts0 Ts1 (xLr.getD i 0))), .float .f32 g], .int .i64 1]) (cap := []) rfl rfl rfl Try.call28 (c_markString nLr c'2 b'2 (xLr.set i (keptF (fop .add .f32 (fop .mul .f32 (stepY Dk Dc0 Dc1 Dc2 Ds0 Ds1 (stepY Tk Tc0 Tc1 Tc2 Ts0 Ts1 (xLr.getD i 0))) g) a))) (((i + 1) % nLr : Nat) : Int) Tk Tc0 Tc1 Tc2 (stepS Tk Tc0 Tc1 Tc2 Ts0 Ts1 (xLr.getD i 0)) (stepT Tk Tc0 Tc1 Tc2 Ts0 Ts1 (xLr.getD i 0)) Dk Dc0 Dc1 Dc2 (stepS Dk Dc0 Dc1 Dc2 Ds0 Ds1 (stepY Tk Tc0 Tc1 Tc2 Ts0 Ts1 (xLr.getD i 0))) (stepT Dk Dc0 Dc1 Dc2 Ds0 Ds1 (stepY Tk Tc0 Tc1 Tc2 Ts0 Ts1 (xLr.getD i 0))) g 1 ((List.length_set).trans lnLr) (by omega) (by omega) w26 ((((((((((((((((r11.ext m11).mod m12 (notin1 (Nat.ne_of_lt (Nat.lt_of_lt_of_le r11.lt (Nat.le_refl _))))).ext m13).ext m14).ext m15).ext m16).ext md1).ext m17).ext m18).ext m19).ext m20).mod m21 (notin1 (Nat.ne_of_gt (Nat.lt_of_lt_of_le (Nat.lt_of_lt_of_le r7.lt (Nat.le_trans m8.size m9.size)) ge4)))).ext m22).ext m23).ext m24).ext m25))) rfl rfl (ltb rfl) ?_
  rintro _ w27 ⟨rfl, r17, m26⟩
  refine WL.det (op_assign rfl) rfl rfl rfl ?_
  refine WL.end ?_
  refine NE.code ?_
  refine CE.seq ?_
  refine CE.region ?_
  refine WL.det (op_assign rfl) rfl rfl rfl ?_
  refine WL.end ?_
  refine NE.code ?_
  refine CE.seq ?_
  refine CE.region ?_
  refine WL.det (op_loadA (i := 0) (cs := [.slice (some ⟨b'2, 0, none⟩) nLr c'2, .int .i64 (((i + 1) % nLr : Nat) : Int), .int .i64 Tk, .float .f32 Tc0, .float .f32 Tc1, .float .f32 Tc2, .float .f32 (stepS Tk Tc0 Tc1 Tc2 Ts0 Ts1 (xLr.getD i 0)), .float .f32 (stepT Tk Tc0 Tc1 Tc2 Ts0 Ts1 (xLr.getD i 0)), .int .i64 Dk, .float .f32 Dc0, .float .f32 Dc1, .float .f32 Dc2, .float .f32 (stepS Dk Dc0 Dc1 Dc2 Ds0 Ds1 (stepY Tk Tc0 Tc1 Tc2 Ts0 Ts1 (xLr.getD i 0))), .float .f32 (stepT Dk Dc0 Dc1 Dc2 Ds0 Ds1 (stepY Tk Tc0 Tc1 Tc2 Ts0 Ts1 (xLr.getD i 0))), .float .f32 g]) rfl Try.isAgg33 Try.sizeOf33 (((((((((((((((r14.ext m13).ext m14).ext m15).ext m16).ext md1).ext m17).ext m18).ext m19).ext m20).mod m21 (notin1 (Nat.ne_of_gt (Nat.lt_of_lt_of_le (Nat.lt_of_lt_of_le r7.lt (Nat.le_trans (Nat.le_trans m8.size m9.size) m10.size)) (Nat.le_refl _))))).ext m22).ext m23).ext m24).ext m25).mod m26 (notin1 (Nat.ne_of_gt (Nat.lt_of_lt_of_le r11.lt (Nat.le_refl _))))).rng rfl rfl rfl) rfl rfl rfl ?_
  refine WL.det (op_move rfl) rfl rfl rfl ?_
  refine WL.call (oc_call (vs := [.agg #[.slice (some ⟨b'2, 0, none⟩) nLr c'2, .int .i64 (((i + 1) % nLr : Nat) : Int), .int .i64 Tk, .float .f32 Tc0, .float .f32 Tc1, .float .f32 Tc2, .float .f32 (stepS Tk Tc0 Tc1 Tc2 Ts0 Ts1 (xLr.getD i 0)), .float .f32 (stepT Tk Tc0 Tc1 Tc2 Ts0 Ts1 (xLr.getD i 0)), .int .i64 Dk, .float .f32 Dc0, .float .f32 Dc1, .float .f32 Dc2, .float .f32 (stepS Dk Dc0 Dc1 Dc2 Ds0 Ds1 (stepY Tk Tc0 Tc1 Tc2 Ts0 Ts1 (xLr.getD i 0))), .float .f32 (stepT Dk Dc0 Dc1 Dc2 Ds0 Ds1 (stepY Tk Tc0 Tc1 Tc2 Ts0 Ts1 (xLr.getD i 0))), .float .f32 g], .int .i64 1]) (cap := []) rfl rfl rfl Try.call29 (c_heldString nLr c'2 b'2 (marks (xLr.set i (keptF (fop .add .f32 (fop .mul .f32 (stepY Dk Dc0 Dc1 Dc2 Ds0 Ds1 (stepY Tk Tc0 Tc1 Tc2 Ts0 Ts1 (xLr.getD i 0))) g) a))) 1 nLr) (((i + 1) % nLr : Nat) : Int) Tk Tc0 Tc1 Tc2 (stepS Tk Tc0 Tc1 Tc2 Ts0 Ts1 (xLr.getD i 0)) (stepT Tk Tc0 Tc1 Tc2 Ts0 Ts1 (xLr.getD i 0)) Dk Dc0 Dc1 Dc2 (stepS Dk Dc0 Dc1 Dc2 Ds0 Ds1 (stepY Tk Tc0 Tc1 Tc2 Ts0 Ts1 (xLr.getD i 0))) (stepT Dk Dc0 Dc1 Dc2 Ds0 Ds1 (stepY Tk Tc0 Tc1 Tc2 Ts0 Ts1 (xLr.getD i 0))) g 1 (marks_len ((List.length_set).trans lnLr) (Nat.le_refl _)) (by omega) (by omega) (by first | assumption | exact marks_held _ _ _) w27 r17.rng)) rfl rfl (ltb rfl) ?_
  rintro _ w28 ⟨rfl, m27⟩
  refine WL.det (op_assign rfl) rfl rfl rfl ?_
  refine WL.end ?_
  refine NE.code ?_
  refine CE.seq ?_
  refine CE.seq ?_
  refine CE.region ?_
  refine WL.det (op_move rfl) rfl rfl rfl ?_
  refine WL.det (op_lti_f rfl rfl (by omega)) rfl rfl rfl ?_
  refine WL.end ?_
  refine NE.code ?_
  refine CE.cond_f rfl rfl ?_
  refine CE.skip' ?_
  refine NE.code ?_
  refine CE.seq ?_
  refine CE.seq ?_
  refine CE.region ?_
  refine WL.det (op_move rfl) rfl rfl rfl ?_
  refine WL.det (op_move rfl) rfl rfl rfl ?_
  refine WL.det (op_nei_f rfl rfl rfl) rfl rfl rfl ?_
  refine WL.end ?_
  refine NE.code ?_
  refine CE.cond_f rfl rfl ?_
  refine CE.skip' ?_
  refine NE.code ?_
  refine CE.seq ?_
  refine CE.region ?_
  refine WL.det (op_loadA (i := 0) (cs := [.slice ALr nLr cLr, .int .i64 ((i : Nat) : Int), .int .i64 Tk, .float .f32 Tc0, .float .f32 Tc1, .float .f32 Tc2, .float .f32 Ts0, .float .f32 Ts1, .int .i64 Dk, .float .f32 Dc0, .float .f32 Dc1, .float .f32 Dc2, .float .f32 Ds0, .float .f32 Ds1, .float .f32 g]) rfl Try.isAgg51 Try.sizeOf51 (((((((((((((((((((((((((((r1.ext m2).ext m3).ext m4).ext m5).mod m6 (notin1 (Nat.ne_of_lt (Nat.lt_of_lt_of_le (Nat.lt_of_lt_of_le r1.lt (Nat.le_trans (Nat.le_trans m2.size m3.size) m4.size)) (Nat.le_refl _))))).ext m7).ext m8).mod m9 (notin1 (Nat.ne_of_lt (Nat.lt_of_lt_of_le (Nat.lt_of_lt_of_le r1.lt (Nat.le_trans (Nat.le_trans (Nat.le_trans (Nat.le_trans (Nat.le_trans m2.size m3.size) m4.size) m5.size) m6.size) m7.size)) (Nat.le_refl _))))).ext m10).ext m11).mod m12 (notin1 (Nat.ne_of_lt (Nat.lt_of_lt_of_le (Nat.lt_of_lt_of_le r1.lt (Nat.le_trans (Nat.le_trans (Nat.le_trans (Nat.le_trans (Nat.le_trans (Nat.le_trans (Nat.le_trans (Nat.le_trans m2.size m3.size) m4.size) m5.size) m6.size) m7.size) m8.size) m9.size) m10.size)) (Nat.le_refl _))))).ext m13).ext m14).ext m15).ext m16).ext md1).ext m17).ext m18).ext m19).ext m20).mod m21 (notin1 (Nat.ne_of_lt (Nat.lt_of_lt_of_le (Nat.lt_of_lt_of_le r1.lt (Nat.le_trans (Nat.le_trans (Nat.le_trans (Nat.le_trans m2.size m3.size) m4.size) m5.size) m6.size)) ge3)))).ext m22).ext m23).ext m24).ext m25).mod m26 (notin1 (Nat.ne_of_lt (Nat.lt_of_lt_of_le (Nat.lt_of_lt_of_le r1.lt (Nat.le_trans (Nat.le_trans (Nat.le_trans (Nat.le_trans (Nat.le_trans (Nat.le_trans (Nat.le_trans m2.size m3.size) m4.size) m5.size) m6.size) m7.size) m8.size) m9.size)) ge4)))).ext m27).rng rfl rfl rfl) rfl rfl rfl ?_
  refine WL.call (oc_call (vs := [.agg #[.slice ALr nLr cLr, .int .i64 ((i : Nat) : Int), .int .i64 Tk, .float .f32 Tc0, .float .f32 Tc1, .float .f32 Tc2, .float .f32 Ts0, .float .f32 Ts1, .int .i64 Dk, .float .f32 Dc0, .float .f32 Dc1, .float .f32 Dc2, .float .f32 Ds0, .float .f32 Ds1, .float .f32 g]]) (cap := []) rfl rfl rfl Try.call26 (c_toString nLr cLr ALr bLr oLr xLr ((i : Nat) : Int) Tk Tc0 Tc1 Tc2 Ts0 Ts1 Dk Dc0 Dc1 Dc2 Ds0 Ds1 g lnLr hALr (by omega) w28 ((Rng.young rLr (((((Rng.young rLr ((((((((((Rng.young rLr (((Rng.young rLr (((Rng.young rLr (((((rLr.ext m1).ext m2).ext m3).ext m4).ext m5) m6 rfl (Nat.le_trans (Nat.le_trans (Nat.le_trans (Nat.le_trans m1.size m2.size) m3.size) m4.size) (Nat.le_refl _))).ext m7).ext m8) m9 rfl (Nat.le_trans (Nat.le_trans (Nat.le_trans (Nat.le_trans (Nat.le_trans (Nat.le_trans (Nat.le_trans m1.size m2.size) m3.size) m4.size) m5.size) m6.size) m7.size) (Nat.le_refl _))).ext m10).ext m11) m12 rfl (Nat.le_trans (Nat.le_trans (Nat.le_trans (Nat.le_trans (Nat.le_trans (Nat.le_trans (Nat.le_trans (Nat.le_trans (Nat.le_trans (Nat.le_trans m1.size m2.size) m3.size) m4.size) m5.size) m6.size) m7.size) m8.size) m9.size) m10.size) (Nat.le_refl _))).ext m13).ext m14).ext m15).ext m16).ext md1).ext m17).ext m18).ext m19).ext m20) m21 rfl (Nat.le_trans (Nat.le_trans (Nat.le_trans (Nat.le_trans (Nat.le_trans (Nat.le_trans m1.size m2.size) m3.size) m4.size) m5.size) m6.size) ge3)).ext m22).ext m23).ext m24).ext m25) m26 rfl (Nat.le_trans (Nat.le_trans (Nat.le_trans (Nat.le_trans (Nat.le_trans (Nat.le_trans (Nat.le_trans (Nat.le_trans (Nat.le_trans m1.size m2.size) m3.size) m4.size) m5.size) m6.size) m7.size) m8.size) m9.size) ge4)).ext m27))) rfl rfl (ltb rfl) ?_
  rintro _ w29 ⟨bLr'4, rfl, r18, ge6, m28⟩
  refine WL.det (op_move rfl) rfl rfl rfl ?_
  refine WL.call (oc_call (vs := [.agg #[.slice (some ⟨bLr'4, 0, none⟩) nLr nLr, .int .i64 ((i : Nat) : Int), .int .i64 Tk, .float .f32 Tc0, .float .f32 Tc1, .float .f32 Tc2, .float .f32 Ts0, .float .f32 Ts1, .int .i64 Dk, .float .f32 Dc0, .float .f32 Dc1, .float .f32 Dc2, .float .f32 Ds0, .float .f32 Ds1, .float .f32 g], .float .f32 a]) (cap := []) rfl rfl rfl Try.call34 (c_iStepStr nLr nLr bLr'4 xLr i Tk Tc0 Tc1 Tc2 Ts0 Ts1 Dk Dc0 Dc1 Dc2 Ds0 Ds1 g a lnLr (by omega) (by omega) (by first | assumption | exact W32.get (by assumption) _ | decide +kernel) (by first | assumption | exact W32.get (by assumption) _ | decide +kernel) (by first | assumption | exact W32.get (by assumption) _ | decide +kernel) (by first | assumption | exact W32.get (by assumption) _ | decide +kernel) la (by first | assumption | exact W32.set (by assumption) (by first | assumption | exact wid_lt (by assumption)) | exact W32.zeros _ | exact W32.nil) (by assumption) w29 r18.rng)) rfl rfl (ltb rfl) ?_
  rintro _ w30 ⟨b'3, c'3, rfl, r19, ge7, m29⟩
  refine WL.det (op_move rfl) rfl rfl rfl ?_
  refine WL.det (op_extract rfl rfl) rfl rfl rfl ?_
  refine WL.det (op_extract rfl rfl) rfl rfl rfl ?_
  refine WL.det (op_extract rfl rfl) rfl rfl rfl ?_
  refine WL.op (op_alloc (cs := [.slice none 0 0, .int .i64 0, .int .i64 0, .float .f32 0, .float .f32 0, .float .f32 0, .float .f32 0, .float .f32 0, .int .i64 0, .float .f32 0, .float .f32 0, .float .f32 0, .float .f32 0, .float .f32 0, .float .f32 0]) Try.zeroValue33 rfl) rfl rfl (ltb rfl) ?_
  rintro _ w31 ⟨rfl, r20, m30, z8⟩
  refine WL.op0 (op_store (i := 0) (cs := [.slice (some ⟨b'3, 0, none⟩) nLr c'3, .int .i64 (((i + 1) % nLr : Nat) : Int), .int .i64 Tk, .float .f32 Tc0, .float .f32 Tc1, .float .f32 Tc2, .float .f32 (stepS Tk Tc0 Tc1 Tc2 Ts0 Ts1 (xLr.getD i 0)), .float .f32 (stepT Tk Tc0 Tc1 Tc2 Ts0 Ts1 (xLr.getD i 0)), .int .i64 Dk, .float .f32 Dc0, .float .f32 Dc1, .float .f32 Dc2, .float .f32 (stepS Dk Dc0 Dc1 Dc2 Ds0 Ds1 (stepY Tk Tc0 Tc1 Tc2 Ts0 Ts1 (xLr.getD i 0))), .float .f32 (stepT Dk Dc0 Dc1 Dc2 Ds0 Ds1 (stepY Tk Tc0 Tc1 Tc2 Ts0 Ts1 (xLr.getD i 0))), .float .f32 g]) rfl rfl rfl Try.sizeOf33 rfl r20 rfl (Nat.le_of_ble_eq_true rfl) rfl) rfl rfl ?_
  rintro _ w32 ⟨r21, m31, z9⟩
  have r22 : Row w32 w30.heap.size 0 [.slice (some ⟨b'3, 0, none⟩) nLr c'3, .int .i64 (((i + 1) % nLr : Nat) : Int), .int .i64 Tk, .float .f32 Tc0, .float .f32 Tc1, .float .f32 Tc2, .float .f32 (stepS Tk Tc0 Tc1 Tc2 Ts0 Ts1 (xLr.getD i 0)), .float .f32 (stepT Tk Tc0 Tc1 Tc2 Ts0 Ts1 (xLr.getD i 0)), .int .i64 Dk, .float .f32 Dc0, .float .f32 Dc1, .float .f32 Dc2, .float .f32 (stepS Dk Dc0 Dc1 Dc2 Ds0 Ds1 (stepY Tk Tc0 Tc1 Tc2 Ts0 Ts1 (xLr.getD i 0))), .float .f32 (stepT Dk Dc0 Dc1 Dc2 Ds0 Ds1 (stepY Tk Tc0 Tc1 Tc2 Ts0 Ts1 (xLr.getD i 0))), .float .f32 g] := Row.congr r21 rfl
  refine WL.det (op_assign rfl) rfl rfl rfl ?_
  refine WL.det (op_assign rfl) rfl rfl rfl ?_
  refine WL.end ?_
  refine NE.code ?_
  refine CE.seq ?_
  refine CE.seq ?_
  refine CE.region ?_
  refine WL.det (op_loadA (i := 0) (cs := [.slice (some ⟨b'3, 0, none⟩) nLr c'3, .int .i64 (((i + 1) % nLr : Nat) : Int), .int .i64 Tk, .float .f32 Tc0, .float .f32 Tc1, .float .f32 Tc2, .float .f32 (stepS Tk Tc0 Tc1 Tc2 Ts0 Ts1 (xLr.getD i 0)), .float .f32 (stepT Tk Tc0 Tc1 Tc2 Ts0 Ts1 (xLr.getD i 0)), .int .i64 Dk, .float .f32 Dc0, .float .f32 Dc1, .float .f32 Dc2, .float .f32 (stepS Dk Dc0 Dc1 Dc2 Ds0 Ds1 (stepY Tk Tc0 Tc1 Tc2 Ts0 Ts1 (xLr.getD i 0))), .float .f32 (stepT Dk Dc0 Dc1 Dc2 Ds0 Ds1 (stepY Tk Tc0 Tc1 Tc2 Ts0 Ts1 (xLr.getD i 0))), .float .f32 g]) rfl Try.isAgg33 Try.sizeOf33 r22.rng rfl rfl rfl) rfl rfl rfl ?_
  refine WL.det (op_loadA (i := 0) (cs := [.slice (some ⟨b'1, 0, none⟩) nLr c'1, .int .i64 (((i + 1) % nLr : Nat) : Int), .int .i64 Tk, .float .f32 Tc0, .float .f32 Tc1, .float .f32 Tc2, .float .f32 (stepS Tk Tc0 Tc1 Tc2 Ts0 Ts1 (xLr.getD i 0)), .float .f32 (stepT Tk Tc0 Tc1 Tc2 Ts0 Ts1 (xLr.getD i 0)), .int .i64 Dk, .float .f32 Dc0, .float .f32 Dc1, .float .f32 Dc2, .float .f32 (stepS Dk Dc0 Dc1 Dc2 Ds0 Ds1 (stepY Tk Tc0 Tc1 Tc2 Ts0 Ts1 (xLr.getD i 0))), .float .f32 (stepT Dk Dc0 Dc1 Dc2 Ds0 Ds1 (stepY Tk Tc0 Tc1 Tc2 Ts0 Ts1 (xLr.getD i 0))), .float .f32 g]) rfl Try.isAgg33 Try.sizeOf33 ((((((((((((((((((((((((((r6.ext m7).ext m8).mod m9 (notin1 (Nat.ne_of_lt (Nat.lt_of_lt_of_le (Nat.lt_of_lt_of_le r4.lt (Nat.le_trans m6.size m7.size)) (Nat.le_refl _))))).ext m10).ext m11).mod m12 (notin1 (Nat.ne_of_lt (Nat.lt_of_lt_of_le (Nat.lt_of_lt_of_le r4.lt (Nat.le_trans (Nat.le_trans (Nat.le_trans (Nat.le_trans m6.size m7.size) m8.size) m9.size) m10.size)) (Nat.le_refl _))))).ext m13).ext m14).ext m15).ext m16).ext md1).ext m17).ext m18).ext m19).ext m20).mod m21 (notin1 (Nat.ne_of_lt (Nat.lt_of_lt_of_le (Nat.lt_of_lt_of_le r4.lt m6.size) ge3)))).ext m22).ext m23).ext m24).ext m25).mod m26 (notin1 (Nat.ne_of_lt (Nat.lt_of_lt_of_le (Nat.lt_of_lt_of_le r4.lt (Nat.le_trans (Nat.le_trans (Nat.le_trans m6.size m7.size) m8.size) m9.size)) ge4)))).ext m27).ext m28).ext m29).ext m30).mod m31 (notin1 (Nat.ne_of_lt (Nat.lt_of_lt_of_le (Nat.lt_of_lt_of_le r4.lt (Nat.le_trans (Nat.le_trans (Nat.le_trans (Nat.le_trans (Nat.le_trans (Nat.le_trans (Nat.le_trans (Nat.le_trans (Nat.le_trans (Nat.le_trans (Nat.le_trans (Nat.le_trans (Nat.le_trans (Nat.le_trans (Nat.le_trans (Nat.le_trans (Nat.le_trans (Nat.le_trans (Nat.le_trans (Nat.le_trans (Nat.le_trans (Nat.le_trans (Nat.le_trans (Nat.le_trans m6.size m7.size) m8.size) m9.size) m10.size) m11.size) m12.size) m13.size) m14.size) m15.size) m16.size) md1.size) m17.size) m18.size) m19.size) m20.size) m21.size) m22.size) m23.size) m24.size) m25.size) m26.size) m27.size) m28.size) m29.size)) (Nat.le_refl _))))).rng rfl rfl rfl) rfl rfl rfl ?_
  refine WL.call (oc_call (vs := [.agg #[.slice (some ⟨b'3, 0, none⟩) nLr c'3, .int .i64 (((i + 1) % nLr : Nat) : Int), .int .i64 Tk, .float .f32 Tc0, .float .f32 Tc1, .float .f32 Tc2, .float .f32 (stepS Tk Tc0 Tc1 Tc2 Ts0 Ts1 (xLr.getD i 0)), .float .f32 (stepT Tk Tc0 Tc1 Tc2 Ts0 Ts1 (xLr.getD i 0)), .int .i64 Dk, .float .f32 Dc0, .float .f32 Dc1, .float .f32 Dc2, .float .f32 (stepS Dk Dc0 Dc1 Dc2 Ds0 Ds1 (stepY Tk Tc0 Tc1 Tc2 Ts0 Ts1 (xLr.getD i 0))), .float .f32 (stepT Dk Dc0 Dc1 Dc2 Ds0 Ds1 (stepY Tk Tc0 Tc1 Tc2 Ts0 Ts1 (xLr.getD i 0))), .float .f32 g], .agg #[.slice (some ⟨b'1, 0, none⟩) nLr c'1, .int .i64 (((i + 1) % nLr : Nat) : Int), .int .i64 Tk, .float .f32 Tc0, .float .f32 Tc1, .float .f32 Tc2, .float .f32 (stepS Tk Tc0 Tc1 Tc2 Ts0 Ts1 (xLr.getD i 0)), .float .f32 (stepT Tk Tc0 Tc1 Tc2 Ts0 Ts1 (xLr.getD i 0)), .int .i64 Dk, .float .f32 Dc0, .float .f32 Dc1, .float .f32 Dc2, .float .f32 (stepS Dk Dc0 Dc1 Dc2 Ds0 Ds1 (stepY Tk Tc0 Tc1 Tc2 Ts0 Ts1 (xLr.getD i 0))), .float .f32 (stepT Dk Dc0 Dc1 Dc2 Ds0 Ds1 (stepY Tk Tc0 Tc1 Tc2 Ts0 Ts1 (xLr.getD i 0))), .float .f32 g]]) (cap := []) rfl rfl rfl Try.call27 (c_eqString nLr c'3 (some ⟨b'3, 0, none⟩) b'3 0 (xLr.set i (keptF (fop .add .f32 (fop .mul .f32 (stepY Dk Dc0 Dc1 Dc2 Ds0 Ds1 (stepY Tk Tc0 Tc1 Tc2 Ts0 Ts1 (xLr.getD i 0))) g) a))) (((i + 1) % nLr : Nat) : Int) Tk Tc0 Tc0 Tc1 Tc1 Tc2 Tc2 (stepS Tk Tc0 Tc1 Tc2 Ts0 Ts1 (xLr.getD i 0)) (stepS Tk Tc0 Tc1 Tc2 Ts0 Ts1 (xLr.getD i 0)) (stepT Tk Tc0 Tc1 Tc2 Ts0 Ts1 (xLr.getD i 0)) (stepT Tk Tc0 Tc1 Tc2 Ts0 Ts1 (xLr.getD i 0)) Dk Dc0 Dc0 Dc1 Dc1 Dc2 Dc2 (stepS Dk Dc0 Dc1 Dc2 Ds0 Ds1 (stepY Tk Tc0 Tc1 Tc2 Ts0 Ts1 (xLr.getD i 0))) (stepS Dk Dc0 Dc1 Dc2 Ds0 Ds1 (stepY Tk Tc0 Tc1 Tc2 Ts0 Ts1 (xLr.getD i 0))) (stepT Dk Dc0 Dc1 Dc2 Ds0 Ds1 (stepY Tk Tc0 Tc1 Tc2 Ts0 Ts1 (xLr.getD i 0))) (stepT Dk Dc0 Dc1 Dc2 Ds0 Ds1 (stepY Tk Tc0 Tc1 Tc2 Ts0 Ts1 (xLr.getD i 0))) g g c'1 (some ⟨b'1, 0, none⟩) b'1 0 Tc0 Tc1 Tc2 (stepS Tk Tc0 Tc1 Tc2 Ts0 Ts1 (xLr.getD i 0)) (stepT Tk Tc0 Tc1 Tc2 Ts0 Ts1 (xLr.getD i 0)) Dc0 Dc1 Dc2 (stepS Dk Dc0 Dc1 Dc2 Ds0 Ds1 (stepY Tk Tc0 Tc1 Tc2 Ts0 Ts1 (xLr.getD i 0))) (stepT Dk Dc0 Dc1 Dc2 Ds0 Ds1 (stepY Tk Tc0 Tc1 Tc2 Ts0 Ts1 (xLr.getD i 0))) g ((List.length_set).trans lnLr) (fun _ => rfl) (fun _ => rfl) rfl rfl rfl rfl rfl rfl rfl rfl rfl rfl rfl rfl rfl rfl rfl rfl rfl rfl rfl rfl rfl rfl (by omega) w32 ((r19.ext m30).mod m31 (notin1 (Nat.ne_of_lt (Nat.lt_of_lt_of_le r19.lt (Nat.le_refl _))))).rng ((((((((((((((((((((((((((((r3.ext m5).mod m6 (notin1 (Nat.ne_of_lt (Nat.lt_of_lt_of_le r3.lt (Nat.le_refl _))))).ext m7).ext m8).mod m9 (notin1 (Nat.ne_of_lt (Nat.lt_of_lt_of_le (Nat.lt_of_lt_of_le r3.lt (Nat.le_trans (Nat.le_trans m5.size m6.size) m7.size)) (Nat.le_refl _))))).ext m10).ext m11).mod m12 (notin1 (Nat.ne_of_lt (Nat.lt_of_lt_of_le (Nat.lt_of_lt_of_le r3.lt (Nat.le_trans (Nat.le_trans (Nat.le_trans (Nat.le_trans (Nat.le_trans m5.size m6.size) m7.size) m8.size) m9.size) m10.size)) (Nat.le_refl _))))).ext m13).ext m14).ext m15).ext m16).ext md1).ext m17).ext m18).ext m19).ext m20).mod m21 (notin1 (Nat.ne_of_lt (Nat.lt_of_lt_of_le (Nat.lt_of_lt_of_le r3.lt (Nat.le_trans m5.size m6.size)) ge3)))).ext m22).ext m23).ext m24).ext m25).mod m26 (notin1 (Nat.ne_of_lt (Nat.lt_of_lt_of_le (Nat.lt_of_lt_of_le r3.lt (Nat.le_trans (Nat.le_trans (Nat.le_trans (Nat.le_trans m5.size m6.size) m7.size) m8.size) m9.size)) ge4)))).ext m27).ext m28).ext m29).ext m30).mod m31 (notin1 (Nat.ne_of_lt (Nat.lt_of_lt_of_le (Nat.lt_of_lt_of_le r3.lt (Nat.le_trans (Nat.le_trans (Nat.le_trans (Nat.le_trans (Nat.le_trans (Nat.le_trans (Nat.le_trans (Nat.le_trans (Nat.le_trans (Nat.le_trans (Nat.le_trans (Nat.le_trans (Nat.le_trans (Nat.le_trans (Nat.le_trans (Nat.le_trans (Nat.le_trans (Nat.le_trans (Nat.le_trans (Nat.le_trans (Nat.le_trans (Nat.le_trans (Nat.le_trans (Nat.le_trans (Nat.le_trans m5.size m6.size) m7.size) m8.size) m9.size) m10.size) m11.size) m12.size) m13.size) m14.size) m15.size) m16.size) md1.size) m17.size) m18.size) m19.size) m20.size) m21.size) m22.size) m23.size) m24.size) m25.size) m26.size) m27.size) m28.size) m29.size)) (Nat.le_refl _))))).rng)) rfl rfl (ltb rfl) ?_
  rintro _ w33 ⟨rfl, m32⟩
  refine WL.det (op_not rfl) rfl rfl rfl ?_
  refine WL.det (op_move rfl) rfl rfl rfl ?_
  refine WL.yes rfl rfl rfl (ltb rfl) rfl rfl ?_
  refine WL.det (op_move rfl) rfl rfl rfl ?_
  refine WL.yes rfl rfl rfl (ltb rfl) rfl rfl ?_
  refine WL.op (op_widen (e := (wide (xLr.getD i 0))) rfl rfl Try.runUnderlying27 Try.runUnderlying67 rfl) rfl rfl (ltb rfl) ?_
  rintro _ w34 ⟨⟨f5, rfl, hf5, lf5⟩, m33⟩
  refine WL.yes rfl rfl rfl (ltb rfl) rfl rfl ?_
  refine WL.det (op_move rfl) rfl rfl rfl ?_
  refine WL.yes rfl rfl rfl (ltb rfl) rfl rfl ?_
  refine WL.op (op_widen (e := (wide (xLr.getD i 0))) rfl rfl Try.runUnderlying27 Try.runUnderlying67 rfl) rfl rfl (ltb rfl) ?_
  rintro _ w35 ⟨⟨f6, rfl, hf6, lf6⟩, m34⟩
  refine WL.yes rfl rfl rfl (ltb rfl) rfl rfl ?_
  refine WL.call (oc_call (vs := [.float .f64 f5, .float .f64 f6]) (cap := []) rfl rfl rfl Try.call39 (c_sameFloat f5 (wide (xLr.getD i 0)) f6 (wide (xLr.getD i 0)) hf5 hf6 w35)) rfl rfl (ltb rfl) ?_
  rintro _ w36 ⟨rfl, m35⟩
  refine WL.yes rfl rfl rfl (ltb rfl) rfl rfl ?_
  refine WL.det (op_not rfl) rfl rfl rfl ?_
  refine WL.det (op_pick_f rfl rfl rfl) rfl rfl rfl ?_
  refine WL.det (op_move rfl) rfl rfl rfl ?_
  refine WL.yes rfl rfl rfl (ltb rfl) rfl (bnot_t (sameF_self _)) ?_
  refine WL.det (op_move rfl) rfl rfl rfl ?_
  refine WL.yes rfl rfl rfl (ltb rfl) rfl (bnot_t (sameF_self _)) ?_
  refine WL.det (op_move rfl) rfl rfl rfl ?_
  refine WL.yes rfl rfl rfl (ltb rfl) rfl (bnot_t (sameF_self _)) ?_
  refine WL.det (op_nei rfl rfl) rfl rfl rfl ?_
  refine WL.det (op_pick_f rfl (bnot_t (sameF_self _)) rfl) rfl rfl rfl ?_
  refine WL.end ?_
  refine NE.code ?_
  refine CE.cond_f rfl rfl ?_
  refine CE.skip' ?_
  refine NE.code ?_
  refine CE.seq ?_
  refine CE.region ?_
  refine WL.det (op_assign rfl) rfl rfl rfl ?_
  refine WL.end ?_
  refine NE.code ?_
  refine CE.seq ?_
  refine CE.region ?_
  refine WL.det (op_loadA (i := 0) (cs := [.slice (some ⟨b'2, 0, none⟩) nLr c'2, .int .i64 (((i + 1) % nLr : Nat) : Int), .int .i64 Tk, .float .f32 Tc0, .float .f32 Tc1, .float .f32 Tc2, .float .f32 (stepS Tk Tc0 Tc1 Tc2 Ts0 Ts1 (xLr.getD i 0)), .float .f32 (stepT Tk Tc0 Tc1 Tc2 Ts0 Ts1 (xLr.getD i 0)), .int .i64 Dk, .float .f32 Dc0, .float .f32 Dc1, .float .f32 Dc2, .float .f32 (stepS Dk Dc0 Dc1 Dc2 Ds0 Ds1 (stepY Tk Tc0 Tc1 Tc2 Ts0 Ts1 (xLr.getD i 0))), .float .f32 (stepT Dk Dc0 Dc1 Dc2 Ds0 Ds1 (stepY Tk Tc0 Tc1 Tc2 Ts0 Ts1 (xLr.getD i 0))), .float .f32 g]) rfl Try.isAgg33 Try.sizeOf33 ((((((((((((((((((((((((r14.ext m13).ext m14).ext m15).ext m16).ext md1).ext m17).ext m18).ext m19).ext m20).mod m21 (notin1 (Nat.ne_of_gt (Nat.lt_of_lt_of_le (Nat.lt_of_lt_of_le r7.lt (Nat.le_trans (Nat.le_trans m8.size m9.size) m10.size)) (Nat.le_refl _))))).ext m22).ext m23).ext m24).ext m25).mod m26 (notin1 (Nat.ne_of_gt (Nat.lt_of_lt_of_le r11.lt (Nat.le_refl _))))).ext m27).ext m28).ext m29).ext m30).mod m31 (notin1 (Nat.ne_of_lt (Nat.lt_of_lt_of_le (Nat.lt_of_lt_of_le r12.lt (Nat.le_trans (Nat.le_trans (Nat.le_trans (Nat.le_trans (Nat.le_trans (Nat.le_trans (Nat.le_trans (Nat.le_trans (Nat.le_trans (Nat.le_trans (Nat.le_trans (Nat.le_trans (Nat.le_trans (Nat.le_trans (Nat.le_trans (Nat.le_trans (Nat.le_trans (Nat.le_trans m12.size m13.size) m14.size) m15.size) m16.size) md1.size) m17.size) m18.size) m19.size) m20.size) m21.size) m22.size) m23.size) m24.size) m25.size) m26.size) m27.size) m28.size) m29.size)) (Nat.le_refl _))))).ext m32).ext m33).ext m34).ext m35).rng rfl rfl rfl) rfl rfl rfl ?_
  refine WL.det (op_move rfl) rfl rfl rfl ?_
  refine WL.call (oc_call (vs := [.agg #[.slice (some ⟨b'2, 0, none⟩) nLr c'2, .int .i64 (((i + 1) % nLr : Nat) : Int), .int .i64 Tk, .float .f32 Tc0, .float .f32 Tc1, .float .f32 Tc2, .float .f32 (stepS Tk Tc0 Tc1 Tc2 Ts0 Ts1 (xLr.getD i 0)), .float .f32 (stepT Tk Tc0 Tc1 Tc2 Ts0 Ts1 (xLr.getD i 0)), .int .i64 Dk, .float .f32 Dc0, .float .f32 Dc1, .float .f32 Dc2, .float .f32 (stepS Dk Dc0 Dc1 Dc2 Ds0 Ds1 (stepY Tk Tc0 Tc1 Tc2 Ts0 Ts1 (xLr.getD i 0))), .float .f32 (stepT Dk Dc0 Dc1 Dc2 Ds0 Ds1 (stepY Tk Tc0 Tc1 Tc2 Ts0 Ts1 (xLr.getD i 0))), .float .f32 g], .int .i64 1]) (cap := []) rfl rfl rfl Try.call29 (c_heldString nLr c'2 b'2 (marks (xLr.set i (keptF (fop .add .f32 (fop .mul .f32 (stepY Dk Dc0 Dc1 Dc2 Ds0 Ds1 (stepY Tk Tc0 Tc1 Tc2 Ts0 Ts1 (xLr.getD i 0))) g) a))) 1 nLr) (((i + 1) % nLr : Nat) : Int) Tk Tc0 Tc1 Tc2 (stepS Tk Tc0 Tc1 Tc2 Ts0 Ts1 (xLr.getD i 0)) (stepT Tk Tc0 Tc1 Tc2 Ts0 Ts1 (xLr.getD i 0)) Dk Dc0 Dc1 Dc2 (stepS Dk Dc0 Dc1 Dc2 Ds0 Ds1 (stepY Tk Tc0 Tc1 Tc2 Ts0 Ts1 (xLr.getD i 0))) (stepT Dk Dc0 Dc1 Dc2 Ds0 Ds1 (stepY Tk Tc0 Tc1 Tc2 Ts0 Ts1 (xLr.getD i 0))) g 1 (marks_len ((List.length_set).trans lnLr) (Nat.le_refl _)) (by omega) (by omega) (by first | assumption | exact marks_held _ _ _) w36 (((((((((r17.ext m27).ext m28).ext m29).ext m30).mod m31 (notin1 (Nat.ne_of_lt (Nat.lt_of_lt_of_le (Nat.lt_of_lt_of_le r11.lt (Nat.le_trans (Nat.le_trans (Nat.le_trans (Nat.le_trans (Nat.le_trans (Nat.le_trans (Nat.le_trans (Nat.le_trans (Nat.le_trans (Nat.le_trans (Nat.le_trans (Nat.le_trans (Nat.le_trans (Nat.le_trans (Nat.le_trans (Nat.le_trans (Nat.le_trans (Nat.le_trans (Nat.le_trans m11.size m12.size) m13.size) m14.size) m15.size) m16.size) md1.size) m17.size) m18.size) m19.size) m20.size) m21.size) m22.size) m23.size) m24.size) m25.size) m26.size) m27.size) m28.size) m29.size)) (Nat.le_refl _))))).ext m32).ext m33).ext m34).ext m35).rng)) rfl rfl (ltb rfl) ?_
  rintro _ w37 ⟨rfl, m36⟩
  refine WL.det (op_assign rfl) rfl rfl rfl ?_
  refine WL.end ?_
  refine NE.code ?_
  refine CE.seq ?_
  refine CE.seq ?_
  refine CE.region ?_
  refine WL.det (op_move rfl) rfl rfl rfl ?_
  refine WL.det (op_lti_f rfl rfl (by omega)) rfl rfl rfl ?_
  refine WL.end ?_
  refine NE.code ?_
  refine CE.cond_f rfl rfl ?_
  refine CE.skip' ?_
  refine NE.code ?_
  refine CE.seq ?_
  refine CE.seq ?_
  refine CE.region ?_
  refine WL.det (op_move rfl) rfl rfl rfl ?_
  refine WL.det (op_move rfl) rfl rfl rfl ?_
  refine WL.det (op_nei_f rfl rfl rfl) rfl rfl rfl ?_
  refine WL.end ?_
  refine NE.code ?_
  refine CE.cond_f rfl rfl ?_
  refine CE.skip' ?_
  refine NE.code ?_
  refine CE.seq ?_
  refine CE.region ?_
  refine WL.det (op_assign rfl) rfl rfl rfl ?_
  refine WL.end ?_
  refine NE.code ?_
  refine CE.ret' ?_
  refine XE.leave1 Try.results7 rfl ?_
  refine ⟨rfl, ((((((((((((((((((((((((((((((((((((((Mod.refl [] w).nil_then m1).nil_then m2).nil_then m3).nil_then m4).nil_then m5).then m6 (allow1 (.inr (Nat.le_trans (Nat.le_trans (Nat.le_trans (Nat.le_trans m1.size m2.size) m3.size) m4.size) (Nat.le_refl _))))).nil_then m7).nil_then m8).then m9 (allow1 (.inr (Nat.le_trans (Nat.le_trans (Nat.le_trans (Nat.le_trans (Nat.le_trans (Nat.le_trans (Nat.le_trans m1.size m2.size) m3.size) m4.size) m5.size) m6.size) m7.size) (Nat.le_refl _))))).nil_then m10).nil_then m11).then m12 (allow1 (.inr (Nat.le_trans (Nat.le_trans (Nat.le_trans (Nat.le_trans (Nat.le_trans (Nat.le_trans (Nat.le_trans (Nat.le_trans (Nat.le_trans (Nat.le_trans m1.size m2.size) m3.size) m4.size) m5.size) m6.size) m7.size) m8.size) m9.size) m10.size) (Nat.le_refl _))))).nil_then m13).nil_then m14).nil_then m15).nil_then m16).nil_then md1).nil_then m17).nil_then m18).nil_then m19).nil_then m20).then m21 (allow1 (.inr (Nat.le_trans (Nat.le_trans (Nat.le_trans (Nat.le_trans (Nat.le_trans (Nat.le_trans m1.size m2.size) m3.size) m4.size) m5.size) m6.size) ge3)))).nil_then m22).nil_then m23).nil_then m24).nil_then m25).then m26 (allow1 (.inr (Nat.le_trans (Nat.le_trans (Nat.le_trans (Nat.le_trans (Nat.le_trans (Nat.le_trans (Nat.le_trans (Nat.le_trans (Nat.le_trans m1.size m2.size) m3.size) m4.size) m5.size) m6.size) m7.size) m8.size) m9.size) ge4)))).nil_then m27).nil_then m28).nil_then m29).nil_then m30).then m31 (allow1 (.inr (Nat.le_trans (Nat.le_trans (Nat.le_trans (Nat.le_trans (Nat.le_trans (Nat.le_trans (Nat.le_trans (Nat.le_trans (Nat.le_trans (Nat.le_trans (Nat.le_trans (Nat.le_trans (Nat.le_trans (Nat.le_trans (Nat.le_trans (Nat.le_trans (Nat.le_trans (Nat.le_trans (Nat.le_trans (Nat.le_trans (Nat.le_trans (Nat.le_trans (Nat.le_trans (Nat.le_trans (Nat.le_trans (Nat.le_trans (Nat.le_trans (Nat.le_trans (Nat.le_trans (Nat.le_trans m1.size m2.size) m3.size) m4.size) m5.size) m6.size) m7.size) m8.size) m9.size) m10.size) m11.size) m12.size) m13.size) m14.size) m15.size) m16.size) md1.size) m17.size) m18.size) m19.size) m20.size) m21.size) m22.size) m23.size) m24.size) m25.size) m26.size) m27.size) m28.size) m29.size) (Nat.le_refl _))))).nil_then m32).nil_then m33).nil_then m34).nil_then m35).nil_then m36)⟩

set_option maxRecDepth 100000 in
set_option maxHeartbeats 2000000 in
theorem law_stepstr_bad (nLr : Nat) (cLr : Nat) (ALr : Option Addr) (bLr : Nat) (oLr : Nat) (xLr : List Nat) (Lj : Int) (Tk : Int) (Tc0 : Nat) (Tc1 : Nat) (Tc2 : Nat) (Ts0 : Nat) (Ts1 : Nat) (Dk : Int) (Dc0 : Nat) (Dc1 : Nat) (Dc2 : Nat) (Ds0 : Nat) (Ds1 : Nat) (g : Nat) (a : Nat) (lnLr : xLr.length = nLr) (hALr : 0 < nLr → ALr = some ⟨bLr, oLr, none⟩) (wLr : W32 xLr) (lTs0 : Ts0 < wid .f32) (lTs1 : Ts1 < wid .f32) (lDs0 : Ds0 < wid .f32) (lDs1 : Ds1 < wid .f32) (hv : vStr nLr Lj Tk Tc0 Tc1 Tc2 Ts0 Ts1 Dk Dc0 Dc1 Dc2 Ds0 Ds1 g = false) (hm : nLr ≤ 9223372036854775807) (la : a < wid .f32) (w : World) (rLr : Rng w bLr oLr (fl xLr)) : Cl Try.prog 7 #[.agg #[.slice ALr nLr cLr, .int .i64 Lj, .int .i64 Tk, .float .f32 Tc0, .float .f32 Tc1, .float .f32 Tc2, .float .f32 Ts0, .float .f32 Ts1, .int .i64 Dk, .float .f32 Dc0, .float .f32 Dc1, .float .f32 Dc2, .float .f32 Ds0, .float .f32 Ds1, .float .f32 g], .float .f32 a] w fun v w' => v = .bool true ∧ Mod [] w w' := by
  refine Cl.of Try.func7 Try.ntmps7 rfl rfl (ρ := [(0, .agg #[.slice ALr nLr cLr, .int .i64 Lj, .int .i64 Tk, .float .f32 Tc0, .float .f32 Tc1, .float .f32 Tc2, .float .f32 Ts0, .float .f32 Ts1, .int .i64 Dk, .float .f32 Dc0, .float .f32 Dc1, .float .f32 Dc2, .float .f32 Ds0, .float .f32 Ds1, .float .f32 g]), (1, .float .f32 a)]) rfl ?_
  refine CE.seq ?_
  refine CE.region ?_
  refine WL.op (op_box (cs := [.slice ALr nLr cLr, .int .i64 Lj, .int .i64 Tk, .float .f32 Tc0, .float .f32 Tc1, .float .f32 Tc2, .float .f32 Ts0, .float .f32 Ts1, .int .i64 Dk, .float .f32 Dc0, .float .f32 Dc1, .float .f32 Dc2, .float .f32 Ds0, .float .f32 Ds1, .float .f32 g]) rfl rfl) rfl rfl (ltb rfl) ?_
  rintro _ w1 ⟨rfl, r1, m1, z1⟩
  refine WL.det (op_assign rfl) rfl rfl rfl ?_
  refine WL.end ?_
  refine NE.code ?_
  refine CE.seq ?_
  refine CE.region ?_
  refine WL.det (op_assign rfl) rfl rfl rfl ?_
  refine WL.end ?_
  refine NE.code ?_
  refine CE.seq ?_
  refine CE.region ?_
  refine WL.det (op_loadA (i := 0) (cs := [.slice ALr nLr cLr, .int .i64 Lj, .int .i64 Tk, .float .f32 Tc0, .float .f32 Tc1, .float .f32 Tc2, .float .f32 Ts0, .float .f32 Ts1, .int .i64 Dk, .float .f32 Dc0, .float .f32 Dc1, .float .f32 Dc2, .float .f32 Ds0, .float .f32 Ds1, .float .f32 g]) rfl Try.isAgg51 Try.sizeOf51 r1.rng rfl rfl rfl) rfl rfl rfl ?_
  refine WL.det (op_move rfl) rfl rfl rfl ?_
  rcases Bool.eq_false_or_eq_true (decide (1048576 < nLr)) with hb1 | hb1
  · have hp1 := hb1; try simp only [Bool.and_eq_true, Bool.or_eq_true, Bool.not_eq_true', Bool.not_eq_false', Bool.and_eq_false_iff, Bool.or_eq_false_iff, decide_eq_true_eq, decide_eq_false_iff_not, beq_iff_eq, bne_iff_ne, beq_eq_false_iff_ne, bne_eq_false_iff_eq, ne_eq, Bool.false_eq_true, not_false_eq_true, not_true_eq_false, vIn_t, vIn_f] at hp1
    refine WL.call (oc_call (vs := [.agg #[.slice ALr nLr cLr, .int .i64 Lj, .int .i64 Tk, .float .f32 Tc0, .float .f32 Tc1, .float .f32 Tc2, .float .f32 Ts0, .float .f32 Ts1, .int .i64 Dk, .float .f32 Dc0, .float .f32 Dc1, .float .f32 Dc2, .float .f32 Ds0, .float .f32 Ds1, .float .f32 g], .int .i64 1048576]) (cap := []) rfl rfl rfl Try.call25 (c_szString_over 1048576 nLr cLr ALr Lj Tk Tc0 Tc1 Tc2 Ts0 Ts1 Dk Dc0 Dc1 Dc2 Ds0 Ds1 g (by omega) (by omega) (by omega) w1)) rfl rfl (ltb rfl) ?_
    rintro _ w2 ⟨rfl, m2⟩
    refine WL.det (op_assign rfl) rfl rfl rfl ?_
    refine WL.end ?_
    refine NE.code ?_
    refine CE.seq ?_
    refine CE.seq ?_
    refine CE.region ?_
    refine WL.det (op_move rfl) rfl rfl rfl ?_
    refine WL.det (op_lti rfl rfl) rfl rfl rfl ?_
    refine WL.end ?_
    refine NE.code ?_
    refine CE.cond_t rfl rfl ?_
    refine CE.seq ?_
    refine CE.region ?_
    refine WL.det (op_assign rfl) rfl rfl rfl ?_
    refine WL.end ?_
    refine NE.code ?_
    refine CE.ret' ?_
    refine XE.ret_then ?_
    refine XE.leave1 Try.results7 rfl ?_
    refine ⟨rfl, (((Mod.refl [] w).nil_then m1).nil_then m2)⟩
  · have hp1 := hb1; try simp only [Bool.and_eq_true, Bool.or_eq_true, Bool.not_eq_true', Bool.not_eq_false', Bool.and_eq_false_iff, Bool.or_eq_false_iff, decide_eq_true_eq, decide_eq_false_iff_not, beq_iff_eq, bne_iff_ne, beq_eq_false_iff_ne, bne_eq_false_iff_eq, ne_eq, Bool.false_eq_true, not_false_eq_true, not_true_eq_false, vIn_t, vIn_f] at hp1
    refine WL.call (oc_call (vs := [.agg #[.slice ALr nLr cLr, .int .i64 Lj, .int .i64 Tk, .float .f32 Tc0, .float .f32 Tc1, .float .f32 Tc2, .float .f32 Ts0, .float .f32 Ts1, .int .i64 Dk, .float .f32 Dc0, .float .f32 Dc1, .float .f32 Dc2, .float .f32 Ds0, .float .f32 Ds1, .float .f32 g], .int .i64 1048576]) (cap := []) rfl rfl rfl Try.call25 (c_szString 1048576 nLr cLr ALr Lj Tk Tc0 Tc1 Tc2 Ts0 Ts1 Dk Dc0 Dc1 Dc2 Ds0 Ds1 g (by omega) (by omega) w1)) rfl rfl (ltb rfl) ?_
    rintro _ w3 ⟨rfl, m3⟩
    refine WL.det (op_assign rfl) rfl rfl rfl ?_
    refine WL.end ?_
    refine NE.code ?_
    refine CE.seq ?_
    refine CE.seq ?_
    refine CE.region ?_
    refine WL.det (op_move rfl) rfl rfl rfl ?_
    refine WL.det (op_lti_f rfl rfl (by omega)) rfl rfl rfl ?_
    refine WL.end ?_
    refine NE.code ?_
    refine CE.cond_f rfl rfl ?_
    refine CE.skip' ?_
    refine NE.code ?_
    refine CE.seq ?_
    refine CE.region ?_
    refine WL.det (op_loadA (i := 0) (cs := [.slice ALr nLr cLr, .int .i64 Lj, .int .i64 Tk, .float .f32 Tc0, .float .f32 Tc1, .float .f32 Tc2, .float .f32 Ts0, .float .f32 Ts1, .int .i64 Dk, .float .f32 Dc0, .float .f32 Dc1, .float .f32 Dc2, .float .f32 Ds0, .float .f32 Ds1, .float .f32 g]) rfl Try.isAgg51 Try.sizeOf51 (r1.ext m3).rng rfl rfl rfl) rfl rfl rfl ?_
    refine WL.call (oc_call (vs := [.agg #[.slice ALr nLr cLr, .int .i64 Lj, .int .i64 Tk, .float .f32 Tc0, .float .f32 Tc1, .float .f32 Tc2, .float .f32 Ts0, .float .f32 Ts1, .int .i64 Dk, .float .f32 Dc0, .float .f32 Dc1, .float .f32 Dc2, .float .f32 Ds0, .float .f32 Ds1, .float .f32 g]]) (cap := []) rfl rfl rfl Try.call26 (c_toString nLr cLr ALr bLr oLr xLr Lj Tk Tc0 Tc1 Tc2 Ts0 Ts1 Dk Dc0 Dc1 Dc2 Ds0 Ds1 g lnLr hALr (by omega) w3 ((rLr.ext m1).ext m3))) rfl rfl (ltb rfl) ?_
    rintro _ w4 ⟨bLr'1, rfl, r2, ge1, m4⟩
    refine WL.det (op_move rfl) rfl rfl rfl ?_
    refine WL.call (oc_call (vs := [.agg #[.slice (some ⟨bLr'1, 0, none⟩) nLr nLr, .int .i64 Lj, .int .i64 Tk, .float .f32 Tc0, .float .f32 Tc1, .float .f32 Tc2, .float .f32 Ts0, .float .f32 Ts1, .int .i64 Dk, .float .f32 Dc0, .float .f32 Dc1, .float .f32 Dc2, .float .f32 Ds0, .float .f32 Ds1, .float .f32 g], .float .f32 a]) (cap := []) rfl rfl rfl Try.call38 (c_sStepStr_bad nLr nLr bLr'1 xLr Lj Tk Tc0 Tc1 Tc2 Ts0 Ts1 Dk Dc0 Dc1 Dc2 Ds0 Ds1 g a lnLr (by omega) (by first | assumption | exact W32.get (by assumption) _ | decide +kernel) (by first | assumption | exact W32.get (by assumption) _ | decide +kernel) (by first | assumption | exact W32.get (by assumption) _ | decide +kernel) (by first | assumption | exact W32.get (by assumption) _ | decide +kernel) la (by assumption) w4 r2.rng)) rfl rfl (ltb rfl) ?_
    rintro _ w5 ⟨rfl, m5⟩
    refine WL.det (op_move rfl) rfl rfl rfl ?_
    refine WL.det (op_extract rfl rfl) rfl rfl rfl ?_
    refine WL.det (op_extract rfl rfl) rfl rfl rfl ?_
    refine WL.det (op_extract rfl rfl) rfl rfl rfl ?_
    refine WL.op (op_alloc (cs := [.slice none 0 0, .int .i64 0, .int .i64 0, .float .f32 0, .float .f32 0, .float .f32 0, .float .f32 0, .float .f32 0, .int .i64 0, .float .f32 0, .float .f32 0, .float .f32 0, .float .f32 0, .float .f32 0, .float .f32 0]) Try.zeroValue33 rfl) rfl rfl (ltb rfl) ?_
    rintro _ w6 ⟨rfl, r3, m6, z2⟩
    refine WL.op0 (op_store (i := 0) (cs := [.slice none 0 0, .int .i64 0, .int .i64 0, .float .f32 0, .float .f32 0, .float .f32 0, .float .f32 0, .float .f32 0, .int .i64 0, .float .f32 0, .float .f32 0, .float .f32 0, .float .f32 0, .float .f32 0, .float .f32 0]) rfl rfl rfl Try.sizeOf33 rfl r3 rfl (Nat.le_of_ble_eq_true rfl) rfl) rfl rfl ?_
    rintro _ w7 ⟨r4, m7, z3⟩
    have r5 : Row w7 w5.heap.size 0 [.slice none 0 0, .int .i64 0, .int .i64 0, .float .f32 0, .float .f32 0, .float .f32 0, .float .f32 0, .float .f32 0, .int .i64 0, .float .f32 0, .float .f32 0, .float .f32 0, .float .f32 0, .float .f32 0, .float .f32 0] := Row.congr r4 rfl
    refine WL.det (op_assign rfl) rfl rfl rfl ?_
    refine WL.det (op_assign rfl) rfl rfl rfl ?_
    refine WL.end ?_
    refine NE.code ?_
    refine CE.seq ?_
    refine CE.region ?_
    refine WL.det (op_loadA (i := 0) (cs := [.slice ALr nLr cLr, .int .i64 Lj, .int .i64 Tk, .float .f32 Tc0, .float .f32 Tc1, .float .f32 Tc2, .float .f32 Ts0, .float .f32 Ts1, .int .i64 Dk, .float .f32 Dc0, .float .f32 Dc1, .float .f32 Dc2, .float .f32 Ds0, .float .f32 Ds1, .float .f32 g]) rfl Try.isAgg51 Try.sizeOf51 (((((r1.ext m3).ext m4).ext m5).ext m6).mod m7 (notin1 (Nat.ne_of_lt (Nat.lt_of_lt_of_le (Nat.lt_of_lt_of_le r1.lt (Nat.le_trans (Nat.le_trans m3.size m4.size) m5.size)) (Nat.le_refl _))))).rng rfl rfl rfl) rfl rfl rfl ?_
    refine WL.call (oc_call (vs := [.agg #[.slice ALr nLr cLr, .int .i64 Lj, .int .i64 Tk, .float .f32 Tc0, .float .f32 Tc1, .float .f32 Tc2, .float .f32 Ts0, .float .f32 Ts1, .int .i64 Dk, .float .f32 Dc0, .float .f32 Dc1, .float .f32 Dc2, .float .f32 Ds0, .float .f32 Ds1, .float .f32 g]]) (cap := []) rfl rfl rfl Try.call26 (c_toString nLr cLr ALr bLr oLr xLr Lj Tk Tc0 Tc1 Tc2 Ts0 Ts1 Dk Dc0 Dc1 Dc2 Ds0 Ds1 g lnLr hALr (by omega) w7 (Rng.young rLr (((((rLr.ext m1).ext m3).ext m4).ext m5).ext m6) m7 rfl (Nat.le_trans (Nat.le_trans (Nat.le_trans (Nat.le_trans m1.size m3.size) m4.size) m5.size) (Nat.le_refl _))))) rfl rfl (ltb rfl) ?_
    rintro _ w8 ⟨bLr'2, rfl, r6, ge2, m8⟩
    refine WL.op (op_alloc (cs := [.slice none 0 0, .int .i64 0, .int .i64 0, .float .f32 0, .float .f32 0, .float .f32 0, .float .f32 0, .float .f32 0, .int .i64 0, .float .f32 0, .float .f32 0, .float .f32 0, .float .f32 0, .float .f32 0, .float .f32 0]) Try.zeroValue33 rfl) rfl rfl (ltb rfl) ?_
    rintro _ w9 ⟨rfl, r7, m9, z4⟩
    refine WL.op0 (op_store (i := 0) (cs := [.slice (some ⟨bLr'2, 0, none⟩) nLr nLr, .int .i64 Lj, .int .i64 Tk, .float .f32 Tc0, .float .f32 Tc1, .float .f32 Tc2, .float .f32 Ts0, .float .f32 Ts1, .int .i64 Dk, .float .f32 Dc0, .float .f32 Dc1, .float .f32 Dc2, .float .f32 Ds0, .float .f32 Ds1, .float .f32 g]) rfl rfl rfl Try.sizeOf33 rfl r7 rfl (Nat.le_of_ble_eq_true rfl) rfl) rfl rfl ?_
    rintro _ w10 ⟨r8, m10, z5⟩
    have r9 : Row w10 w8.heap.size 0 [.slice (some ⟨bLr'2, 0, none⟩) nLr nLr, .int .i64 Lj, .int .i64 Tk, .float .f32 Tc0, .float .f32 Tc1, .float .f32 Tc2, .float .f32 Ts0, .float .f32 Ts1, .int .i64 Dk, .float .f32 Dc0, .float .f32 Dc1, .float .f32 Dc2, .float .f32 Ds0, .float .f32 Ds1, .float .f32 g] := Row.congr r8 rfl
    refine WL.end ?_
    refine NE.code ?_
    refine CE.seq ?_
    refine CE.region ?_
    refine WL.det (op_loadA (i := 0) (cs := [.slice (some ⟨bLr'2, 0, none⟩) nLr nLr, .int .i64 Lj, .int .i64 Tk, .float .f32 Tc0, .float .f32 Tc1, .float .f32 Tc2, .float .f32 Ts0, .float .f32 Ts1, .int .i64 Dk, .float .f32 Dc0, .float .f32 Dc1, .float .f32 Dc2, .float .f32 Ds0, .float .f32 Ds1, .float .f32 g]) rfl Try.isAgg33 Try.sizeOf33 r9.rng rfl rfl rfl) rfl rfl rfl ?_
    refine WL.det (op_move rfl) rfl rfl rfl ?_
    refine WL.call (oc_call (vs := [.agg #[.slice (some ⟨bLr'2, 0, none⟩) nLr nLr, .int .i64 Lj, .int .i64 Tk, .float .f32 Tc0, .float .f32 Tc1, .float .f32 Tc2, .float .f32 Ts0, .float .f32 Ts1, .int .i64 Dk, .float .f32 Dc0, .float .f32 Dc1, .float .f32 Dc2, .float .f32 Ds0, .float .f32 Ds1, .float .f32 g], .float .f32 a]) (cap := []) rfl rfl rfl Try.call34 (c_iStepStr_bad nLr nLr bLr'2 xLr Lj Tk Tc0 Tc1 Tc2 Ts0 Ts1 Dk Dc0 Dc1 Dc2 Ds0 Ds1 g a lnLr (by omega) (by first | assumption | exact W32.get (by assumption) _ | decide +kernel) (by first | assumption | exact W32.get (by assumption) _ | decide +kernel) (by first | assumption | exact W32.get (by assumption) _ | decide +kernel) (by first | assumption | exact W32.get (by assumption) _ | decide +kernel) la (by assumption) w10 ((r6.ext m9).mod m10 (notin1 (Nat.ne_of_lt (Nat.lt_of_lt_of_le r6.lt (Nat.le_refl _))))).rng)) rfl rfl (ltb rfl) ?_
    rintro _ w11 ⟨rfl, m11⟩
    refine WL.det (op_move rfl) rfl rfl rfl ?_
    refine WL.det (op_extract rfl rfl) rfl rfl rfl ?_
    refine WL.det (op_extract rfl rfl) rfl rfl rfl ?_
    refine WL.det (op_extract rfl rfl) rfl rfl rfl ?_
    refine WL.op (op_alloc (cs := [.slice none 0 0, .int .i64 0, .int .i64 0, .float .f32 0, .float .f32 0, .float .f32 0, .float .f32 0, .float .f32 0, .int .i64 0, .float .f32 0, .float .f32 0, .float .f32 0, .float .f32 0, .float .f32 0, .float .f32 0]) Try.zeroValue33 rfl) rfl rfl (ltb rfl) ?_
    rintro _ w12 ⟨rfl, r10, m12, z6⟩
    refine WL.op0 (op_store (i := 0) (cs := [.slice none 0 0, .int .i64 0, .int .i64 0, .float .f32 0, .float .f32 0, .float .f32 0, .float .f32 0, .float .f32 0, .int .i64 0, .float .f32 0, .float .f32 0, .float .f32 0, .float .f32 0, .float .f32 0, .float .f32 0]) rfl rfl rfl Try.sizeOf33 rfl r10 rfl (Nat.le_of_ble_eq_true rfl) rfl) rfl rfl ?_
    rintro _ w13 ⟨r11, m13, z7⟩
    have r12 : Row w13 w11.heap.size 0 [.slice none 0 0, .int .i64 0, .int .i64 0, .float .f32 0, .float .f32 0, .float .f32 0, .float .f32 0, .float .f32 0, .int .i64 0, .float .f32 0, .float .f32 0, .float .f32 0, .float .f32 0, .float .f32 0, .float .f32 0] := Row.congr r11 rfl
    refine WL.det (op_assign rfl) rfl rfl rfl ?_
    refine WL.det (op_assign rfl) rfl rfl rfl ?_
    refine WL.end ?_
    refine NE.code ?_
    refine CE.seq ?_
    refine CE.seq ?_
    refine CE.region ?_
    refine WL.det (op_loadA (i := 0) (cs := [.slice none 0 0, .int .i64 0, .int .i64 0, .float .f32 0, .float .f32 0, .float .f32 0, .float .f32 0, .float .f32 0, .int .i64 0, .float .f32 0, .float .f32 0, .float .f32 0, .float .f32 0, .float .f32 0, .float .f32 0]) rfl Try.isAgg33 Try.sizeOf33 r12.rng rfl rfl rfl) rfl rfl rfl ?_
    refine WL.det (op_loadA (i := 0) (cs := [.slice none 0 0, .int .i64 0, .int .i64 0, .float .f32 0, .float .f32 0, .float .f32 0, .float .f32 0, .float .f32 0, .int .i64 0, .float .f32 0, .float .f32 0, .float .f32 0, .float .f32 0, .float .f32 0, .float .f32 0]) rfl Try.isAgg33 Try.sizeOf33 ((((((r5.ext m8).ext m9).mod m10 (notin1 (Nat.ne_of_lt (Nat.lt_of_lt_of_le (Nat.lt_of_lt_of_le r3.lt (Nat.le_trans m7.size m8.size)) (Nat.le_refl _))))).ext m11).ext m12).mod m13 (notin1 (Nat.ne_of_lt (Nat.lt_of_lt_of_le (Nat.lt_of_lt_of_le r3.lt (Nat.le_trans (Nat.le_trans (Nat.le_trans (Nat.le_trans m7.size m8.size) m9.size) m10.size) m11.size)) (Nat.le_refl _))))).rng rfl rfl rfl) rfl rfl rfl ?_
    refine WL.call (oc_call (vs := [.agg #[.slice none 0 0, .int .i64 0, .int .i64 0, .float .f32 0, .float .f32 0, .float .f32 0, .float .f32 0, .float .f32 0, .int .i64 0, .float .f32 0, .float .f32 0, .float .f32 0, .float .f32 0, .float .f32 0, .float .f32 0], .agg #[.slice none 0 0, .int .i64 0, .int .i64 0, .float .f32 0, .float .f32 0, .float .f32 0, .float .f32 0, .float .f32 0, .int .i64 0, .float .f32 0, .float .f32 0, .float .f32 0, .float .f32 0, .float .f32 0, .float .f32 0]]) (cap := []) rfl rfl rfl Try.call27 (c_eqString 0 0 none 0 0 [] (0 : Int) (0 : Int) 0 0 0 0 0 0 0 0 0 0 (0 : Int) 0 0 0 0 0 0 0 0 0 0 0 0 0 none 0 0 0 0 0 0 0 0 0 0 0 0 0 rfl (fun h => absurd h (Nat.lt_irrefl _)) (fun h => absurd h (Nat.lt_irrefl _)) rfl rfl rfl rfl rfl rfl rfl rfl rfl rfl rfl rfl rfl rfl rfl rfl rfl rfl rfl rfl rfl rfl (by omega) w13 (Rng.nil _ _ _) (Rng.nil _ _ _))) rfl rfl (ltb rfl) ?_
    rintro _ w14 ⟨rfl, m14⟩
    refine WL.det (op_not rfl) rfl rfl rfl ?_
    refine WL.det (op_move rfl) rfl rfl rfl ?_
    refine WL.yes rfl rfl rfl (ltb rfl) rfl rfl ?_
    refine WL.det (op_move rfl) rfl rfl rfl ?_
    refine WL.yes rfl rfl rfl (ltb rfl) rfl rfl ?_
    refine WL.op (op_widen (e := (wide 0)) rfl rfl Try.runUnderlying27 Try.runUnderlying67 rfl) rfl rfl (ltb rfl) ?_
    rintro _ w15 ⟨⟨f1, rfl, hf1, lf1⟩, m15⟩
    refine WL.yes rfl rfl rfl (ltb rfl) rfl rfl ?_
    refine WL.det (op_move rfl) rfl rfl rfl ?_
    refine WL.yes rfl rfl rfl (ltb rfl) rfl rfl ?_
    refine WL.op (op_widen (e := (wide 0)) rfl rfl Try.runUnderlying27 Try.runUnderlying67 rfl) rfl rfl (ltb rfl) ?_
    rintro _ w16 ⟨⟨f2, rfl, hf2, lf2⟩, m16⟩
    refine WL.yes rfl rfl rfl (ltb rfl) rfl rfl ?_
    refine WL.call (oc_call (vs := [.float .f64 f1, .float .f64 f2]) (cap := []) rfl rfl rfl Try.call39 (c_sameFloat f1 (wide 0) f2 (wide 0) hf1 hf2 w16)) rfl rfl (ltb rfl) ?_
    rintro _ w17 ⟨rfl, m17⟩
    refine WL.yes rfl rfl rfl (ltb rfl) rfl rfl ?_
    refine WL.det (op_not rfl) rfl rfl rfl ?_
    refine WL.det (op_pick_f rfl rfl rfl) rfl rfl rfl ?_
    refine WL.det (op_move rfl) rfl rfl rfl ?_
    refine WL.yes rfl rfl rfl (ltb rfl) rfl (bnot_t (sameF_self _)) ?_
    refine WL.det (op_move rfl) rfl rfl rfl ?_
    refine WL.yes rfl rfl rfl (ltb rfl) rfl (bnot_t (sameF_self _)) ?_
    refine WL.det (op_move rfl) rfl rfl rfl ?_
    refine WL.yes rfl rfl rfl (ltb rfl) rfl (bnot_t (sameF_self _)) ?_
    refine WL.det (op_nei rfl rfl) rfl rfl rfl ?_
    refine WL.det (op_pick_f rfl (bnot_t (sameF_self _)) rfl) rfl rfl rfl ?_
    refine WL.end ?_
    refine NE.code ?_
    refine CE.cond_f rfl rfl ?_
    refine CE.skip' ?_
    refine NE.code ?_
    refine CE.seq ?_
    refine CE.seq ?_
    refine CE.draw (fun | 2 => some (fun _ wA uA wB => ∃ (bLr' : Nat), uA = .agg #[.slice (some ⟨bLr', 0, none⟩) nLr nLr, .int .i64 Lj, .int .i64 Tk, .float .f32 Tc0, .float .f32 Tc1, .float .f32 Tc2, .float .f32 Ts0, .float .f32 Ts1, .int .i64 Dk, .float .f32 Dc0, .float .f32 Dc1, .float .f32 Dc2, .float .f32 Ds0, .float .f32 Ds1, .float .f32 g] ∧ Row wB bLr' 0 (fl xLr) ∧ wA.heap.size ≤ bLr' ∧ Mod [] wA wB) | _ => none) [0, 1, 2] [3, 4] [] (by kernel_rfl) (by kernel_rfl) ?_
    have md1 : Mod [] w17 w17.drew := (Mod.refl _ _).drew
    generalize w17.drew = w18 at md1 ⊢
    refine DR.det (i := 0) rfl rfl (by kernel_rfl) (.free rfl) rfl rfl (fun wD mD => op_loadA (i := 0) (cs := [.slice (some ⟨bLr'2, 0, none⟩) nLr nLr, .int .i64 Lj, .int .i64 Tk, .float .f32 Tc0, .float .f32 Tc1, .float .f32 Tc2, .float .f32 Ts0, .float .f32 Ts1, .int .i64 Dk, .float .f32 Dc0, .float .f32 Dc1, .float .f32 Dc2, .float .f32 Ds0, .float .f32 Ds1, .float .f32 g]) rfl Try.isAgg33 Try.sizeOf33 (((((((((r9.ext m11).ext m12).mod m13 (notin1 (Nat.ne_of_lt (Nat.lt_of_lt_of_le (Nat.lt_of_lt_of_le r7.lt (Nat.le_trans m10.size m11.size)) (Nat.le_refl _))))).ext m14).ext m15).ext m16).ext m17).ext md1).ext mD).rng rfl rfl rfl) ?_
    refine DR.det (i := 1) rfl rfl (by kernel_rfl) (.free rfl) rfl rfl (fun wD mD => op_loadA (i := 0) (cs := [.slice ALr nLr cLr, .int .i64 Lj, .int .i64 Tk, .float .f32 Tc0, .float .f32 Tc1, .float .f32 Tc2, .float .f32 Ts0, .float .f32 Ts1, .int .i64 Dk, .float .f32 Dc0, .float .f32 Dc1, .float .f32 Dc2, .float .f32 Ds0, .float .f32 Ds1, .float .f32 g]) rfl Try.isAgg51 Try.sizeOf51 (((((((((((((((((r1.ext m3).ext m4).ext m5).ext m6).mod m7 (notin1 (Nat.ne_of_lt (Nat.lt_of_lt_of_le (Nat.lt_of_lt_of_le r1.lt (Nat.le_trans (Nat.le_trans m3.size m4.size) m5.size)) (Nat.le_refl _))))).ext m8).ext m9).mod m10 (notin1 (Nat.ne_of_lt (Nat.lt_of_lt_of_le (Nat.lt_of_lt_of_le r1.lt (Nat.le_trans (Nat.le_trans (Nat.le_trans (Nat.le_trans (Nat.le_trans m3.size m4.size) m5.size) m6.size) m7.size) m8.size)) (Nat.le_refl _))))).ext m11).ext m12).mod m13 (notin1 (Nat.ne_of_lt (Nat.lt_of_lt_of_le (Nat.lt_of_lt_of_le r1.lt (Nat.le_trans (Nat.le_trans (Nat.le_trans (Nat.le_trans (Nat.le_trans (Nat.le_trans (Nat.le_trans (Nat.le_trans m3.size m4.size) m5.size) m6.size) m7.size) m8.size) m9.size) m10.size) m11.size)) (Nat.le_refl _))))).ext m14).ext m15).ext m16).ext m17).ext md1).ext mD).rng rfl rfl rfl) ?_
    refine DR.one (i := 2) rfl rfl (by kernel_rfl) (.free rfl) rfl (ltb rfl) (vs := [.func (.func 26) #[] #[], .agg #[.slice ALr nLr cLr, .int .i64 Lj, .int .i64 Tk, .float .f32 Tc0, .float .f32 Tc1, .float .f32 Tc2, .float .f32 Ts0, .float .f32 Ts1, .int .i64 Dk, .float .f32 Dc0, .float .f32 Dc1, .float .f32 Dc2, .float .f32 Ds0, .float .f32 Ds1, .float .f32 g]]) rfl ?_
    intro w19 m18
    refine ⟨oc_call (vs := [.agg #[.slice ALr nLr cLr, .int .i64 Lj, .int .i64 Tk, .float .f32 Tc0, .float .f32 Tc1, .float .f32 Tc2, .float .f32 Ts0, .float .f32 Ts1, .int .i64 Dk, .float .f32 Dc0, .float .f32 Dc1, .float .f32 Dc2, .float .f32 Ds0, .float .f32 Ds1, .float .f32 g]]) (cap := []) rfl rfl rfl Try.call26 (c_toString nLr cLr ALr bLr oLr xLr Lj Tk Tc0 Tc1 Tc2 Ts0 Ts1 Dk Dc0 Dc1 Dc2 Ds0 Ds1 g lnLr hALr (by omega) w19 (((((((Rng.young rLr (((Rng.young rLr (((Rng.young rLr (((((rLr.ext m1).ext m3).ext m4).ext m5).ext m6) m7 rfl (Nat.le_trans (Nat.le_trans (Nat.le_trans (Nat.le_trans m1.size m3.size) m4.size) m5.size) (Nat.le_refl _))).ext m8).ext m9) m10 rfl (Nat.le_trans (Nat.le_trans (Nat.le_trans (Nat.le_trans (Nat.le_trans (Nat.le_trans (Nat.le_trans m1.size m3.size) m4.size) m5.size) m6.size) m7.size) m8.size) (Nat.le_refl _))).ext m11).ext m12) m13 rfl (Nat.le_trans (Nat.le_trans (Nat.le_trans (Nat.le_trans (Nat.le_trans (Nat.le_trans (Nat.le_trans (Nat.le_trans (Nat.le_trans (Nat.le_trans m1.size m3.size) m4.size) m5.size) m6.size) m7.size) m8.size) m9.size) m10.size) m11.size) (Nat.le_refl _))).ext m14).ext m15).ext m16).ext m17).ext md1).ext m18)), ?_⟩
    rintro _ w20 ⟨bLr'3, rfl, r13, ge3, m19⟩
    refine ⟨(((Mod.refl [] w18).nil_then m18).nil_then m19), ?_⟩
    refine DR.done rfl ?_
    intro w21 m20
    refine WO.call rfl (.free rfl) rfl (ltb rfl) (oc_call (vs := [.agg #[.slice (some ⟨bLr'2, 0, none⟩) nLr nLr, .int .i64 Lj, .int .i64 Tk, .float .f32 Tc0, .float .f32 Tc1, .float .f32 Tc2, .float .f32 Ts0, .float .f32 Ts1, .int .i64 Dk, .float .f32 Dc0, .float .f32 Dc1, .float .f32 Dc2, .float .f32 Ds0, .float .f32 Ds1, .float .f32 g], .agg #[.slice (some ⟨bLr'3, 0, none⟩) nLr nLr, .int .i64 Lj, .int .i64 Tk, .float .f32 Tc0, .float .f32 Tc1, .float .f32 Tc2, .float .f32 Ts0, .float .f32 Ts1, .int .i64 Dk, .float .f32 Dc0, .float .f32 Dc1, .float .f32 Dc2, .float .f32 Ds0, .float .f32 Ds1, .float .f32 g]]) (cap := []) rfl rfl rfl Try.call27 (c_eqString nLr nLr (some ⟨bLr'2, 0, none⟩) bLr'2 0 xLr Lj Tk Tc0 Tc0 Tc1 Tc1 Tc2 Tc2 Ts0 Ts0 Ts1 Ts1 Dk Dc0 Dc0 Dc1 Dc1 Dc2 Dc2 Ds0 Ds0 Ds1 Ds1 g g nLr (some ⟨bLr'3, 0, none⟩) bLr'3 0 Tc0 Tc1 Tc2 Ts0 Ts1 Dc0 Dc1 Dc2 Ds0 Ds1 g lnLr (fun _ => rfl) (fun _ => rfl) rfl rfl rfl rfl rfl rfl rfl rfl rfl rfl rfl rfl rfl rfl rfl rfl rfl rfl rfl rfl rfl rfl (by omega) w21 (((((((((((((r6.ext m9).mod m10 (notin1 (Nat.ne_of_lt (Nat.lt_of_lt_of_le r6.lt (Nat.le_refl _))))).ext m11).ext m12).mod m13 (notin1 (Nat.ne_of_lt (Nat.lt_of_lt_of_le (Nat.lt_of_lt_of_le r6.lt (Nat.le_trans (Nat.le_trans m9.size m10.size) m11.size)) (Nat.le_refl _))))).ext m14).ext m15).ext m16).ext m17).ext md1).ext m18).ext m19).ext m20).rng (r13.ext m20).rng)) ?_
    rintro _ w22 ⟨rfl, m21⟩
    refine WO.det (op_not rfl) rfl (.free rfl) rfl rfl ?_
    refine WO.end ?_
    refine NE.code ?_
    refine CE.cond_f rfl rfl ?_
    refine CE.skip' ?_
    refine NE.code ?_
    refine CE.seq ?_
    refine CE.region ?_
    refine WL.det (op_assign rfl) rfl rfl rfl ?_
    refine WL.end ?_
    refine NE.code ?_
    refine CE.seq ?_
    refine CE.region ?_
    refine WL.det (op_loadA (i := 0) (cs := [.slice (some ⟨bLr'2, 0, none⟩) nLr nLr, .int .i64 Lj, .int .i64 Tk, .float .f32 Tc0, .float .f32 Tc1, .float .f32 Tc2, .float .f32 Ts0, .float .f32 Ts1, .int .i64 Dk, .float .f32 Dc0, .float .f32 Dc1, .float .f32 Dc2, .float .f32 Ds0, .float .f32 Ds1, .float .f32 g]) rfl Try.isAgg33 Try.sizeOf33 ((((((((((((r9.ext m11).ext m12).mod m13 (notin1 (Nat.ne_of_lt (Nat.lt_of_lt_of_le (Nat.lt_of_lt_of_le r7.lt (Nat.le_trans m10.size m11.size)) (Nat.le_refl _))))).ext m14).ext m15).ext m16).ext m17).ext md1).ext m18).ext m19).ext m20).ext m21).rng rfl rfl rfl) rfl rfl rfl ?_
    refine WL.det (op_move rfl) rfl rfl rfl ?_
    refine WL.call (oc_call (vs := [.agg #[.slice (some ⟨bLr'2, 0, none⟩) nLr nLr, .int .i64 Lj, .int .i64 Tk, .float .f32 Tc0, .float .f32 Tc1, .float .f32 Tc2, .float .f32 Ts0, .float .f32 Ts1, .int .i64 Dk, .float .f32 Dc0, .float .f32 Dc1, .float .f32 Dc2, .float .f32 Ds0, .float .f32 Ds1, .float .f32 g], .int .i64 1]) (cap := []) rfl rfl rfl Try.call28 (c_markString nLr nLr bLr'2 xLr Lj Tk Tc0 Tc1 Tc2 Ts0 Ts1 Dk Dc0 Dc1 Dc2 Ds0 Ds1 g 1 lnLr (by omega) (by omega) w22 ((((((((((((((r6.ext m9).mod m10 (notin1 (Nat.ne_of_lt (Nat.lt_of_lt_of_le r6.lt (Nat.le_refl _))))).ext m11).ext m12).mod m13 (notin1 (Nat.ne_of_lt (Nat.lt_of_lt_of_le (Nat.lt_of_lt_of_le r6.lt (Nat.le_trans (Nat.le_trans m9.size m10.size) m11.size)) (Nat.le_refl _))))).ext m14).ext m15).ext m16).ext m17).ext md1).ext m18).ext m19).ext m20).ext m21))) rfl rfl (ltb rfl) ?_
    rintro _ w23 ⟨rfl, r14, m22⟩
    refine WL.det (op_assign rfl) rfl rfl rfl ?_
    refine WL.end ?_
    refine NE.code ?_
    refine CE.seq ?_
    refine CE.seq ?_
    refine CE.region ?_
    refine WL.det (op_move rfl) rfl rfl rfl ?_
    refine WL.det (op_lti_f rfl rfl (by omega)) rfl rfl rfl ?_
    refine WL.det (op_move rfl) rfl rfl rfl ?_
    refine WL.yes rfl rfl rfl (ltb rfl) rfl rfl ?_
    refine WL.det (op_loadA (i := 0) (cs := [.slice none 0 0, .int .i64 0, .int .i64 0, .float .f32 0, .float .f32 0, .float .f32 0, .float .f32 0, .float .f32 0, .int .i64 0, .float .f32 0, .float .f32 0, .float .f32 0, .float .f32 0, .float .f32 0, .float .f32 0]) rfl Try.isAgg33 Try.sizeOf33 ((((((((((r12.ext m14).ext m15).ext m16).ext m17).ext md1).ext m18).ext m19).ext m20).ext m21).mod m22 (notin1 (Nat.ne_of_gt (Nat.lt_of_lt_of_le (Nat.lt_of_lt_of_le r6.lt (Nat.le_trans (Nat.le_trans m9.size m10.size) m11.size)) (Nat.le_refl _))))).rng rfl rfl rfl) rfl rfl rfl ?_
    refine WL.yes rfl rfl rfl (ltb rfl) rfl rfl ?_
    refine WL.det (op_loadA (i := 0) (cs := [.slice none 0 0, .int .i64 0, .int .i64 0, .float .f32 0, .float .f32 0, .float .f32 0, .float .f32 0, .float .f32 0, .int .i64 0, .float .f32 0, .float .f32 0, .float .f32 0, .float .f32 0, .float .f32 0, .float .f32 0]) rfl Try.isAgg33 Try.sizeOf33 ((((((((((((((((r5.ext m8).ext m9).mod m10 (notin1 (Nat.ne_of_lt (Nat.lt_of_lt_of_le (Nat.lt_of_lt_of_le r3.lt (Nat.le_trans m7.size m8.size)) (Nat.le_refl _))))).ext m11).ext m12).mod m13 (notin1 (Nat.ne_of_lt (Nat.lt_of_lt_of_le (Nat.lt_of_lt_of_le r3.lt (Nat.le_trans (Nat.le_trans (Nat.le_trans (Nat.le_trans m7.size m8.size) m9.size) m10.size) m11.size)) (Nat.le_refl _))))).ext m14).ext m15).ext m16).ext m17).ext md1).ext m18).ext m19).ext m20).ext m21).mod m22 (notin1 (Nat.ne_of_lt (Nat.lt_of_lt_of_le (Nat.lt_of_lt_of_le r3.lt m7.size) ge2)))).rng rfl rfl rfl) rfl rfl rfl ?_
    refine WL.yes rfl rfl rfl (ltb rfl) rfl rfl ?_
    refine WL.call (oc_call (vs := [.agg #[.slice none 0 0, .int .i64 0, .int .i64 0, .float .f32 0, .float .f32 0, .float .f32 0, .float .f32 0, .float .f32 0, .int .i64 0, .float .f32 0, .float .f32 0, .float .f32 0, .float .f32 0, .float .f32 0, .float .f32 0], .agg #[.slice none 0 0, .int .i64 0, .int .i64 0, .float .f32 0, .float .f32 0, .float .f32 0, .float .f32 0, .float .f32 0, .int .i64 0, .float .f32 0, .float .f32 0, .float .f32 0, .float .f32 0, .float .f32 0, .float .f32 0]]) (cap := []) rfl rfl rfl Try.call27 (c_eqString 0 0 none 0 0 [] (0 : Int) (0 : Int) 0 0 0 0 0 0 0 0 0 0 (0 : Int) 0 0 0 0 0 0 0 0 0 0 0 0 0 none 0 0 0 0 0 0 0 0 0 0 0 0 0 rfl (fun h => absurd h (Nat.lt_irrefl _)) (fun h => absurd h (Nat.lt_irrefl _)) rfl rfl rfl rfl rfl rfl rfl rfl rfl rfl rfl rfl rfl rfl rfl rfl rfl rfl rfl rfl rfl rfl (by omega) w23 (Rng.nil _ _ _) (Rng.nil _ _ _))) rfl rfl (ltb rfl) ?_
    rintro _ w24 ⟨rfl, m23⟩
    refine WL.yes rfl rfl rfl (ltb rfl) rfl rfl ?_
    refine WL.det (op_not rfl) rfl rfl rfl ?_
    refine WL.det (op_pick_f rfl rfl rfl) rfl rfl rfl ?_
    refine WL.det (op_move rfl) rfl rfl rfl ?_
    refine WL.yes rfl rfl rfl (ltb rfl) rfl rfl ?_
    refine WL.det (op_move rfl) rfl rfl rfl ?_
    refine WL.yes rfl rfl rfl (ltb rfl) rfl rfl ?_
    refine WL.op (op_widen (e := (wide 0)) rfl rfl Try.runUnderlying27 Try.runUnderlying67 rfl) rfl rfl (ltb rfl) ?_
    rintro _ w25 ⟨⟨f3, rfl, hf3, lf3⟩, m24⟩
    refine WL.yes rfl rfl rfl (ltb rfl) rfl rfl ?_
    refine WL.det (op_move rfl) rfl rfl rfl ?_
    refine WL.yes rfl rfl rfl (ltb rfl) rfl rfl ?_
    refine WL.op (op_widen (e := (wide 0)) rfl rfl Try.runUnderlying27 Try.runUnderlying67 rfl) rfl rfl (ltb rfl) ?_
    rintro _ w26 ⟨⟨f4, rfl, hf4, lf4⟩, m25⟩
    refine WL.yes rfl rfl rfl (ltb rfl) rfl rfl ?_
    refine WL.call (oc_call (vs := [.float .f64 f3, .float .f64 f4]) (cap := []) rfl rfl rfl Try.call39 (c_sameFloat f3 (wide 0) f4 (wide 0) hf3 hf4 w26)) rfl rfl (ltb rfl) ?_
    rintro _ w27 ⟨rfl, m26⟩
    refine WL.yes rfl rfl rfl (ltb rfl) rfl rfl ?_
    refine WL.det (op_not rfl) rfl rfl rfl ?_
    refine WL.det (op_pick_f rfl rfl rfl) rfl rfl rfl ?_
    refine WL.det (op_move rfl) rfl rfl rfl ?_
    refine WL.yes rfl rfl rfl (ltb rfl) rfl (bnot_t (sameF_self _)) ?_
    refine WL.det (op_move rfl) rfl rfl rfl ?_
    refine WL.yes rfl rfl rfl (ltb rfl) rfl (bnot_t (sameF_self _)) ?_
    refine WL.det (op_move rfl) rfl rfl rfl ?_
    refine WL.yes rfl rfl rfl (ltb rfl) rfl (bnot_t (sameF_self _)) ?_
    refine WL.det (op_nei rfl rfl) rfl rfl rfl ?_
    refine WL.det (op_pick_f rfl (bnot_t (sameF_self _)) rfl) rfl rfl rfl ?_
    refine WL.end ?_
    refine NE.code ?_
    refine CE.cond_f rfl rfl ?_
    refine CE.skip' ?_
    refine NE.code ?_
    refine CE.seq ?_
    refine CE.region ?_
    refine WL.det (op_assign rfl) rfl rfl rfl ?_
    refine WL.end ?_
    refine NE.code ?_
    refine CE.seq ?_
    refine CE.region ?_
    refine WL.det (op_loadA (i := 0) (cs := [.slice none 0 0, .int .i64 0, .int .i64 0, .float .f32 0, .float .f32 0, .float .f32 0, .float .f32 0, .float .f32 0, .int .i64 0, .float .f32 0, .float .f32 0, .float .f32 0, .float .f32 0, .float .f32 0, .float .f32 0]) rfl Try.isAgg33 Try.sizeOf33 ((((((((((((((r12.ext m14).ext m15).ext m16).ext m17).ext md1).ext m18).ext m19).ext m20).ext m21).mod m22 (notin1 (Nat.ne_of_gt (Nat.lt_of_lt_of_le (Nat.lt_of_lt_of_le r6.lt (Nat.le_trans (Nat.le_trans m9.size m10.size) m11.size)) (Nat.le_refl _))))).ext m23).ext m24).ext m25).ext m26).rng rfl rfl rfl) rfl rfl rfl ?_
    refine WL.det (op_move rfl) rfl rfl rfl ?_
    refine WL.call (oc_call (vs := [.agg #[.slice none 0 0, .int .i64 0, .int .i64 0, .float .f32 0, .float .f32 0, .float .f32 0, .float .f32 0, .float .f32 0, .int .i64 0, .float .f32 0, .float .f32 0, .float .f32 0, .float .f32 0, .float .f32 0, .float .f32 0], .int .i64 1]) (cap := []) rfl rfl rfl Try.call28 (c_markString_nil (0 : Int) (0 : Int) 0 0 0 0 0 (0 : Int) 0 0 0 0 0 0 1 (by omega) w27)) rfl rfl (ltb rfl) ?_
    rintro _ w28 ⟨rfl, m27⟩
    refine WL.det (op_assign rfl) rfl rfl rfl ?_
    refine WL.end ?_
    refine NE.code ?_
    refine CE.seq ?_
    refine CE.region ?_
    refine WL.det (op_assign rfl) rfl rfl rfl ?_
    refine WL.end ?_
    refine NE.code ?_
    refine CE.seq ?_
    refine CE.region ?_
    refine WL.det (op_loadA (i := 0) (cs := [.slice none 0 0, .int .i64 0, .int .i64 0, .float .f32 0, .float .f32 0, .float .f32 0, .float .f32 0, .float .f32 0, .int .i64 0, .float .f32 0, .float .f32 0, .float .f32 0, .float .f32 0, .float .f32 0, .float .f32 0]) rfl Try.isAgg33 Try.sizeOf33 (((((((((((((((r12.ext m14).ext m15).ext m16).ext m17).ext md1).ext m18).ext m19).ext m20).ext m21).mod m22 (notin1 (Nat.ne_of_gt (Nat.lt_of_lt_of_le (Nat.lt_of_lt_of_le r6.lt (Nat.le_trans (Nat.le_trans m9.size m10.size) m11.size)) (Nat.le_refl _))))).ext m23).ext m24).ext m25).ext m26).ext m27).rng rfl rfl rfl) rfl rfl rfl ?_
    refine WL.det (op_move rfl) rfl rfl rfl ?_
    refine WL.call (oc_call (vs := [.agg #[.slice none 0 0, .int .i64 0, .int .i64 0, .float .f32 0, .float .f32 0, .float .f32 0, .float .f32 0, .float .f32 0, .int .i64 0, .float .f32 0, .float .f32 0, .float .f32 0, .float .f32 0, .float .f32 0, .float .f32 0], .int .i64 1]) (cap := []) rfl rfl rfl Try.call29 (c_heldString_nil (0 : Int) (0 : Int) 0 0 0 0 0 (0 : Int) 0 0 0 0 0 0 1 (by omega) w28)) rfl rfl (ltb rfl) ?_
    rintro _ w29 ⟨rfl, m28⟩
    refine WL.det (op_assign rfl) rfl rfl rfl ?_
    refine WL.end ?_
    refine NE.code ?_
    refine CE.seq ?_
    refine CE.seq ?_
    refine CE.region ?_
    refine WL.det (op_move rfl) rfl rfl rfl ?_
    refine WL.det (op_lti rfl rfl) rfl rfl rfl ?_
    refine WL.end ?_
    refine NE.code ?_
    refine CE.cond_f rfl rfl ?_
    refine CE.skip' ?_
    refine NE.code ?_
    refine CE.seq ?_
    refine CE.seq ?_
    refine CE.region ?_
    refine WL.det (op_move rfl) rfl rfl rfl ?_
    refine WL.det (op_move rfl) rfl rfl rfl ?_
    refine WL.det (op_nei rfl rfl) rfl rfl rfl ?_
    refine WL.end ?_
    refine NE.code ?_
    refine CE.cond_f rfl rfl ?_
    refine CE.skip' ?_
    refine NE.code ?_
    refine CE.seq ?_
    refine CE.region ?_
    refine WL.det (op_loadA (i := 0) (cs := [.slice ALr nLr cLr, .int .i64 Lj, .int .i64 Tk, .float .f32 Tc0, .float .f32 Tc1, .float .f32 Tc2, .float .f32 Ts0, .float .f32 Ts1, .int .i64 Dk, .float .f32 Dc0, .float .f32 Dc1, .float .f32 Dc2, .float .f32 Ds0, .float .f32 Ds1, .float .f32 g]) rfl Try.isAgg51 Try.sizeOf51 (((((((((((((((((((((((((((r1.ext m3).ext m4).ext m5).ext m6).mod m7 (notin1 (Nat.ne_of_lt (Nat.lt_of_lt_of_le (Nat.lt_of_lt_of_le r1.lt (Nat.le_trans (Nat.le_trans m3.size m4.size) m5.size)) (Nat.le_refl _))))).ext m8).ext m9).mod m10 (notin1 (Nat.ne_of_lt (Nat.lt_of_lt_of_le (Nat.lt_of_lt_of_le r1.lt (Nat.le_trans (Nat.le_trans (Nat.le_trans (Nat.le_trans (Nat.le_trans m3.size m4.size) m5.size) m6.size) m7.size) m8.size)) (Nat.le_refl _))))).ext m11).ext m12).mod m13 (notin1 (Nat.ne_of_lt (Nat.lt_of_lt_of_le (Nat.lt_of_lt_of_le r1.lt (Nat.le_trans (Nat.le_trans (Nat.le_trans (Nat.le_trans (Nat.le_trans (Nat.le_trans (Nat.le_trans (Nat.le_trans m3.size m4.size) m5.size) m6.size) m7.size) m8.size) m9.size) m10.size) m11.size)) (Nat.le_refl _))))).ext m14).ext m15).ext m16).ext m17).ext md1).ext m18).ext m19).ext m20).ext m21).mod m22 (notin1 (Nat.ne_of_lt (Nat.lt_of_lt_of_le (Nat.lt_of_lt_of_le r1.lt (Nat.le_trans (Nat.le_trans (Nat.le_trans (Nat.le_trans m3.size m4.size) m5.size) m6.size) m7.size)) ge2)))).ext m23).ext m24).ext m25).ext m26).ext m27).ext m28).rng rfl rfl rfl) rfl rfl rfl ?_
    refine WL.call (oc_call (vs := [.agg #[.slice ALr nLr cLr, .int .i64 Lj, .int .i64 Tk, .float .f32 Tc0, .float .f32 Tc1, .float .f32 Tc2, .float .f32 Ts0, .float .f32 Ts1, .int .i64 Dk, .float .f32 Dc0, .float .f32 Dc1, .float .f32 Dc2, .float .f32 Ds0, .float .f32 Ds1, .float .f32 g]]) (cap := []) rfl rfl rfl Try.call26 (c_toString nLr cLr ALr bLr oLr xLr Lj Tk Tc0 Tc1 Tc2 Ts0 Ts1 Dk Dc0 Dc1 Dc2 Ds0 Ds1 g lnLr hALr (by omega) w29 (((((((Rng.young rLr ((((((((((Rng.young rLr (((Rng.young rLr (((Rng.young rLr (((((rLr.ext m1).ext m3).ext m4).ext m5).ext m6) m7 rfl (Nat.le_trans (Nat.le_trans (Nat.le_trans (Nat.le_trans m1.size m3.size) m4.size) m5.size) (Nat.le_refl _))).ext m8).ext m9) m10 rfl (Nat.le_trans (Nat.le_trans (Nat.le_trans (Nat.le_trans (Nat.le_trans (Nat.le_trans (Nat.le_trans m1.size m3.size) m4.size) m5.size) m6.size) m7.size) m8.size) (Nat.le_refl _))).ext m11).ext m12) m13 rfl (Nat.le_trans (Nat.le_trans (Nat.le_trans (Nat.le_trans (Nat.le_trans (Nat.le_trans (Nat.le_trans (Nat.le_trans (Nat.le_trans (Nat.le_trans m1.size m3.size) m4.size) m5.size) m6.size) m7.size) m8.size) m9.size) m10.size) m11.size) (Nat.le_refl _))).ext m14).ext m15).ext m16).ext m17).ext md1).ext m18).ext m19).ext m20).ext m21) m22 rfl (Nat.le_trans (Nat.le_trans (Nat.le_trans (Nat.le_trans (Nat.le_trans (Nat.le_trans m1.size m3.size) m4.size) m5.size) m6.size) m7.size) ge2)).ext m23).ext m24).ext m25).ext m26).ext m27).ext m28))) rfl rfl (ltb rfl) ?_
    rintro _ w30 ⟨bLr'4, rfl, r15, ge4, m29⟩
    refine WL.det (op_move rfl) rfl rfl rfl ?_
    refine WL.call (oc_call (vs := [.agg #[.slice (some ⟨bLr'4, 0, none⟩) nLr nLr, .int .i64 Lj, .int .i64 Tk, .float .f32 Tc0, .float .f32 Tc1, .float .f32 Tc2, .float .f32 Ts0, .float .f32 Ts1, .int .i64 Dk, .float .f32 Dc0, .float .f32 Dc1, .float .f32 Dc2, .float .f32 Ds0, .float .f32 Ds1, .float .f32 g], .float .f32 a]) (cap := []) rfl rfl rfl Try.call34 (c_iStepStr_bad nLr nLr bLr'4 xLr Lj Tk Tc0 Tc1 Tc2 Ts0 Ts1 Dk Dc0 Dc1 Dc2 Ds0 Ds1 g a lnLr (by omega) (by first | assumption | exact W32.get (by assumption) _ | decide +kernel) (by first | assumption | exact W32.get (by assumption) _ | decide +kernel) (by first | assumption | exact W32.get (by assumption) _ | decide +kernel) (by first | assumption | exact W32.get (by assumption) _ | decide +kernel) la (by assumption) w30 r15.rng)) rfl rfl (ltb rfl) ?_
    rintro _ w31 ⟨rfl, m30⟩
    refine WL.det (op_move rfl) rfl rfl rfl ?_
    refine WL.det (op_extract rfl rfl) rfl rfl rfl ?_
    refine WL.det (op_extract rfl rfl) rfl rfl rfl ?_
    refine WL.det (op_extract rfl rfl) rfl rfl rfl ?_
    refine WL.op (op_alloc (cs := [.slice none 0 0, .int .i64 0, .int .i64 0, .float .f32 0, .float .f32 0, .float .f32 0, .float .f32 0, .float .f32 0, .int .i64 0, .float .f32 0, .float .f32 0, .float .f32 0, .float .f32 0, .float .f32 0, .float .f32 0]) Try.zeroValue33 rfl) rfl rfl (ltb rfl) ?_
    rintro _ w32 ⟨rfl, r16, m31, z8⟩
    refine WL.op0 (op_store (i := 0) (cs := [.slice none 0 0, .int .i64 0, .int .i64 0, .float .f32 0, .float .f32 0, .float .f32 0, .float .f32 0, .float .f32 0, .int .i64 0, .float .f32 0, .float .f32 0, .float .f32 0, .float .f32 0, .float .f32 0, .float .f32 0]) rfl rfl rfl Try.sizeOf33 rfl r16 rfl (Nat.le_of_ble_eq_true rfl) rfl) rfl rfl ?_
    rintro _ w33 ⟨r17, m32, z9⟩
    have r18 : Row w33 w31.heap.size 0 [.slice none 0 0, .int .i64 0, .int .i64 0, .float .f32 0, .float .f32 0, .float .f32 0, .float .f32 0, .float .f32 0, .int .i64 0, .float .f32 0, .float .f32 0, .float .f32 0, .float .f32 0, .float .f32 0, .float .f32 0] := Row.congr r17 rfl
    refine WL.det (op_assign rfl) rfl rfl rfl ?_
    refine WL.det (op_assign rfl) rfl rfl rfl ?_
    refine WL.end ?_
    refine NE.code ?_
    refine CE.seq ?_
    refine CE.seq ?_
    refine CE.region ?_
    refine WL.det (op_loadA (i := 0) (cs := [.slice none 0 0, .int .i64 0, .int .i64 0, .float .f32 0, .float .f32 0, .float .f32 0, .float .f32 0, .float .f32 0, .int .i64 0, .float .f32 0, .float .f32 0, .float .f32 0, .float .f32 0, .float .f32 0, .float .f32 0]) rfl Try.isAgg33 Try.sizeOf33 r18.rng rfl rfl rfl) rfl rfl rfl ?_
    refine WL.det (op_loadA (i := 0) (cs := [.slice none 0 0, .int .i64 0, .int .i64 0, .float .f32 0, .float .f32 0, .float .f32 0, .float .f32 0, .float .f32 0, .int .i64 0, .float .f32 0, .float .f32 0, .float .f32 0, .float .f32 0, .float .f32 0, .float .f32 0]) rfl Try.isAgg33 Try.sizeOf33 ((((((((((((((((((((((((((r5.ext m8).ext m9).mod m10 (notin1 (Nat.ne_of_lt (Nat.lt_of_lt_of_le (Nat.lt_of_lt_of_le r3.lt (Nat.le_trans m7.size m8.size)) (Nat.le_refl _))))).ext m11).ext m12).mod m13 (notin1 (Nat.ne_of_lt (Nat.lt_of_lt_of_le (Nat.lt_of_lt_of_le r3.lt (Nat.le_trans (Nat.le_trans (Nat.le_trans (Nat.le_trans m7.size m8.size) m9.size) m10.size) m11.size)) (Nat.le_refl _))))).ext m14).ext m15).ext m16).ext m17).ext md1).ext m18).ext m19).ext m20).ext m21).mod m22 (notin1 (Nat.ne_of_lt (Nat.lt_of_lt_of_le (Nat.lt_of_lt_of_le r3.lt m7.size) ge2)))).ext m23).ext m24).ext m25).ext m26).ext m27).ext m28).ext m29).ext m30).ext m31).mod m32 (notin1 (Nat.ne_of_lt (Nat.lt_of_lt_of_le (Nat.lt_of_lt_of_le r3.lt (Nat.le_trans (Nat.le_trans (Nat.le_trans (Nat.le_trans (Nat.le_trans (Nat.le_trans (Nat.le_trans (Nat.le_trans (Nat.le_trans (Nat.le_trans (Nat.le_trans (Nat.le_trans (Nat.le_trans (Nat.le_trans (Nat.le_trans (Nat.le_trans (Nat.le_trans (Nat.le_trans (Nat.le_trans (Nat.le_trans (Nat.le_trans (Nat.le_trans (Nat.le_trans (Nat.le_trans m7.size m8.size) m9.size) m10.size) m11.size) m12.size) m13.size) m14.size) m15.size) m16.size) m17.size) md1.size) m18.size) m19.size) m20.size) m21.size) m22.size) m23.size) m24.size) m25.size) m26.size) m27.size) m28.size) m29.size) m30.size)) (Nat.le_refl _))))).rng rfl rfl rfl) rfl rfl rfl ?_
    refine WL.call (oc_call (vs := [.agg #[.slice none 0 0, .int .i64 0, .int .i64 0, .float .f32 0, .float .f32 0, .float .f32 0, .float .f32 0, .float .f32 0, .int .i64 0, .float .f32 0, .float .f32 0, .float .f32 0, .float .f32 0, .float .f32 0, .float .f32 0], .agg #[.slice none 0 0, .int .i64 0, .int .i64 0, .float .f32 0, .float .f32 0, .float .f32 0, .float .f32 0, .float .f32 0, .int .i64 0, .float .f32 0, .float .f32 0, .float .f32 0, .float .f32 0, .float .f32 0, .float .f32 0]]) (cap := []) rfl rfl rfl Try.call27 (c_eqString 0 0 none 0 0 [] (0 : Int) (0 : Int) 0 0 0 0 0 0 0 0 0 0 (0 : Int) 0 0 0 0 0 0 0 0 0 0 0 0 0 none 0 0 0 0 0 0 0 0 0 0 0 0 0 rfl (fun h => absurd h (Nat.lt_irrefl _)) (fun h => absurd h (Nat.lt_irrefl _)) rfl rfl rfl rfl rfl rfl rfl rfl rfl rfl rfl rfl rfl rfl rfl rfl rfl rfl rfl rfl rfl rfl (by omega) w33 (Rng.nil _ _ _) (Rng.nil _ _ _))) rfl rfl (ltb rfl) ?_
    rintro _ w34 ⟨rfl, m33⟩
    refine WL.det (op_not rfl) rfl rfl rfl ?_
    refine WL.det (op_move rfl) rfl rfl rfl ?_
    refine WL.yes rfl rfl rfl (ltb rfl) rfl rfl ?_
    refine WL.det (op_move rfl) rfl rfl rfl ?_
    refine WL.yes rfl rfl rfl (ltb rfl) rfl rfl ?_
    refine WL.op (op_widen (e := (wide 0)) rfl rfl Try.runUnderlying27 Try.runUnderlying67 rfl) rfl rfl (ltb rfl) ?_
    rintro _ w35 ⟨⟨f5, rfl, hf5, lf5⟩, m34⟩
    refine WL.yes rfl rfl rfl (ltb rfl) rfl rfl ?_
    refine WL.det (op_move rfl) rfl rfl rfl ?_
    refine WL.yes rfl rfl rfl (ltb rfl) rfl rfl ?_
    refine WL.op (op_widen (e := (wide 0)) rfl rfl Try.runUnderlying27 Try.runUnderlying67 rfl) rfl rfl (ltb rfl) ?_
    rintro _ w36 ⟨⟨f6, rfl, hf6, lf6⟩, m35⟩
    refine WL.yes rfl rfl rfl (ltb rfl) rfl rfl ?_
    refine WL.call (oc_call (vs := [.float .f64 f5, .float .f64 f6]) (cap := []) rfl rfl rfl Try.call39 (c_sameFloat f5 (wide 0) f6 (wide 0) hf5 hf6 w36)) rfl rfl (ltb rfl) ?_
    rintro _ w37 ⟨rfl, m36⟩
    refine WL.yes rfl rfl rfl (ltb rfl) rfl rfl ?_
    refine WL.det (op_not rfl) rfl rfl rfl ?_
    refine WL.det (op_pick_f rfl rfl rfl) rfl rfl rfl ?_
    refine WL.det (op_move rfl) rfl rfl rfl ?_
    refine WL.yes rfl rfl rfl (ltb rfl) rfl (bnot_t (sameF_self _)) ?_
    refine WL.det (op_move rfl) rfl rfl rfl ?_
    refine WL.yes rfl rfl rfl (ltb rfl) rfl (bnot_t (sameF_self _)) ?_
    refine WL.det (op_move rfl) rfl rfl rfl ?_
    refine WL.yes rfl rfl rfl (ltb rfl) rfl (bnot_t (sameF_self _)) ?_
    refine WL.det (op_nei rfl rfl) rfl rfl rfl ?_
    refine WL.det (op_pick_f rfl (bnot_t (sameF_self _)) rfl) rfl rfl rfl ?_
    refine WL.end ?_
    refine NE.code ?_
    refine CE.cond_f rfl rfl ?_
    refine CE.skip' ?_
    refine NE.code ?_
    refine CE.seq ?_
    refine CE.region ?_
    refine WL.det (op_assign rfl) rfl rfl rfl ?_
    refine WL.end ?_
    refine NE.code ?_
    refine CE.seq ?_
    refine CE.region ?_
    refine WL.det (op_loadA (i := 0) (cs := [.slice none 0 0, .int .i64 0, .int .i64 0, .float .f32 0, .float .f32 0, .float .f32 0, .float .f32 0, .float .f32 0, .int .i64 0, .float .f32 0, .float .f32 0, .float .f32 0, .float .f32 0, .float .f32 0, .float .f32 0]) rfl Try.isAgg33 Try.sizeOf33 ((((((((((((((((((((((((r12.ext m14).ext m15).ext m16).ext m17).ext md1).ext m18).ext m19).ext m20).ext m21).mod m22 (notin1 (Nat.ne_of_gt (Nat.lt_of_lt_of_le (Nat.lt_of_lt_of_le r6.lt (Nat.le_trans (Nat.le_trans m9.size m10.size) m11.size)) (Nat.le_refl _))))).ext m23).ext m24).ext m25).ext m26).ext m27).ext m28).ext m29).ext m30).ext m31).mod m32 (notin1 (Nat.ne_of_lt (Nat.lt_of_lt_of_le (Nat.lt_of_lt_of_le r10.lt (Nat.le_trans (Nat.le_trans (Nat.le_trans (Nat.le_trans (Nat.le_trans (Nat.le_trans (Nat.le_trans (Nat.le_trans (Nat.le_trans (Nat.le_trans (Nat.le_trans (Nat.le_trans (Nat.le_trans (Nat.le_trans (Nat.le_trans (Nat.le_trans (Nat.le_trans (Nat.le_trans m13.size m14.size) m15.size) m16.size) m17.size) md1.size) m18.size) m19.size) m20.size) m21.size) m22.size) m23.size) m24.size) m25.size) m26.size) m27.size) m28.size) m29.size) m30.size)) (Nat.le_refl _))))).ext m33).ext m34).ext m35).ext m36).rng rfl rfl rfl) rfl rfl rfl ?_
    refine WL.det (op_move rfl) rfl rfl rfl ?_
    refine WL.call (oc_call (vs := [.agg #[.slice none 0 0, .int .i64 0, .int .i64 0, .float .f32 0, .float .f32 0, .float .f32 0, .float .f32 0, .float .f32 0, .int .i64 0, .float .f32 0, .float .f32 0, .float .f32 0, .float .f32 0, .float .f32 0, .float .f32 0], .int .i64 1]) (cap := []) rfl rfl rfl Try.call29 (c_heldString_nil (0 : Int) (0 : Int) 0 0 0 0 0 (0 : Int) 0 0 0 0 0 0 1 (by omega) w37)) rfl rfl (ltb rfl) ?_
    rintro _ w38 ⟨rfl, m37⟩
    refine WL.det (op_assign rfl) rfl rfl rfl ?_
    refine WL.end ?_
    refine NE.code ?_
    refine CE.seq ?_
    refine CE.seq ?_
    refine CE.region ?_
    refine WL.det (op_move rfl) rfl rfl rfl ?_
    refine WL.det (op_lti rfl rfl) rfl rfl rfl ?_
    refine WL.end ?_
    refine NE.code ?_
    refine CE.cond_f rfl rfl ?_
    refine CE.skip' ?_
    refine NE.code ?_
    refine CE.seq ?_
    refine CE.seq ?_
    refine CE.region ?_
    refine WL.det (op_move rfl) rfl rfl rfl ?_
    refine WL.det (op_move rfl) rfl rfl rfl ?_
    refine WL.det (op_nei rfl rfl) rfl rfl rfl ?_
    refine WL.end ?_
    refine NE.code ?_
    refine CE.cond_f rfl rfl ?_
    refine CE.skip' ?_
    refine NE.code ?_
    refine CE.seq ?_
    refine CE.region ?_
    refine WL.det (op_assign rfl) rfl rfl rfl ?_
    refine WL.end ?_
    refine NE.code ?_
    refine CE.ret' ?_
    refine XE.leave1 Try.results7 rfl ?_
    refine ⟨rfl, ((((((((((((((((((((((((((((((((((((((Mod.refl [] w).nil_then m1).nil_then m3).nil_then m4).nil_then m5).nil_then m6).then m7 (allow1 (.inr (Nat.le_trans (Nat.le_trans (Nat.le_trans (Nat.le_trans m1.size m3.size) m4.size) m5.size) (Nat.le_refl _))))).nil_then m8).nil_then m9).then m10 (allow1 (.inr (Nat.le_trans (Nat.le_trans (Nat.le_trans (Nat.le_trans (Nat.le_trans (Nat.le_trans (Nat.le_trans m1.size m3.size) m4.size) m5.size) m6.size) m7.size) m8.size) (Nat.le_refl _))))).nil_then m11).nil_then m12).then m13 (allow1 (.inr (Nat.le_trans (Nat.le_trans (Nat.le_trans (Nat.le_trans (Nat.le_trans (Nat.le_trans (Nat.le_trans (Nat.le_trans (Nat.le_trans (Nat.le_trans m1.size m3.size) m4.size) m5.size) m6.size) m7.size) m8.size) m9.size) m10.size) m11.size) (Nat.le_refl _))))).nil_then m14).nil_then m15).nil_then m16).nil_then m17).nil_then md1).nil_then m18).nil_then m19).nil_then m20).nil_then m21).then m22 (allow1 (.inr (Nat.le_trans (Nat.le_trans (Nat.le_trans (Nat.le_trans (Nat.le_trans (Nat.le_trans m1.size m3.size) m4.size) m5.size) m6.size) m7.size) ge2)))).nil_then m23).nil_then m24).nil_then m25).nil_then m26).nil_then m27).nil_then m28).nil_then m29).nil_then m30).nil_then m31).then m32 (allow1 (.inr (Nat.le_trans (Nat.le_trans (Nat.le_trans (Nat.le_trans (Nat.le_trans (Nat.le_trans (Nat.le_trans (Nat.le_trans (Nat.le_trans (Nat.le_trans (Nat.le_trans (Nat.le_trans (Nat.le_trans (Nat.le_trans (Nat.le_trans (Nat.le_trans (Nat.le_trans (Nat.le_trans (Nat.le_trans (Nat.le_trans (Nat.le_trans (Nat.le_trans (Nat.le_trans (Nat.le_trans (Nat.le_trans (Nat.le_trans (Nat.le_trans (Nat.le_trans (Nat.le_trans (Nat.le_trans m1.size m3.size) m4.size) m5.size) m6.size) m7.size) m8.size) m9.size) m10.size) m11.size) m12.size) m13.size) m14.size) m15.size) m16.size) m17.size) md1.size) m18.size) m19.size) m20.size) m21.size) m22.size) m23.size) m24.size) m25.size) m26.size) m27.size) m28.size) m29.size) m30.size) (Nat.le_refl _))))).nil_then m33).nil_then m34).nil_then m35).nil_then m36).nil_then m37)⟩

end Go.Proofs.Ytabfdgpldcegiaa
