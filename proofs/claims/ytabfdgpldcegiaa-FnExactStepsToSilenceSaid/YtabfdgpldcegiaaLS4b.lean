/- The law on the steps to silence, walked. -/
import Derived.Test.YtabfdgpldcegiaaG5
import Derived.Test.YtabfdgpldcegiaaE8
set_option linter.unusedVariables false
set_option linter.unusedSimpArgs false
namespace Go.Proofs.Ytabfdgpldcegiaa

set_option maxRecDepth 100000 in
set_option maxHeartbeats 2000000 in
theorem law_silence_out (nLr : Nat) (cLr : Nat) (ALr : Option Addr) (bLr : Nat) (oLr : Nat) (xLr : List Nat) (Lj : Int) (Tk : Int) (Tc0 : Nat) (Tc1 : Nat) (Tc2 : Nat) (Ts0 : Nat) (Ts1 : Nat) (Dk : Int) (Dc0 : Nat) (Dc1 : Nat) (Dc2 : Nat) (Ds0 : Nat) (Ds1 : Nat) (g : Nat) (cn_ : Int) (lnLr : xLr.length = nLr) (hALr : 0 < nLr → ALr = some ⟨bLr, oLr, none⟩) (wLr : W32 xLr) (hn : nLr ≤ 1024) (lTs0 : Ts0 < wid .f32) (lTs1 : Ts1 < wid .f32) (lDs0 : Ds0 < wid .f32) (lDs1 : Ds1 < wid .f32) (hv : vStr nLr Lj Tk Tc0 Tc1 Tc2 Ts0 Ts1 Dk Dc0 Dc1 Dc2 Ds0 Ds1 g = true) (hq : vIn cn_ (0 : Int) (100000 : Int) = false) (w : World) (rLr : Rng w bLr oLr (fl xLr)) : Cl Try.prog 10 #[.agg #[.slice ALr nLr cLr, vI Lj, vI Tk, vF Tc0, vF Tc1, vF Tc2, vF Ts0, vF Ts1, vI Dk, vF Dc0, vF Dc1, vF Dc2, vF Ds0, vF Ds1, vF g], vI cn_] w fun v w' => v = .bool true ∧ Mod [] w w' := by
  refine Cl.of Try.func10 Try.ntmps10 rfl rfl (ρ := [(0, .agg #[.slice ALr nLr cLr, vI Lj, vI Tk, vF Tc0, vF Tc1, vF Tc2, vF Ts0, vF Ts1, vI Dk, vF Dc0, vF Dc1, vF Dc2, vF Ds0, vF Ds1, vF g]), (1, vI cn_)]) rfl ?_
  refine CE.seq ?_
  refine CE.region ?_
  refine WL.op (op_box (cs := [.slice ALr nLr cLr, vI Lj, vI Tk, vF Tc0, vF Tc1, vF Tc2, vF Ts0, vF Ts1, vI Dk, vF Dc0, vF Dc1, vF Dc2, vF Ds0, vF Ds1, vF g]) rfl rfl) rfl rfl (ltb rfl) ?_
  rintro _ w1 ⟨rfl, r1, m1, z1⟩
  refine WL.det (op_assign rfl) rfl rfl rfl ?_
  refine WL.end ?_
  refine NE.code ?_
  refine CE.seq ?_
  refine CE.region ?_
  refine WL.det (op_assign rfl) rfl rfl rfl ?_
  refine WL.end ?_
  refine NE.code ?_
  refine CE.seq ?_
  refine CE.region ?_
  refine WL.det (op_loadA (i := 0) (cs := [.slice ALr nLr cLr, vI Lj, vI Tk, vF Tc0, vF Tc1, vF Tc2, vF Ts0, vF Ts1, vI Dk, vF Dc0, vF Dc1, vF Dc2, vF Ds0, vF Ds1, vF g]) rfl Try.isAgg51 Try.sizeOf51 r1.rng rfl rfl rfl) rfl rfl rfl ?_
  refine WL.det (op_move rfl) rfl rfl rfl ?_
  refine WL.call (oc_call (vs := [.agg #[.slice ALr nLr cLr, vI Lj, vI Tk, vF Tc0, vF Tc1, vF Tc2, vF Ts0, vF Ts1, vI Dk, vF Dc0, vF Dc1, vF Dc2, vF Ds0, vF Ds1, vF g], vI 1048576]) (cap := []) rfl rfl rfl Try.call25 (c_szString 1048576 nLr cLr ALr Lj Tk Tc0 Tc1 Tc2 Ts0 Ts1 Dk Dc0 Dc1 Dc2 Ds0 Ds1 g (by omega) (by omega) w1)) rfl rfl (ltb rfl) ?_
  rintro _ w2 ⟨rfl, m2⟩
  refine WL.det (op_assign rfl) rfl rfl rfl ?_
  refine WL.end ?_
  refine NE.code ?_
  refine CE.seq ?_
  refine CE.seq ?_
  refine CE.region ?_
  refine WL.det (op_move rfl) rfl rfl rfl ?_
  refine WL.det (op_lti_f rfl rfl (by omega)) rfl rfl rfl ?_
  refine WL.end ?_
  refine NE.code ?_
  refine CE.cond_f rfl rfl ?_
  refine CE.skip' ?_
  refine NE.code ?_
  refine CE.seq ?_
  refine CE.region ?_
  refine WL.det (op_loadA (i := 0) (cs := [.slice ALr nLr cLr, vI Lj, vI Tk, vF Tc0, vF Tc1, vF Tc2, vF Ts0, vF Ts1, vI Dk, vF Dc0, vF Dc1, vF Dc2, vF Ds0, vF Ds1, vF g]) rfl Try.isAgg51 Try.sizeOf51 (r1.ext m2).rng rfl rfl rfl) rfl rfl rfl ?_
  refine WL.call (oc_call (vs := [.agg #[.slice ALr nLr cLr, vI Lj, vI Tk, vF Tc0, vF Tc1, vF Tc2, vF Ts0, vF Ts1, vI Dk, vF Dc0, vF Dc1, vF Dc2, vF Ds0, vF Ds1, vF g]]) (cap := []) rfl rfl rfl Try.call26 (c_toString nLr cLr ALr bLr oLr xLr Lj Tk Tc0 Tc1 Tc2 Ts0 Ts1 Dk Dc0 Dc1 Dc2 Ds0 Ds1 g lnLr hALr (by omega) w2 ((rLr.ext m1).ext m2))) rfl rfl (ltb rfl) ?_
  rintro _ w3 ⟨bLr'1, rfl, r2, ge1, m3⟩
  refine WL.det (op_move rfl) rfl rfl rfl ?_
  refine WL.call (oc_call (vs := [.agg #[vS bLr'1 0 nLr nLr, vI Lj, vI Tk, vF Tc0, vF Tc1, vF Tc2, vF Ts0, vF Ts1, vI Dk, vF Dc0, vF Dc1, vF Dc2, vF Ds0, vF Ds1, vF g], vI cn_]) (cap := []) rfl rfl rfl Try.call22 (c_sSil_out nLr nLr bLr'1 xLr Lj Tk Tc0 Tc1 Tc2 Ts0 Ts1 Dk Dc0 Dc1 Dc2 Ds0 Ds1 g cn_ lnLr (by omega) (by first | assumption | exact W32.get (by assumption) _ | decide +kernel) (by first | assumption | exact W32.get (by assumption) _ | decide +kernel) (by first | assumption | exact W32.get (by assumption) _ | decide +kernel) (by first | assumption | exact W32.get (by assumption) _ | decide +kernel) (by assumption) (by assumption) w3 r2.rng)) rfl rfl (ltb rfl) ?_
  rintro _ w4 ⟨rfl, m4⟩
  refine WL.det (op_move rfl) rfl rfl rfl ?_
  refine WL.det (op_extract rfl rfl) rfl rfl rfl ?_
  refine WL.det (op_extract rfl rfl) rfl rfl rfl ?_
  refine WL.det (op_assign rfl) rfl rfl rfl ?_
  refine WL.det (op_assign rfl) rfl rfl rfl ?_
  refine WL.end ?_
  refine NE.code ?_
  refine CE.seq ?_
  refine CE.region ?_
  refine WL.det (op_loadA (i := 0) (cs := [.slice ALr nLr cLr, vI Lj, vI Tk, vF Tc0, vF Tc1, vF Tc2, vF Ts0, vF Ts1, vI Dk, vF Dc0, vF Dc1, vF Dc2, vF Ds0, vF Ds1, vF g]) rfl Try.isAgg51 Try.sizeOf51 (((r1.ext m2).ext m3).ext m4).rng rfl rfl rfl) rfl rfl rfl ?_
  refine WL.call (oc_call (vs := [.agg #[.slice ALr nLr cLr, vI Lj, vI Tk, vF Tc0, vF Tc1, vF Tc2, vF Ts0, vF Ts1, vI Dk, vF Dc0, vF Dc1, vF Dc2, vF Ds0, vF Ds1, vF g]]) (cap := []) rfl rfl rfl Try.call26 (c_toString nLr cLr ALr bLr oLr xLr Lj Tk Tc0 Tc1 Tc2 Ts0 Ts1 Dk Dc0 Dc1 Dc2 Ds0 Ds1 g lnLr hALr (by omega) w4 ((((rLr.ext m1).ext m2).ext m3).ext m4))) rfl rfl (ltb rfl) ?_
  rintro _ w5 ⟨bLr'2, rfl, r3, ge2, m5⟩
  refine WL.op (op_alloc (cs := [.slice none 0 0, vI 0, vI 0, vF 0, vF 0, vF 0, vF 0, vF 0, vI 0, vF 0, vF 0, vF 0, vF 0, vF 0, vF 0]) Try.zeroValue33 rfl) rfl rfl (ltb rfl) ?_
  rintro _ w6 ⟨rfl, r4, m6, z2⟩
  refine WL.op0 (op_store (i := 0) (cs := [vS bLr'2 0 nLr nLr, vI Lj, vI Tk, vF Tc0, vF Tc1, vF Tc2, vF Ts0, vF Ts1, vI Dk, vF Dc0, vF Dc1, vF Dc2, vF Ds0, vF Ds1, vF g]) rfl rfl rfl Try.sizeOf33 rfl r4 rfl (lB rfl) rfl) rfl rfl ?_
  rintro _ w7 ⟨r5, m7, z3⟩
  have r6 : Row w7 w5.heap.size 0 [vS bLr'2 0 nLr nLr, vI Lj, vI Tk, vF Tc0, vF Tc1, vF Tc2, vF Ts0, vF Ts1, vI Dk, vF Dc0, vF Dc1, vF Dc2, vF Ds0, vF Ds1, vF g] := Row.congr r5 rfl
  refine WL.end ?_
  refine NE.code ?_
  refine CE.seq ?_
  refine CE.region ?_
  refine WL.det (op_loadA (i := 0) (cs := [vS bLr'2 0 nLr nLr, vI Lj, vI Tk, vF Tc0, vF Tc1, vF Tc2, vF Ts0, vF Ts1, vI Dk, vF Dc0, vF Dc1, vF Dc2, vF Ds0, vF Ds1, vF g]) rfl Try.isAgg33 Try.sizeOf33 r6.rng rfl rfl rfl) rfl rfl rfl ?_
  refine WL.det (op_move rfl) rfl rfl rfl ?_
  refine WL.call (oc_call (vs := [.agg #[vS bLr'2 0 nLr nLr, vI Lj, vI Tk, vF Tc0, vF Tc1, vF Tc2, vF Ts0, vF Ts1, vI Dk, vF Dc0, vF Dc1, vF Dc2, vF Ds0, vF Ds1, vF g], vI cn_]) (cap := []) rfl rfl rfl Try.call21 (c_iSil_out nLr nLr bLr'2 xLr Lj Tk Tc0 Tc1 Tc2 Ts0 Ts1 Dk Dc0 Dc1 Dc2 Ds0 Ds1 g cn_ lnLr (by omega) (by first | assumption | exact W32.get (by assumption) _ | decide +kernel) (by first | assumption | exact W32.get (by assumption) _ | decide +kernel) (by first | assumption | exact W32.get (by assumption) _ | decide +kernel) (by first | assumption | exact W32.get (by assumption) _ | decide +kernel) (by assumption) (by assumption) w7 ((r3.ext m6).mod m7 (nC (lE (lL r3.lt lR)) nN)).rng)) rfl rfl (ltb rfl) ?_
  rintro _ w8 ⟨rfl, m8⟩
  refine WL.det (op_move rfl) rfl rfl rfl ?_
  refine WL.det (op_extract rfl rfl) rfl rfl rfl ?_
  refine WL.det (op_extract rfl rfl) rfl rfl rfl ?_
  refine WL.det (op_assign rfl) rfl rfl rfl ?_
  refine WL.det (op_assign rfl) rfl rfl rfl ?_
  refine WL.end ?_
  refine NE.code ?_
  refine CE.seq ?_
  refine CE.seq ?_
  refine CE.region ?_
  refine WL.det (op_move rfl) rfl rfl rfl ?_
  refine WL.det (op_move rfl) rfl rfl rfl ?_
  refine WL.det (op_nei rfl rfl) rfl rfl rfl ?_
  refine WL.det (op_move rfl) rfl rfl rfl ?_
  refine WL.yes rfl rfl rfl (ltb rfl) rfl rfl ?_
  refine WL.det (op_move rfl) rfl rfl rfl ?_
  refine WL.yes rfl rfl rfl (ltb rfl) rfl rfl ?_
  refine WL.det (op_move rfl) rfl rfl rfl ?_
  refine WL.yes rfl rfl rfl (ltb rfl) rfl rfl ?_
  refine WL.det (op_nei rfl rfl) rfl rfl rfl ?_
  refine WL.det (op_pick_f rfl rfl rfl) rfl rfl rfl ?_
  refine WL.end ?_
  refine NE.code ?_
  refine CE.cond_f rfl rfl ?_
  refine CE.skip' ?_
  refine NE.code ?_
  refine CE.seq ?_
  refine CE.seq ?_
  refine CE.draw (fun | 2 => some (fun _ wA uA wB => ∃ (bLr' : Nat), uA = .agg #[vS bLr' 0 nLr nLr, vI Lj, vI Tk, vF Tc0, vF Tc1, vF Tc2, vF Ts0, vF Ts1, vI Dk, vF Dc0, vF Dc1, vF Dc2, vF Ds0, vF Ds1, vF g] ∧ Row wB bLr' 0 (fl xLr) ∧ wA.heap.size ≤ bLr' ∧ Mod [] wA wB) | _ => none) [0, 1, 2] [3, 4] [] (by kernel_rfl) (by kernel_rfl) ?_
  have md1 : Mod [] w8 w8.drew := (Mod.refl _ _).drew
  generalize w8.drew = w9 at md1 ⊢
  refine DR.det (i := 0) rfl rfl (by kernel_rfl) (.free rfl) rfl rfl (fun wD mD => op_loadA (i := 0) (cs := [vS bLr'2 0 nLr nLr, vI Lj, vI Tk, vF Tc0, vF Tc1, vF Tc2, vF Ts0, vF Ts1, vI Dk, vF Dc0, vF Dc1, vF Dc2, vF Ds0, vF Ds1, vF g]) rfl Try.isAgg33 Try.sizeOf33 (((r6.ext m8).ext md1).ext mD).rng rfl rfl rfl) ?_
  refine DR.det (i := 1) rfl rfl (by kernel_rfl) (.free rfl) rfl rfl (fun wD mD => op_loadA (i := 0) (cs := [.slice ALr nLr cLr, vI Lj, vI Tk, vF Tc0, vF Tc1, vF Tc2, vF Ts0, vF Ts1, vI Dk, vF Dc0, vF Dc1, vF Dc2, vF Ds0, vF Ds1, vF g]) rfl Try.isAgg51 Try.sizeOf51 (((((((((r1.ext m2).ext m3).ext m4).ext m5).ext m6).mod m7 (nC (lE (lL (lL r1.lt (lT (lT (lT m2.size m3.size) m4.size) m5.size)) lR)) nN)).ext m8).ext md1).ext mD).rng rfl rfl rfl) ?_
  refine DR.one (i := 2) rfl rfl (by kernel_rfl) (.free rfl) rfl (ltb rfl) (vs := [.func (.func 26) #[] #[], .agg #[.slice ALr nLr cLr, vI Lj, vI Tk, vF Tc0, vF Tc1, vF Tc2, vF Ts0, vF Ts1, vI Dk, vF Dc0, vF Dc1, vF Dc2, vF Ds0, vF Ds1, vF g]]) rfl ?_
  intro w10 m9
  refine ⟨oc_call (vs := [.agg #[.slice ALr nLr cLr, vI Lj, vI Tk, vF Tc0, vF Tc1, vF Tc2, vF Ts0, vF Ts1, vI Dk, vF Dc0, vF Dc1, vF Dc2, vF Ds0, vF Ds1, vF g]]) (cap := []) rfl rfl rfl Try.call26 (c_toString nLr cLr ALr bLr oLr xLr Lj Tk Tc0 Tc1 Tc2 Ts0 Ts1 Dk Dc0 Dc1 Dc2 Ds0 Ds1 g lnLr hALr (by omega) w10 ((((Rng.youngS rLr ((((((rLr.ext m1).ext m2).ext m3).ext m4).ext m5).ext m6) m7 (allge_cons (lT (lT (lT (lT (lT m1.size m2.size) m3.size) m4.size) m5.size) lR) allge_nil)).ext m8).ext md1).ext m9)), ?_⟩
  rintro _ w11 ⟨bLr'3, rfl, r7, ge3, m10⟩
  refine ⟨(((Mod.refl [] w9).nt m9).nt m10), ?_⟩
  refine DR.done rfl ?_
  intro w12 m11
  refine WO.call rfl (.free rfl) rfl (ltb rfl) (oc_call (vs := [.agg #[vS bLr'2 0 nLr nLr, vI Lj, vI Tk, vF Tc0, vF Tc1, vF Tc2, vF Ts0, vF Ts1, vI Dk, vF Dc0, vF Dc1, vF Dc2, vF Ds0, vF Ds1, vF g], .agg #[vS bLr'3 0 nLr nLr, vI Lj, vI Tk, vF Tc0, vF Tc1, vF Tc2, vF Ts0, vF Ts1, vI Dk, vF Dc0, vF Dc1, vF Dc2, vF Ds0, vF Ds1, vF g]]) (cap := []) rfl rfl rfl Try.call27 (c_eqString nLr nLr (some ⟨bLr'2, 0, none⟩) bLr'2 0 xLr Lj Tk Tc0 Tc0 Tc1 Tc1 Tc2 Tc2 Ts0 Ts0 Ts1 Ts1 Dk Dc0 Dc0 Dc1 Dc1 Dc2 Dc2 Ds0 Ds0 Ds1 Ds1 g g nLr (some ⟨bLr'3, 0, none⟩) bLr'3 0 Tc0 Tc1 Tc2 Ts0 Ts1 Dc0 Dc1 Dc2 Ds0 Ds1 g lnLr (fun _ => rfl) (fun _ => rfl) rfl rfl rfl rfl rfl rfl rfl rfl rfl rfl rfl rfl rfl rfl rfl rfl rfl rfl rfl rfl rfl rfl (by omega) w12 (((((((r3.ext m6).mod m7 (nC (lE (lL r3.lt lR)) nN)).ext m8).ext md1).ext m9).ext m10).ext m11).rng (r7.ext m11).rng)) ?_
  rintro _ w13 ⟨rfl, m12⟩
  refine WO.det (op_not rfl) rfl (.free rfl) rfl rfl ?_
  refine WO.end ?_
  refine NE.code ?_
  refine CE.cond_f rfl rfl ?_
  refine CE.skip' ?_
  refine NE.code ?_
  refine CE.seq ?_
  refine CE.region ?_
  refine WL.det (op_assign rfl) rfl rfl rfl ?_
  refine WL.end ?_
  refine NE.code ?_
  refine CE.ret' ?_
  refine XE.leave1 Try.results10 rfl ?_
  refine ⟨rfl, ((((((((((((((Mod.refl [] w).nt m1).nt m2).nt m3).nt m4).nt m5).nt m6).then m7 ((aC (.inr (lT (lT (lT (lT (lT m1.size m2.size) m3.size) m4.size) m5.size) lR)) aN))).nt m8).nt md1).nt m9).nt m10).nt m11).nt m12)⟩

set_option maxRecDepth 100000 in
set_option maxHeartbeats 2000000 in
theorem law_silence_bad (nLr : Nat) (cLr : Nat) (ALr : Option Addr) (bLr : Nat) (oLr : Nat) (xLr : List Nat) (Lj : Int) (Tk : Int) (Tc0 : Nat) (Tc1 : Nat) (Tc2 : Nat) (Ts0 : Nat) (Ts1 : Nat) (Dk : Int) (Dc0 : Nat) (Dc1 : Nat) (Dc2 : Nat) (Ds0 : Nat) (Ds1 : Nat) (g : Nat) (cn_ : Int) (lnLr : xLr.length = nLr) (hALr : 0 < nLr → ALr = some ⟨bLr, oLr, none⟩) (wLr : W32 xLr) (lTs0 : Ts0 < wid .f32) (lTs1 : Ts1 < wid .f32) (lDs0 : Ds0 < wid .f32) (lDs1 : Ds1 < wid .f32) (hv : vStr nLr Lj Tk Tc0 Tc1 Tc2 Ts0 Ts1 Dk Dc0 Dc1 Dc2 Ds0 Ds1 g = false) (hm : nLr ≤ 9223372036854775807) (w : World) (rLr : Rng w bLr oLr (fl xLr)) : Cl Try.prog 10 #[.agg #[.slice ALr nLr cLr, vI Lj, vI Tk, vF Tc0, vF Tc1, vF Tc2, vF Ts0, vF Ts1, vI Dk, vF Dc0, vF Dc1, vF Dc2, vF Ds0, vF Ds1, vF g], vI cn_] w fun v w' => v = .bool true ∧ Mod [] w w' := by
  refine Cl.of Try.func10 Try.ntmps10 rfl rfl (ρ := [(0, .agg #[.slice ALr nLr cLr, vI Lj, vI Tk, vF Tc0, vF Tc1, vF Tc2, vF Ts0, vF Ts1, vI Dk, vF Dc0, vF Dc1, vF Dc2, vF Ds0, vF Ds1, vF g]), (1, vI cn_)]) rfl ?_
  refine CE.seq ?_
  refine CE.region ?_
  refine WL.op (op_box (cs := [.slice ALr nLr cLr, vI Lj, vI Tk, vF Tc0, vF Tc1, vF Tc2, vF Ts0, vF Ts1, vI Dk, vF Dc0, vF Dc1, vF Dc2, vF Ds0, vF Ds1, vF g]) rfl rfl) rfl rfl (ltb rfl) ?_
  rintro _ w1 ⟨rfl, r1, m1, z1⟩
  refine WL.det (op_assign rfl) rfl rfl rfl ?_
  refine WL.end ?_
  refine NE.code ?_
  refine CE.seq ?_
  refine CE.region ?_
  refine WL.det (op_assign rfl) rfl rfl rfl ?_
  refine WL.end ?_
  refine NE.code ?_
  refine CE.seq ?_
  refine CE.region ?_
  refine WL.det (op_loadA (i := 0) (cs := [.slice ALr nLr cLr, vI Lj, vI Tk, vF Tc0, vF Tc1, vF Tc2, vF Ts0, vF Ts1, vI Dk, vF Dc0, vF Dc1, vF Dc2, vF Ds0, vF Ds1, vF g]) rfl Try.isAgg51 Try.sizeOf51 r1.rng rfl rfl rfl) rfl rfl rfl ?_
  refine WL.det (op_move rfl) rfl rfl rfl ?_
  rcases Bool.eq_false_or_eq_true (decide (1048576 < nLr)) with hb1 | hb1
  · have hp1 := hb1; try simp only [Bool.and_eq_true, Bool.or_eq_true, Bool.not_eq_true', Bool.not_eq_false', Bool.and_eq_false_iff, Bool.or_eq_false_iff, decide_eq_true_eq, decide_eq_false_iff_not, beq_iff_eq, bne_iff_ne, beq_eq_false_iff_ne, bne_eq_false_iff_eq, ne_eq, Bool.false_eq_true, not_false_eq_true, not_true_eq_false, vIn_t, vIn_f] at hp1
    refine WL.call (oc_call (vs := [.agg #[.slice ALr nLr cLr, vI Lj, vI Tk, vF Tc0, vF Tc1, vF Tc2, vF Ts0, vF Ts1, vI Dk, vF Dc0, vF Dc1, vF Dc2, vF Ds0, vF Ds1, vF g], vI 1048576]) (cap := []) rfl rfl rfl Try.call25 (c_szString_over 1048576 nLr cLr ALr Lj Tk Tc0 Tc1 Tc2 Ts0 Ts1 Dk Dc0 Dc1 Dc2 Ds0 Ds1 g (by omega) (by omega) (by omega) w1)) rfl rfl (ltb rfl) ?_
    rintro _ w2 ⟨rfl, m2⟩
    refine WL.det (op_assign rfl) rfl rfl rfl ?_
    refine WL.end ?_
    refine NE.code ?_
    refine CE.seq ?_
    refine CE.seq ?_
    refine CE.region ?_
    refine WL.det (op_move rfl) rfl rfl rfl ?_
    refine WL.det (op_lti rfl rfl) rfl rfl rfl ?_
    refine WL.end ?_
    refine NE.code ?_
    refine CE.cond_t rfl rfl ?_
    refine CE.seq ?_
    refine CE.region ?_
    refine WL.det (op_assign rfl) rfl rfl rfl ?_
    refine WL.end ?_
    refine NE.code ?_
    refine CE.ret' ?_
    refine XE.ret_then ?_
    refine XE.leave1 Try.results10 rfl ?_
    refine ⟨rfl, (((Mod.refl [] w).nt m1).nt m2)⟩
  · have hp1 := hb1; try simp only [Bool.and_eq_true, Bool.or_eq_true, Bool.not_eq_true', Bool.not_eq_false', Bool.and_eq_false_iff, Bool.or_eq_false_iff, decide_eq_true_eq, decide_eq_false_iff_not, beq_iff_eq, bne_iff_ne, beq_eq_false_iff_ne, bne_eq_false_iff_eq, ne_eq, Bool.false_eq_true, not_false_eq_true, not_true_eq_false, vIn_t, vIn_f] at hp1
    refine WL.call (oc_call (vs := [.agg #[.slice ALr nLr cLr, vI Lj, vI Tk, vF Tc0, vF Tc1, vF Tc2, vF Ts0, vF Ts1, vI Dk, vF Dc0, vF Dc1, vF Dc2, vF Ds0, vF Ds1, vF g], vI 1048576]) (cap := []) rfl rfl rfl Try.call25 (c_szString 1048576 nLr cLr ALr Lj Tk Tc0 Tc1 Tc2 Ts0 Ts1 Dk Dc0 Dc1 Dc2 Ds0 Ds1 g (by omega) (by omega) w1)) rfl rfl (ltb rfl) ?_
    rintro _ w3 ⟨rfl, m3⟩
    refine WL.det (op_assign rfl) rfl rfl rfl ?_
    refine WL.end ?_
    refine NE.code ?_
    refine CE.seq ?_
    refine CE.seq ?_
    refine CE.region ?_
    refine WL.det (op_move rfl) rfl rfl rfl ?_
    refine WL.det (op_lti_f rfl rfl (by omega)) rfl rfl rfl ?_
    refine WL.end ?_
    refine NE.code ?_
    refine CE.cond_f rfl rfl ?_
    refine CE.skip' ?_
    refine NE.code ?_
    refine CE.seq ?_
    refine CE.region ?_
    refine WL.det (op_loadA (i := 0) (cs := [.slice ALr nLr cLr, vI Lj, vI Tk, vF Tc0, vF Tc1, vF Tc2, vF Ts0, vF Ts1, vI Dk, vF Dc0, vF Dc1, vF Dc2, vF Ds0, vF Ds1, vF g]) rfl Try.isAgg51 Try.sizeOf51 (r1.ext m3).rng rfl rfl rfl) rfl rfl rfl ?_
    refine WL.call (oc_call (vs := [.agg #[.slice ALr nLr cLr, vI Lj, vI Tk, vF Tc0, vF Tc1, vF Tc2, vF Ts0, vF Ts1, vI Dk, vF Dc0, vF Dc1, vF Dc2, vF Ds0, vF Ds1, vF g]]) (cap := []) rfl rfl rfl Try.call26 (c_toString nLr cLr ALr bLr oLr xLr Lj Tk Tc0 Tc1 Tc2 Ts0 Ts1 Dk Dc0 Dc1 Dc2 Ds0 Ds1 g lnLr hALr (by omega) w3 ((rLr.ext m1).ext m3))) rfl rfl (ltb rfl) ?_
    rintro _ w4 ⟨bLr'1, rfl, r2, ge1, m4⟩
    refine WL.det (op_move rfl) rfl rfl rfl ?_
    refine WL.call (oc_call (vs := [.agg #[vS bLr'1 0 nLr nLr, vI Lj, vI Tk, vF Tc0, vF Tc1, vF Tc2, vF Ts0, vF Ts1, vI Dk, vF Dc0, vF Dc1, vF Dc2, vF Ds0, vF Ds1, vF g], vI cn_]) (cap := []) rfl rfl rfl Try.call22 (c_sSil_bad nLr nLr bLr'1 xLr Lj Tk Tc0 Tc1 Tc2 Ts0 Ts1 Dk Dc0 Dc1 Dc2 Ds0 Ds1 g cn_ lnLr (by omega) (by first | assumption | exact W32.get (by assumption) _ | decide +kernel) (by first | assumption | exact W32.get (by assumption) _ | decide +kernel) (by first | assumption | exact W32.get (by assumption) _ | decide +kernel) (by first | assumption | exact W32.get (by assumption) _ | decide +kernel) (by assumption) w4 r2.rng)) rfl rfl (ltb rfl) ?_
    rintro _ w5 ⟨rfl, m5⟩
    refine WL.det (op_move rfl) rfl rfl rfl ?_
    refine WL.det (op_extract rfl rfl) rfl rfl rfl ?_
    refine WL.det (op_extract rfl rfl) rfl rfl rfl ?_
    refine WL.det (op_assign rfl) rfl rfl rfl ?_
    refine WL.det (op_assign rfl) rfl rfl rfl ?_
    refine WL.end ?_
    refine NE.code ?_
    refine CE.seq ?_
    refine CE.region ?_
    refine WL.det (op_loadA (i := 0) (cs := [.slice ALr nLr cLr, vI Lj, vI Tk, vF Tc0, vF Tc1, vF Tc2, vF Ts0, vF Ts1, vI Dk, vF Dc0, vF Dc1, vF Dc2, vF Ds0, vF Ds1, vF g]) rfl Try.isAgg51 Try.sizeOf51 (((r1.ext m3).ext m4).ext m5).rng rfl rfl rfl) rfl rfl rfl ?_
    refine WL.call (oc_call (vs := [.agg #[.slice ALr nLr cLr, vI Lj, vI Tk, vF Tc0, vF Tc1, vF Tc2, vF Ts0, vF Ts1, vI Dk, vF Dc0, vF Dc1, vF Dc2, vF Ds0, vF Ds1, vF g]]) (cap := []) rfl rfl rfl Try.call26 (c_toString nLr cLr ALr bLr oLr xLr Lj Tk Tc0 Tc1 Tc2 Ts0 Ts1 Dk Dc0 Dc1 Dc2 Ds0 Ds1 g lnLr hALr (by omega) w5 ((((rLr.ext m1).ext m3).ext m4).ext m5))) rfl rfl (ltb rfl) ?_
    rintro _ w6 ⟨bLr'2, rfl, r3, ge2, m6⟩
    refine WL.op (op_alloc (cs := [.slice none 0 0, vI 0, vI 0, vF 0, vF 0, vF 0, vF 0, vF 0, vI 0, vF 0, vF 0, vF 0, vF 0, vF 0, vF 0]) Try.zeroValue33 rfl) rfl rfl (ltb rfl) ?_
    rintro _ w7 ⟨rfl, r4, m7, z2⟩
    refine WL.op0 (op_store (i := 0) (cs := [vS bLr'2 0 nLr nLr, vI Lj, vI Tk, vF Tc0, vF Tc1, vF Tc2, vF Ts0, vF Ts1, vI Dk, vF Dc0, vF Dc1, vF Dc2, vF Ds0, vF Ds1, vF g]) rfl rfl rfl Try.sizeOf33 rfl r4 rfl (lB rfl) rfl) rfl rfl ?_
    rintro _ w8 ⟨r5, m8, z3⟩
    have r6 : Row w8 w6.heap.size 0 [vS bLr'2 0 nLr nLr, vI Lj, vI Tk, vF Tc0, vF Tc1, vF Tc2, vF Ts0, vF Ts1, vI Dk, vF Dc0, vF Dc1, vF Dc2, vF Ds0, vF Ds1, vF g] := Row.congr r5 rfl
    refine WL.end ?_
    refine NE.code ?_
    refine CE.seq ?_
    refine CE.region ?_
    refine WL.det (op_loadA (i := 0) (cs := [vS bLr'2 0 nLr nLr, vI Lj, vI Tk, vF Tc0, vF Tc1, vF Tc2, vF Ts0, vF Ts1, vI Dk, vF Dc0, vF Dc1, vF Dc2, vF Ds0, vF Ds1, vF g]) rfl Try.isAgg33 Try.sizeOf33 r6.rng rfl rfl rfl) rfl rfl rfl ?_
    refine WL.det (op_move rfl) rfl rfl rfl ?_
    refine WL.call (oc_call (vs := [.agg #[vS bLr'2 0 nLr nLr, vI Lj, vI Tk, vF Tc0, vF Tc1, vF Tc2, vF Ts0, vF Ts1, vI Dk, vF Dc0, vF Dc1, vF Dc2, vF Ds0, vF Ds1, vF g], vI cn_]) (cap := []) rfl rfl rfl Try.call21 (c_iSil_bad nLr nLr bLr'2 xLr Lj Tk Tc0 Tc1 Tc2 Ts0 Ts1 Dk Dc0 Dc1 Dc2 Ds0 Ds1 g cn_ lnLr (by omega) (by first | assumption | exact W32.get (by assumption) _ | decide +kernel) (by first | assumption | exact W32.get (by assumption) _ | decide +kernel) (by first | assumption | exact W32.get (by assumption) _ | decide +kernel) (by first | assumption | exact W32.get (by assumption) _ | decide +kernel) (by assumption) w8 ((r3.ext m7).mod m8 (nC (lE (lL r3.lt lR)) nN)).rng)) rfl rfl (ltb rfl) ?_
    rintro _ w9 ⟨rfl, m9⟩
    refine WL.det (op_move rfl) rfl rfl rfl ?_
    refine WL.det (op_extract rfl rfl) rfl rfl rfl ?_
    refine WL.det (op_extract rfl rfl) rfl rfl rfl ?_
    refine WL.det (op_assign rfl) rfl rfl rfl ?_
    refine WL.det (op_assign rfl) rfl rfl rfl ?_
    refine WL.end ?_
    refine NE.code ?_
    refine CE.seq ?_
    refine CE.seq ?_
    refine CE.region ?_
    refine WL.det (op_move rfl) rfl rfl rfl ?_
    refine WL.det (op_move rfl) rfl rfl rfl ?_
    refine WL.det (op_nei rfl rfl) rfl rfl rfl ?_
    refine WL.det (op_move rfl) rfl rfl rfl ?_
    refine WL.yes rfl rfl rfl (ltb rfl) rfl rfl ?_
    refine WL.det (op_move rfl) rfl rfl rfl ?_
    refine WL.yes rfl rfl rfl (ltb rfl) rfl rfl ?_
    refine WL.det (op_move rfl) rfl rfl rfl ?_
    refine WL.yes rfl rfl rfl (ltb rfl) rfl rfl ?_
    refine WL.det (op_nei rfl rfl) rfl rfl rfl ?_
    refine WL.det (op_pick_f rfl rfl rfl) rfl rfl rfl ?_
    refine WL.end ?_
    refine NE.code ?_
    refine CE.cond_f rfl rfl ?_
    refine CE.skip' ?_
    refine NE.code ?_
    refine CE.seq ?_
    refine CE.seq ?_
    refine CE.draw (fun | 2 => some (fun _ wA uA wB => ∃ (bLr' : Nat), uA = .agg #[vS bLr' 0 nLr nLr, vI Lj, vI Tk, vF Tc0, vF Tc1, vF Tc2, vF Ts0, vF Ts1, vI Dk, vF Dc0, vF Dc1, vF Dc2, vF Ds0, vF Ds1, vF g] ∧ Row wB bLr' 0 (fl xLr) ∧ wA.heap.size ≤ bLr' ∧ Mod [] wA wB) | _ => none) [0, 1, 2] [3, 4] [] (by kernel_rfl) (by kernel_rfl) ?_
    have md1 : Mod [] w9 w9.drew := (Mod.refl _ _).drew
    generalize w9.drew = w10 at md1 ⊢
    refine DR.det (i := 0) rfl rfl (by kernel_rfl) (.free rfl) rfl rfl (fun wD mD => op_loadA (i := 0) (cs := [vS bLr'2 0 nLr nLr, vI Lj, vI Tk, vF Tc0, vF Tc1, vF Tc2, vF Ts0, vF Ts1, vI Dk, vF Dc0, vF Dc1, vF Dc2, vF Ds0, vF Ds1, vF g]) rfl Try.isAgg33 Try.sizeOf33 (((r6.ext m9).ext md1).ext mD).rng rfl rfl rfl) ?_
    refine DR.det (i := 1) rfl rfl (by kernel_rfl) (.free rfl) rfl rfl (fun wD mD => op_loadA (i := 0) (cs := [.slice ALr nLr cLr, vI Lj, vI Tk, vF Tc0, vF Tc1, vF Tc2, vF Ts0, vF Ts1, vI Dk, vF Dc0, vF Dc1, vF Dc2, vF Ds0, vF Ds1, vF g]) rfl Try.isAgg51 Try.sizeOf51 (((((((((r1.ext m3).ext m4).ext m5).ext m6).ext m7).mod m8 (nC (lE (lL (lL r1.lt (lT (lT (lT m3.size m4.size) m5.size) m6.size)) lR)) nN)).ext m9).ext md1).ext mD).rng rfl rfl rfl) ?_
    refine DR.one (i := 2) rfl rfl (by kernel_rfl) (.free rfl) rfl (ltb rfl) (vs := [.func (.func 26) #[] #[], .agg #[.slice ALr nLr cLr, vI Lj, vI Tk, vF Tc0, vF Tc1, vF Tc2, vF Ts0, vF Ts1, vI Dk, vF Dc0, vF Dc1, vF Dc2, vF Ds0, vF Ds1, vF g]]) rfl ?_
    intro w11 m10
    refine ⟨oc_call (vs := [.agg #[.slice ALr nLr cLr, vI Lj, vI Tk, vF Tc0, vF Tc1, vF Tc2, vF Ts0, vF Ts1, vI Dk, vF Dc0, vF Dc1, vF Dc2, vF Ds0, vF Ds1, vF g]]) (cap := []) rfl rfl rfl Try.call26 (c_toString nLr cLr ALr bLr oLr xLr Lj Tk Tc0 Tc1 Tc2 Ts0 Ts1 Dk Dc0 Dc1 Dc2 Ds0 Ds1 g lnLr hALr (by omega) w11 ((((Rng.youngS rLr ((((((rLr.ext m1).ext m3).ext m4).ext m5).ext m6).ext m7) m8 (allge_cons (lT (lT (lT (lT (lT m1.size m3.size) m4.size) m5.size) m6.size) lR) allge_nil)).ext m9).ext md1).ext m10)), ?_⟩
    rintro _ w12 ⟨bLr'3, rfl, r7, ge3, m11⟩
    refine ⟨(((Mod.refl [] w10).nt m10).nt m11), ?_⟩
    refine DR.done rfl ?_
    intro w13 m12
    refine WO.call rfl (.free rfl) rfl (ltb rfl) (oc_call (vs := [.agg #[vS bLr'2 0 nLr nLr, vI Lj, vI Tk, vF Tc0, vF Tc1, vF Tc2, vF Ts0, vF Ts1, vI Dk, vF Dc0, vF Dc1, vF Dc2, vF Ds0, vF Ds1, vF g], .agg #[vS bLr'3 0 nLr nLr, vI Lj, vI Tk, vF Tc0, vF Tc1, vF Tc2, vF Ts0, vF Ts1, vI Dk, vF Dc0, vF Dc1, vF Dc2, vF Ds0, vF Ds1, vF g]]) (cap := []) rfl rfl rfl Try.call27 (c_eqString nLr nLr (some ⟨bLr'2, 0, none⟩) bLr'2 0 xLr Lj Tk Tc0 Tc0 Tc1 Tc1 Tc2 Tc2 Ts0 Ts0 Ts1 Ts1 Dk Dc0 Dc0 Dc1 Dc1 Dc2 Dc2 Ds0 Ds0 Ds1 Ds1 g g nLr (some ⟨bLr'3, 0, none⟩) bLr'3 0 Tc0 Tc1 Tc2 Ts0 Ts1 Dc0 Dc1 Dc2 Ds0 Ds1 g lnLr (fun _ => rfl) (fun _ => rfl) rfl rfl rfl rfl rfl rfl rfl rfl rfl rfl rfl rfl rfl rfl rfl rfl rfl rfl rfl rfl rfl rfl (by omega) w13 (((((((r3.ext m7).mod m8 (nC (lE (lL r3.lt lR)) nN)).ext m9).ext md1).ext m10).ext m11).ext m12).rng (r7.ext m12).rng)) ?_
    rintro _ w14 ⟨rfl, m13⟩
    refine WO.det (op_not rfl) rfl (.free rfl) rfl rfl ?_
    refine WO.end ?_
    refine NE.code ?_
    refine CE.cond_f rfl rfl ?_
    refine CE.skip' ?_
    refine NE.code ?_
    refine CE.seq ?_
    refine CE.region ?_
    refine WL.det (op_assign rfl) rfl rfl rfl ?_
    refine WL.end ?_
    refine NE.code ?_
    refine CE.ret' ?_
    refine XE.leave1 Try.results10 rfl ?_
    refine ⟨rfl, ((((((((((((((Mod.refl [] w).nt m1).nt m3).nt m4).nt m5).nt m6).nt m7).then m8 ((aC (.inr (lT (lT (lT (lT (lT m1.size m3.size) m4.size) m5.size) m6.size) lR)) aN))).nt m9).nt md1).nt m10).nt m11).nt m12).nt m13)⟩

end Go.Proofs.Ytabfdgpldcegiaa
