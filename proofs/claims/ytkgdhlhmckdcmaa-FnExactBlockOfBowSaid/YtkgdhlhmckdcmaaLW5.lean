/- The law on a block of a bow, walked. -/
import Derived.Test.YtkgdhlhmckdcmaaH2
import Derived.Test.YtkgdhlhmckdcmaaE8
set_option linter.unusedVariables false
set_option linter.unusedSimpArgs false
namespace Go.Proofs.Ytkgdhlhmckdcmaa

set_option maxRecDepth 100000 in
set_option maxHeartbeats 2000000 in
theorem law_blockbow (nNr : Nat) (cNr : Nat) (ANr : Option Addr) (bNr : Nat) (oNr : Nat) (xNr : List Nat) (nBr : Nat) (cBr : Nat) (ABr : Option Addr) (bBr : Nat) (oBr : Nat) (xBr : List Nat) (Dk : Int) (Dc0 : Nat) (Dc1 : Nat) (Dc2 : Nat) (Ds0 : Nat) (Ds1 : Nat) (sl : Nat) (lo : Nat) (i : Nat) (h : Nat) (bs : List Nat) (z : BowSt) (ou : List Nat) (lnNr : xNr.length = nNr) (hANr : 0 < nNr → ANr = some ⟨bNr, oNr, none⟩) (lnBr : xBr.length = nBr) (hABr : 0 < nBr → ABr = some ⟨bBr, oBr, none⟩) (wNr : W32 xNr) (wBr : W32 xBr) (hi : i < nNr) (hh : h < nBr) (hn : nNr ≤ 1024) (hm : nBr ≤ 1024) (lDs0 : Ds0 < wid .f32) (lDs1 : Ds1 < wid .f32) (hv : vBow nNr ((i : Nat) : Int) nBr ((h : Nat) : Int) xNr xBr Dk Dc0 Dc1 Dc2 Ds0 Ds1 sl lo = true) (lb : bs.length = 16) (wb : W32 bs) (hze : z = (bowAt nNr nBr Dk Dc0 Dc1 Dc2 sl lo xNr i xBr h Ds0 Ds1 (fun j => bs.getD j 0) 16)) (hoe : ou = ((List.range 16).map (bowOut nNr nBr Dk Dc0 Dc1 Dc2 sl lo xNr i xBr h Ds0 Ds1 (fun j => bs.getD j 0)))) (w : World) (rNr : Rng w bNr oNr (fl xNr)) (rBr : Rng w bBr oBr (fl xBr)) : Cl Try.prog 11 #[.agg #[.slice ANr nNr cNr, vI ((i : Nat) : Int), .slice ABr nBr cBr, vI ((h : Nat) : Int), vI Dk, vF Dc0, vF Dc1, vF Dc2, vF Ds0, vF Ds1, vF sl, vF lo], .agg (fl bs).toArray] w fun v w' => v = .bool true ∧ Mod [] w w' := by
  refine Cl.of Try.func11 Try.ntmps11 rfl rfl (ρ := [(0, .agg #[.slice ANr nNr cNr, vI ((i : Nat) : Int), .slice ABr nBr cBr, vI ((h : Nat) : Int), vI Dk, vF Dc0, vF Dc1, vF Dc2, vF Ds0, vF Ds1, vF sl, vF lo]), (1, .agg (fl bs).toArray)]) rfl ?_
  refine CE.seq ?_
  refine CE.region ?_
  refine WL.op (op_box (cs := [.slice ANr nNr cNr, vI ((i : Nat) : Int), .slice ABr nBr cBr, vI ((h : Nat) : Int), vI Dk, vF Dc0, vF Dc1, vF Dc2, vF Ds0, vF Ds1, vF sl, vF lo]) rfl rfl) rfl rfl (ltb rfl) ?_
  rintro _ w1 ⟨rfl, r1, m1, z1⟩
  refine WL.op (op_box (cs := fl bs) rfl rfl) rfl rfl (ltb rfl) ?_
  rintro _ w2 ⟨rfl, r2, m2, z2⟩
  refine WL.det (op_assign rfl) rfl rfl rfl ?_
  refine WL.end ?_
  refine NE.code ?_
  refine CE.seq ?_
  refine CE.region ?_
  refine WL.det (op_assign rfl) rfl rfl rfl ?_
  refine WL.end ?_
  refine NE.code ?_
  refine CE.seq ?_
  refine CE.region ?_
  refine WL.det (op_loadA (i := 0) (cs := [.slice ANr nNr cNr, vI ((i : Nat) : Int), .slice ABr nBr cBr, vI ((h : Nat) : Int), vI Dk, vF Dc0, vF Dc1, vF Dc2, vF Ds0, vF Ds1, vF sl, vF lo]) rfl Try.isAgg31 Try.sizeOf31 (r1.ext m2).rng rfl rfl rfl) rfl rfl rfl ?_
  refine WL.det (op_move rfl) rfl rfl rfl ?_
  refine WL.call (oc_call (vs := [.agg #[.slice ANr nNr cNr, vI ((i : Nat) : Int), .slice ABr nBr cBr, vI ((h : Nat) : Int), vI Dk, vF Dc0, vF Dc1, vF Dc2, vF Ds0, vF Ds1, vF sl, vF lo], vI 1048576]) (cap := []) rfl rfl rfl Try.call12 (c_szBow 1048576 nNr cNr ANr ((i : Nat) : Int) nBr cBr ABr ((h : Nat) : Int) Dk Dc0 Dc1 Dc2 Ds0 Ds1 sl lo (by omega) (by omega) w2)) rfl rfl (ltb rfl) ?_
  rintro _ w3 ⟨rfl, m3⟩
  refine WL.det (op_assign rfl) rfl rfl rfl ?_
  refine WL.end ?_
  refine NE.code ?_
  refine CE.seq ?_
  refine CE.seq ?_
  refine CE.region ?_
  refine WL.det (op_move rfl) rfl rfl rfl ?_
  refine WL.det (op_lti_f rfl rfl (by omega)) rfl rfl rfl ?_
  refine WL.end ?_
  refine NE.code ?_
  refine CE.cond_f rfl rfl ?_
  refine CE.skip' ?_
  refine NE.code ?_
  refine CE.seq ?_
  refine CE.drawF (fun | 1 => some (fun _ wA uA wB => ∃ (bNr' : Nat) (bBr' : Nat), uA = .agg #[vS bNr' 0 nNr nNr, vI ((i : Nat) : Int), vS bBr' 0 nBr nBr, vI ((h : Nat) : Int), vI Dk, vF Dc0, vF Dc1, vF Dc2, vF Ds0, vF Ds1, vF sl, vF lo] ∧ Row wB bNr' 0 (fl xNr) ∧ Row wB bBr' 0 (fl xBr) ∧ wA.heap.size ≤ bNr' ∧ wA.heap.size ≤ bBr' ∧ bNr' ≠ bBr' ∧ Mod [] wA wB) | 3 => some (fun _ wA uA wB => uA = .agg (fl bs).toArray ∧ Mod [] wA wB) | 4 => some (fun _ wA uA wB => ∃ (b' : Nat) (c' : Nat) (d' : Nat) (c2' : Nat), uA = .tuple #[.agg #[vS b' 0 nNr c', vI ((z.i : Nat) : Int), vS d' 0 nBr c2', vI ((z.h : Nat) : Int), vI Dk, vF Dc0, vF Dc1, vF Dc2, vF z.s0, vF z.s1, vF sl, vF lo], .agg (fl ou).toArray, vI 0] ∧ (z.xs.length = nNr) ∧ (z.ys.length = nBr) ∧ (ou.length = 16) ∧ Row wB b' 0 (fl z.xs) ∧ Row wB d' 0 (fl z.ys) ∧ wA.heap.size ≤ b' ∧ wA.heap.size ≤ d' ∧ b' ≠ d' ∧ Mod [] wA wB) | _ => none) [0, 1, 2, 3, 4, 5, 6, 7, 8, 9, 10, 11, 12] [13] [] (fun ρ W => ∃ (e1_1_0 : Nat) (e1_1_1 : Nat) (e1_4_0 : Nat) (e1_4_1 : Nat) (e1_4_2 : Nat) (e1_4_3 : Nat) (e1_9_0 : Nat) (e1_10_0 : Nat), ρ = [(2, vP w.heap.size 0), (3, vP w1.heap.size 0), (4, .bool false), (6, vP e1_9_0 0), (7, vP e1_10_0 0), (32, vI 0)] ∧ Row W e1_1_0 0 (fl xNr) ∧ Row W e1_1_1 0 (fl xBr) ∧ Row W e1_4_0 0 (fl z.xs) ∧ Row W e1_4_2 0 (fl z.ys) ∧ Row W e1_9_0 0 [vS e1_4_0 0 nNr e1_4_1, vI ((z.i : Nat) : Int), vS e1_4_2 0 nBr e1_4_3, vI ((z.h : Nat) : Int), vI Dk, vF Dc0, vF Dc1, vF Dc2, vF z.s0, vF z.s1, vF sl, vF lo] ∧ Row W e1_10_0 0 (fl ou) ∧ w3.heap.size ≤ e1_1_0 ∧ w3.heap.size ≤ e1_1_1 ∧ w3.heap.size ≤ e1_4_0 ∧ w3.heap.size ≤ e1_4_2 ∧ w3.heap.size ≤ e1_9_0 ∧ w3.heap.size ≤ e1_10_0 ∧ e1_1_0 ≠ e1_1_1 ∧ e1_1_0 ≠ e1_4_0 ∧ e1_1_0 ≠ e1_4_2 ∧ e1_1_0 ≠ e1_9_0 ∧ e1_1_0 ≠ e1_10_0 ∧ e1_1_1 ≠ e1_4_0 ∧ e1_1_1 ≠ e1_4_2 ∧ e1_1_1 ≠ e1_9_0 ∧ e1_1_1 ≠ e1_10_0 ∧ e1_4_0 ≠ e1_4_2 ∧ e1_4_0 ≠ e1_9_0 ∧ e1_4_0 ≠ e1_10_0 ∧ e1_4_2 ≠ e1_9_0 ∧ e1_4_2 ≠ e1_10_0 ∧ e1_9_0 ≠ e1_10_0 ∧ (z.xs.length = nNr) ∧ (z.ys.length = nBr) ∧ (ou.length = 16) ∧ Mod [] w3 W) (by kernel_rfl) (by kernel_rfl) ?_ ?_
  have md1 : Mod [] w3 w3.drew := (Mod.refl _ _).drew
  generalize w3.drew = w4 at md1 ⊢
  · refine DR.det (i := 0) rfl rfl (by kernel_rfl) (.free rfl) rfl rfl (fun wD mD => op_loadA (i := 0) (cs := [.slice ANr nNr cNr, vI ((i : Nat) : Int), .slice ABr nBr cBr, vI ((h : Nat) : Int), vI Dk, vF Dc0, vF Dc1, vF Dc2, vF Ds0, vF Ds1, vF sl, vF lo]) rfl Try.isAgg31 Try.sizeOf31 ((((r1.ext m2).ext m3).ext md1).ext mD).rng rfl rfl rfl) ?_
    refine DR.det (i := 2) rfl rfl (by kernel_rfl) (.free rfl) rfl rfl (fun wD mD => op_loadA (i := 0) (cs := fl bs) rfl Try.isAgg81 Try.sizeOf81 (((r2.ext m3).ext md1).ext mD).rng rfl (fl_whole lb) (fl_len lb)) ?_
    refine DR.fork (is := [1, 9, 10]) (by kernel_rfl) (by decide) (all3 ?_ ?_ ?_)
    · refine DP.call (i := 1) rfl rfl (.free rfl) rfl (ltb rfl) (vs := [.func (.func 14) #[] #[], .agg #[.slice ANr nNr cNr, vI ((i : Nat) : Int), .slice ABr nBr cBr, vI ((h : Nat) : Int), vI Dk, vF Dc0, vF Dc1, vF Dc2, vF Ds0, vF Ds1, vF sl, vF lo]]) rfl ?_
      intro w5 m4
      refine ⟨oc_call (vs := [.agg #[.slice ANr nNr cNr, vI ((i : Nat) : Int), .slice ABr nBr cBr, vI ((h : Nat) : Int), vI Dk, vF Dc0, vF Dc1, vF Dc2, vF Ds0, vF Ds1, vF sl, vF lo]]) (cap := []) rfl rfl rfl Try.call14 (c_toBow nNr cNr ANr bNr oNr xNr ((i : Nat) : Int) nBr cBr ABr bBr oBr xBr ((h : Nat) : Int) Dk Dc0 Dc1 Dc2 Ds0 Ds1 sl lo lnNr hANr lnBr hABr (by omega) (by omega) w5 (((((rNr.ext m1).ext m2).ext m3).ext md1).ext m4) (((((rBr.ext m1).ext m2).ext m3).ext md1).ext m4)), ?_⟩
      rintro _ w6 ⟨bNr'1, bBr'1, rfl, r3, r4, ge1, ge2, ne1, m5⟩
      refine ⟨(((Mod.refl [] w4).nt m4).nt m5), ?_⟩
      refine DR.call (i := 3) (fun uA => uA = .agg (fl bs).toArray) rfl rfl (by kernel_rfl) (.free rfl) rfl (ltb rfl) ⟨_, rfl⟩ (vs := [.func (.func 49) #[] #[], .agg (fl bs).toArray]) rfl (fun wD mD => oc_call (vs := [.agg (fl bs).toArray]) (cap := []) rfl rfl rfl Try.call49 (c_toBlock bs lb wD)) ?_ ?_
      · rintro w1 _ w2 m1 ⟨rfl, m2⟩; exact ⟨rfl, m2⟩
      rintro _ rfl
      refine DR.fork (is := [4, 9, 10]) (by kernel_rfl) (by decide) (all3 ?_ ?_ ?_)
      · refine DP.call (i := 4) rfl rfl (.free rfl) rfl (ltb rfl) (vs := [.func (.func 52) #[] #[], .agg #[vS bNr'1 0 nNr nNr, vI ((i : Nat) : Int), vS bBr'1 0 nBr nBr, vI ((h : Nat) : Int), vI Dk, vF Dc0, vF Dc1, vF Dc2, vF Ds0, vF Ds1, vF sl, vF lo], .agg (fl bs).toArray]) rfl ?_
        intro w7 m6
        refine ⟨oc_call (vs := [.agg #[vS bNr'1 0 nNr nNr, vI ((i : Nat) : Int), vS bBr'1 0 nBr nBr, vI ((h : Nat) : Int), vI Dk, vF Dc0, vF Dc1, vF Dc2, vF Ds0, vF Ds1, vF sl, vF lo], .agg (fl bs).toArray]) (cap := []) rfl rfl rfl Try.call52 (c_sBlockBow nNr nNr bNr'1 xNr nBr nBr bBr'1 xBr i h Dk Dc0 Dc1 Dc2 Ds0 Ds1 sl lo bs z ou lnNr lnBr (by omega) (by omega) (by omega) (by omega) (by first | assumption | exact W32.set (by assumption) (by first | assumption | exact wid_lt (by assumption)) | exact W32.zeros _ | exact W32.nil) (by first | assumption | exact W32.set (by assumption) (by first | assumption | exact wid_lt (by assumption)) | exact W32.zeros _ | exact W32.nil) (by first | assumption | exact W32.get (by assumption) _ | decide +kernel) (by first | assumption | exact W32.get (by assumption) _ | decide +kernel) lb (by first | assumption | exact W32.set (by assumption) (by first | assumption | exact wid_lt (by assumption)) | exact W32.zeros _ | exact W32.nil) (by assumption) (by assumption) (by assumption) w7 (r3.ext m6).rng (r4.ext m6).rng), ?_⟩
        rintro _ w8 ⟨b'1, c'1, d'1, c2'1, rfl, h1, h2, h3, r5, r6, ge3, ge4, ne2, m7⟩
        refine ⟨(((((Mod.refl [] w4).nt m4).nt m5).nt m6).nt m7), ?_⟩
        refine DR.det (i := 5) rfl rfl (by kernel_rfl) (.free rfl) rfl rfl (fun wD mD => op_move rfl) ?_
        refine DR.det (i := 6) rfl rfl (by kernel_rfl) (.free rfl) rfl rfl (fun wD mD => op_extract rfl rfl) ?_
        refine DR.det (i := 7) rfl rfl (by kernel_rfl) (.free rfl) rfl rfl (fun wD mD => op_extract rfl rfl) ?_
        refine DR.det (i := 8) rfl rfl (by kernel_rfl) (.free rfl) rfl rfl (fun wD mD => op_extract rfl rfl) ?_
        refine DR.fork (is := [9, 10]) (by kernel_rfl) (by decide) (all2 ?_ ?_)
        · refine DP.op (i := 9) rfl rfl (.free rfl) rfl (ltb rfl) ?_
          intro w9 m8
          refine Op1.mono (op_alloc (cs := [.slice none 0 0, vI 0, .slice none 0 0, vI 0, vI 0, vF 0, vF 0, vF 0, vF 0, vF 0, vF 0, vF 0]) Try.zeroValue36 rfl) ?_
          rintro _ w10 ⟨rfl, r7, m9, z3⟩
          refine ⟨(((((((Mod.refl [] w4).nt m4).nt m5).nt m6).nt m7).nt m8).nt m9), ?_⟩
          refine DR.one1 (i := 10) rfl rfl (by kernel_rfl) (.free rfl) rfl (ltb rfl) ?_
          intro w11 m10
          refine Op1.mono (op_alloc (cs := fl (List.replicate 16 0)) Try.zeroValue82 rfl) ?_
          rintro _ w12 ⟨rfl, r8, m11, z4⟩
          refine ⟨(((((((((Mod.refl [] w4).nt m4).nt m5).nt m6).nt m7).nt m8).nt m9).nt m10).nt m11), ?_⟩
          refine DR.st1 (i := 11) rfl rfl (by kernel_rfl) (.free rfl) rfl ?_
          intro w13 m12
          refine Op1.mono (op_store (i := 0) (cs := [vS b'1 0 nNr c'1, vI ((z.i : Nat) : Int), vS d'1 0 nBr c2'1, vI ((z.h : Nat) : Int), vI Dk, vF Dc0, vF Dc1, vF Dc2, vF z.s0, vF z.s1, vF sl, vF lo]) rfl rfl rfl Try.sizeOf36 rfl (((r7.ext m10).ext m11).ext m12) rfl (lB rfl) rfl) ?_
          rintro _ w14 ⟨r9, m13, z5⟩
          have r10 : Row w14 w9.heap.size 0 [vS b'1 0 nNr c'1, vI ((z.i : Nat) : Int), vS d'1 0 nBr c2'1, vI ((z.h : Nat) : Int), vI Dk, vF Dc0, vF Dc1, vF Dc2, vF z.s0, vF z.s1, vF sl, vF lo] := Row.congr r9 rfl
          refine ⟨(((((((((((Mod.refl [] w4).nt m4).nt m5).nt m6).nt m7).nt m8).nt m9).nt m10).nt m11).nt m12).then m13 ((aC (.inr (lT (lT (lT (lT (lT m4.size m5.size) m6.size) m7.size) m8.size) lR)) aN))), ?_⟩
          refine DR.st1 (i := 12) rfl rfl (by kernel_rfl) (.free rfl) rfl ?_
          intro w15 m14
          refine Op1.mono (op_store (i := 0) (cs := fl ou) rfl rfl rfl Try.sizeOf82 (fl_len h3) (((r8.ext m12).mod m13 (nC (lG (lL (lL r7.lt m10.size) lR)) nN)).ext m14) rfl (by rw [fl_length, List.length_replicate]; decide) (fl_one _)) ?_
          rintro _ w16 ⟨r11, m15, z6⟩
          have r12 : Row w16 w11.heap.size 0 (fl ou) := Row.congr r11 (splice_all ((fl_len (List.length_replicate)).trans (fl_len (h3)).symm))
          refine ⟨(((((((((((((Mod.refl [] w4).nt m4).nt m5).nt m6).nt m7).nt m8).nt m9).nt m10).nt m11).nt m12).then m13 ((aC (.inr (lT (lT (lT (lT (lT m4.size m5.size) m6.size) m7.size) m8.size) lR)) aN))).nt m14).then m15 ((aC (.inr (lT (lT (lT (lT (lT (lT (lT m4.size m5.size) m6.size) m7.size) m8.size) m9.size) m10.size) lR)) aN))), ?_⟩
          refine DR.sub [(2, vP w.heap.size 0), (3, vP w1.heap.size 0), (4, .bool false), (6, vP w9.heap.size 0), (7, vP w11.heap.size 0), (32, vI 0)] ⟨rfl, rfl, rfl, rfl, rfl, rfl, trivial⟩ ?_
          refine DR.meet rfl ?_
          intro w17 m16
          exact ⟨bNr'1, bBr'1, b'1, c'1, d'1, c2'1, w9.heap.size, w11.heap.size, rfl, (((((((((((r3.ext m6).ext m7).ext m8).ext m9).ext m10).ext m11).ext m12).mod m13 (nC (lE (lL (lL r3.lt (lT (lT m6.size m7.size) m8.size)) lR)) nN)).ext m14).mod m15 (nC (lE (lL (lL r3.lt (lT (lT (lT (lT m6.size m7.size) m8.size) m9.size) m10.size)) lR)) nN)).ext m16), (((((((((((r4.ext m6).ext m7).ext m8).ext m9).ext m10).ext m11).ext m12).mod m13 (nC (lE (lL (lL r4.lt (lT (lT m6.size m7.size) m8.size)) lR)) nN)).ext m14).mod m15 (nC (lE (lL (lL r4.lt (lT (lT (lT (lT m6.size m7.size) m8.size) m9.size) m10.size)) lR)) nN)).ext m16), (((((((((r5.ext m8).ext m9).ext m10).ext m11).ext m12).mod m13 (nC (lE (lL (lL r5.lt m8.size) lR)) nN)).ext m14).mod m15 (nC (lE (lL (lL r5.lt (lT (lT m8.size m9.size) m10.size)) lR)) nN)).ext m16), (((((((((r6.ext m8).ext m9).ext m10).ext m11).ext m12).mod m13 (nC (lE (lL (lL r6.lt m8.size) lR)) nN)).ext m14).mod m15 (nC (lE (lL (lL r6.lt (lT (lT m8.size m9.size) m10.size)) lR)) nN)).ext m16), (((r10.ext m14).mod m15 (nC (lE (lL (lL r7.lt m10.size) lR)) nN)).ext m16), (r12.ext m16), (lT (lT md1.size m4.size) ge1), (lT (lT md1.size m4.size) ge2), (lT (lT (lT (lT md1.size m4.size) m5.size) m6.size) ge3), (lT (lT (lT (lT md1.size m4.size) m5.size) m6.size) ge4), (lT (lT (lT (lT (lT (lT md1.size m4.size) m5.size) m6.size) m7.size) m8.size) lR), (lT (lT (lT (lT (lT (lT (lT (lT md1.size m4.size) m5.size) m6.size) m7.size) m8.size) m9.size) m10.size) lR), ne1, (lE (lL (lL r3.lt m6.size) ge3)), (lE (lL (lL r3.lt m6.size) ge4)), (lE (lL (lL r3.lt (lT (lT m6.size m7.size) m8.size)) lR)), (lE (lL (lL r3.lt (lT (lT (lT (lT m6.size m7.size) m8.size) m9.size) m10.size)) lR)), (lE (lL (lL r4.lt m6.size) ge3)), (lE (lL (lL r4.lt m6.size) ge4)), (lE (lL (lL r4.lt (lT (lT m6.size m7.size) m8.size)) lR)), (lE (lL (lL r4.lt (lT (lT (lT (lT m6.size m7.size) m8.size) m9.size) m10.size)) lR)), ne2, (lE (lL (lL r5.lt m8.size) lR)), (lE (lL (lL r5.lt (lT (lT m8.size m9.size) m10.size)) lR)), (lE (lL (lL r6.lt m8.size) lR)), (lE (lL (lL r6.lt (lT (lT m8.size m9.size) m10.size)) lR)), (lE (lL (lL r7.lt m10.size) lR)), h1, h2, h3, (((((((((((((((Mod.refl [] w3).nt md1).nt m4).nt m5).nt m6).nt m7).nt m8).nt m9).nt m10).nt m11).nt m12).then m13 ((aC (.inr (lT (lT (lT (lT (lT (lT md1.size m4.size) m5.size) m6.size) m7.size) m8.size) lR)) aN))).nt m14).then m15 ((aC (.inr (lT (lT (lT (lT (lT (lT (lT (lT md1.size m4.size) m5.size) m6.size) m7.size) m8.size) m9.size) m10.size) lR)) aN))).nt m16)⟩
        · refine DP.op (i := 10) rfl rfl (.free rfl) rfl (ltb rfl) ?_
          intro w18 m17
          refine Op1.mono (op_alloc (cs := fl (List.replicate 16 0)) Try.zeroValue82 rfl) ?_
          rintro _ w19 ⟨rfl, r13, m18, z7⟩
          refine ⟨(((((((Mod.refl [] w4).nt m4).nt m5).nt m6).nt m7).nt m17).nt m18), ?_⟩
          refine DR.one1 (i := 9) rfl rfl (by kernel_rfl) (.free rfl) rfl (ltb rfl) ?_
          intro w20 m19
          refine Op1.mono (op_alloc (cs := [.slice none 0 0, vI 0, .slice none 0 0, vI 0, vI 0, vF 0, vF 0, vF 0, vF 0, vF 0, vF 0, vF 0]) Try.zeroValue36 rfl) ?_
          rintro _ w21 ⟨rfl, r14, m20, z8⟩
          refine ⟨(((((((((Mod.refl [] w4).nt m4).nt m5).nt m6).nt m7).nt m17).nt m18).nt m19).nt m20), ?_⟩
          refine DR.st1 (i := 11) rfl rfl (by kernel_rfl) (.free rfl) rfl ?_
          intro w22 m21
          refine Op1.mono (op_store (i := 0) (cs := [vS b'1 0 nNr c'1, vI ((z.i : Nat) : Int), vS d'1 0 nBr c2'1, vI ((z.h : Nat) : Int), vI Dk, vF Dc0, vF Dc1, vF Dc2, vF z.s0, vF z.s1, vF sl, vF lo]) rfl rfl rfl Try.sizeOf36 rfl (r14.ext m21) rfl (lB rfl) rfl) ?_
          rintro _ w23 ⟨r15, m22, z9⟩
          have r16 : Row w23 w20.heap.size 0 [vS b'1 0 nNr c'1, vI ((z.i : Nat) : Int), vS d'1 0 nBr c2'1, vI ((z.h : Nat) : Int), vI Dk, vF Dc0, vF Dc1, vF Dc2, vF z.s0, vF z.s1, vF sl, vF lo] := Row.congr r15 rfl
          refine ⟨(((((((((((Mod.refl [] w4).nt m4).nt m5).nt m6).nt m7).nt m17).nt m18).nt m19).nt m20).nt m21).then m22 ((aC (.inr (lT (lT (lT (lT (lT (lT (lT m4.size m5.size) m6.size) m7.size) m17.size) m18.size) m19.size) lR)) aN))), ?_⟩
          refine DR.st1 (i := 12) rfl rfl (by kernel_rfl) (.free rfl) rfl ?_
          intro w24 m23
          refine Op1.mono (op_store (i := 0) (cs := fl ou) rfl rfl rfl Try.sizeOf82 (fl_len h3) (((((r13.ext m19).ext m20).ext m21).mod m22 (nC (lE (lL (lL r13.lt m19.size) lR)) nN)).ext m23) rfl (by rw [fl_length, List.length_replicate]; decide) (fl_one _)) ?_
          rintro _ w25 ⟨r17, m24, z10⟩
          have r18 : Row w25 w18.heap.size 0 (fl ou) := Row.congr r17 (splice_all ((fl_len (List.length_replicate)).trans (fl_len (h3)).symm))
          refine ⟨(((((((((((((Mod.refl [] w4).nt m4).nt m5).nt m6).nt m7).nt m17).nt m18).nt m19).nt m20).nt m21).then m22 ((aC (.inr (lT (lT (lT (lT (lT (lT (lT m4.size m5.size) m6.size) m7.size) m17.size) m18.size) m19.size) lR)) aN))).nt m23).then m24 ((aC (.inr (lT (lT (lT (lT (lT m4.size m5.size) m6.size) m7.size) m17.size) lR)) aN))), ?_⟩
          refine DR.sub [(2, vP w.heap.size 0), (3, vP w1.heap.size 0), (4, .bool false), (6, vP w20.heap.size 0), (7, vP w18.heap.size 0), (32, vI 0)] ⟨rfl, rfl, rfl, rfl, rfl, rfl, trivial⟩ ?_
          refine DR.meet rfl ?_
          intro w26 m25
          exact ⟨bNr'1, bBr'1, b'1, c'1, d'1, c2'1, w20.heap.size, w18.heap.size, rfl, (((((((((((r3.ext m6).ext m7).ext m17).ext m18).ext m19).ext m20).ext m21).mod m22 (nC (lE (lL (lL r3.lt (lT (lT (lT (lT m6.size m7.size) m17.size) m18.size) m19.size)) lR)) nN)).ext m23).mod m24 (nC (lE (lL (lL r3.lt (lT (lT m6.size m7.size) m17.size)) lR)) nN)).ext m25), (((((((((((r4.ext m6).ext m7).ext m17).ext m18).ext m19).ext m20).ext m21).mod m22 (nC (lE (lL (lL r4.lt (lT (lT (lT (lT m6.size m7.size) m17.size) m18.size) m19.size)) lR)) nN)).ext m23).mod m24 (nC (lE (lL (lL r4.lt (lT (lT m6.size m7.size) m17.size)) lR)) nN)).ext m25), (((((((((r5.ext m17).ext m18).ext m19).ext m20).ext m21).mod m22 (nC (lE (lL (lL r5.lt (lT (lT m17.size m18.size) m19.size)) lR)) nN)).ext m23).mod m24 (nC (lE (lL (lL r5.lt m17.size) lR)) nN)).ext m25), (((((((((r6.ext m17).ext m18).ext m19).ext m20).ext m21).mod m22 (nC (lE (lL (lL r6.lt (lT (lT m17.size m18.size) m19.size)) lR)) nN)).ext m23).mod m24 (nC (lE (lL (lL r6.lt m17.size) lR)) nN)).ext m25), (((r16.ext m23).mod m24 (nC (lG (lL (lL r13.lt m19.size) lR)) nN)).ext m25), (r18.ext m25), (lT (lT md1.size m4.size) ge1), (lT (lT md1.size m4.size) ge2), (lT (lT (lT (lT md1.size m4.size) m5.size) m6.size) ge3), (lT (lT (lT (lT md1.size m4.size) m5.size) m6.size) ge4), (lT (lT (lT (lT (lT (lT (lT (lT md1.size m4.size) m5.size) m6.size) m7.size) m17.size) m18.size) m19.size) lR), (lT (lT (lT (lT (lT (lT md1.size m4.size) m5.size) m6.size) m7.size) m17.size) lR), ne1, (lE (lL (lL r3.lt m6.size) ge3)), (lE (lL (lL r3.lt m6.size) ge4)), (lE (lL (lL r3.lt (lT (lT (lT (lT m6.size m7.size) m17.size) m18.size) m19.size)) lR)), (lE (lL (lL r3.lt (lT (lT m6.size m7.size) m17.size)) lR)), (lE (lL (lL r4.lt m6.size) ge3)), (lE (lL (lL r4.lt m6.size) ge4)), (lE (lL (lL r4.lt (lT (lT (lT (lT m6.size m7.size) m17.size) m18.size) m19.size)) lR)), (lE (lL (lL r4.lt (lT (lT m6.size m7.size) m17.size)) lR)), ne2, (lE (lL (lL r5.lt (lT (lT m17.size m18.size) m19.size)) lR)), (lE (lL (lL r5.lt m17.size) lR)), (lE (lL (lL r6.lt (lT (lT m17.size m18.size) m19.size)) lR)), (lE (lL (lL r6.lt m17.size) lR)), (lG (lL (lL r13.lt m19.size) lR)), h1, h2, h3, (((((((((((((((Mod.refl [] w3).nt md1).nt m4).nt m5).nt m6).nt m7).nt m17).nt m18).nt m19).nt m20).nt m21).then m22 ((aC (.inr (lT (lT (lT (lT (lT (lT (lT (lT md1.size m4.size) m5.size) m6.size) m7.size) m17.size) m18.size) m19.size) lR)) aN))).nt m23).then m24 ((aC (.inr (lT (lT (lT (lT (lT (lT md1.size m4.size) m5.size) m6.size) m7.size) m17.size) lR)) aN))).nt m25)⟩
      · refine DP.op (i := 9) rfl rfl (.free rfl) rfl (ltb rfl) ?_
        intro w27 m26
        refine Op1.mono (op_alloc (cs := [.slice none 0 0, vI 0, .slice none 0 0, vI 0, vI 0, vF 0, vF 0, vF 0, vF 0, vF 0, vF 0, vF 0]) Try.zeroValue36 rfl) ?_
        rintro _ w28 ⟨rfl, r19, m27, z11⟩
        refine ⟨(((((Mod.refl [] w4).nt m4).nt m5).nt m26).nt m27), ?_⟩
        refine DR.fork (is := [4, 10]) (by kernel_rfl) (by decide) (all2 ?_ ?_)
        · refine DP.call (i := 4) rfl rfl (.free rfl) rfl (ltb rfl) (vs := [.func (.func 52) #[] #[], .agg #[vS bNr'1 0 nNr nNr, vI ((i : Nat) : Int), vS bBr'1 0 nBr nBr, vI ((h : Nat) : Int), vI Dk, vF Dc0, vF Dc1, vF Dc2, vF Ds0, vF Ds1, vF sl, vF lo], .agg (fl bs).toArray]) rfl ?_
          intro w29 m28
          refine ⟨oc_call (vs := [.agg #[vS bNr'1 0 nNr nNr, vI ((i : Nat) : Int), vS bBr'1 0 nBr nBr, vI ((h : Nat) : Int), vI Dk, vF Dc0, vF Dc1, vF Dc2, vF Ds0, vF Ds1, vF sl, vF lo], .agg (fl bs).toArray]) (cap := []) rfl rfl rfl Try.call52 (c_sBlockBow nNr nNr bNr'1 xNr nBr nBr bBr'1 xBr i h Dk Dc0 Dc1 Dc2 Ds0 Ds1 sl lo bs z ou lnNr lnBr (by omega) (by omega) (by omega) (by omega) (by first | assumption | exact W32.set (by assumption) (by first | assumption | exact wid_lt (by assumption)) | exact W32.zeros _ | exact W32.nil) (by first | assumption | exact W32.set (by assumption) (by first | assumption | exact wid_lt (by assumption)) | exact W32.zeros _ | exact W32.nil) (by first | assumption | exact W32.get (by assumption) _ | decide +kernel) (by first | assumption | exact W32.get (by assumption) _ | decide +kernel) lb (by first | assumption | exact W32.set (by assumption) (by first | assumption | exact wid_lt (by assumption)) | exact W32.zeros _ | exact W32.nil) (by assumption) (by assumption) (by assumption) w29 (((r3.ext m26).ext m27).ext m28).rng (((r4.ext m26).ext m27).ext m28).rng), ?_⟩
          rintro _ w30 ⟨b'2, c'2, d'2, c2'2, rfl, h4, h5, h6, r20, r21, ge5, ge6, ne3, m29⟩
          refine ⟨(((((((Mod.refl [] w4).nt m4).nt m5).nt m26).nt m27).nt m28).nt m29), ?_⟩
          refine DR.det (i := 5) rfl rfl (by kernel_rfl) (.free rfl) rfl rfl (fun wD mD => op_move rfl) ?_
          refine DR.det (i := 6) rfl rfl (by kernel_rfl) (.free rfl) rfl rfl (fun wD mD => op_extract rfl rfl) ?_
          refine DR.det (i := 7) rfl rfl (by kernel_rfl) (.free rfl) rfl rfl (fun wD mD => op_extract rfl rfl) ?_
          refine DR.det (i := 8) rfl rfl (by kernel_rfl) (.free rfl) rfl rfl (fun wD mD => op_extract rfl rfl) ?_
          refine DR.one1 (i := 10) rfl rfl (by kernel_rfl) (.free rfl) rfl (ltb rfl) ?_
          intro w31 m30
          refine Op1.mono (op_alloc (cs := fl (List.replicate 16 0)) Try.zeroValue82 rfl) ?_
          rintro _ w32 ⟨rfl, r22, m31, z12⟩
          refine ⟨(((((((((Mod.refl [] w4).nt m4).nt m5).nt m26).nt m27).nt m28).nt m29).nt m30).nt m31), ?_⟩
          refine DR.st1 (i := 11) rfl rfl (by kernel_rfl) (.free rfl) rfl ?_
          intro w33 m32
          refine Op1.mono (op_store (i := 0) (cs := [vS b'2 0 nNr c'2, vI ((z.i : Nat) : Int), vS d'2 0 nBr c2'2, vI ((z.h : Nat) : Int), vI Dk, vF Dc0, vF Dc1, vF Dc2, vF z.s0, vF z.s1, vF sl, vF lo]) rfl rfl rfl Try.sizeOf36 rfl (((((r19.ext m28).ext m29).ext m30).ext m31).ext m32) rfl (lB rfl) rfl) ?_
          rintro _ w34 ⟨r23, m33, z13⟩
          have r24 : Row w34 w27.heap.size 0 [vS b'2 0 nNr c'2, vI ((z.i : Nat) : Int), vS d'2 0 nBr c2'2, vI ((z.h : Nat) : Int), vI Dk, vF Dc0, vF Dc1, vF Dc2, vF z.s0, vF z.s1, vF sl, vF lo] := Row.congr r23 rfl
          refine ⟨(((((((((((Mod.refl [] w4).nt m4).nt m5).nt m26).nt m27).nt m28).nt m29).nt m30).nt m31).nt m32).then m33 ((aC (.inr (lT (lT (lT m4.size m5.size) m26.size) lR)) aN))), ?_⟩
          refine DR.st1 (i := 12) rfl rfl (by kernel_rfl) (.free rfl) rfl ?_
          intro w35 m34
          refine Op1.mono (op_store (i := 0) (cs := fl ou) rfl rfl rfl Try.sizeOf82 (fl_len h6) (((r22.ext m32).mod m33 (nC (lG (lL (lL r19.lt (lT (lT m28.size m29.size) m30.size)) lR)) nN)).ext m34) rfl (by rw [fl_length, List.length_replicate]; decide) (fl_one _)) ?_
          rintro _ w36 ⟨r25, m35, z14⟩
          have r26 : Row w36 w31.heap.size 0 (fl ou) := Row.congr r25 (splice_all ((fl_len (List.length_replicate)).trans (fl_len (h6)).symm))
          refine ⟨(((((((((((((Mod.refl [] w4).nt m4).nt m5).nt m26).nt m27).nt m28).nt m29).nt m30).nt m31).nt m32).then m33 ((aC (.inr (lT (lT (lT m4.size m5.size) m26.size) lR)) aN))).nt m34).then m35 ((aC (.inr (lT (lT (lT (lT (lT (lT (lT m4.size m5.size) m26.size) m27.size) m28.size) m29.size) m30.size) lR)) aN))), ?_⟩
          refine DR.sub [(2, vP w.heap.size 0), (3, vP w1.heap.size 0), (4, .bool false), (6, vP w27.heap.size 0), (7, vP w31.heap.size 0), (32, vI 0)] ⟨rfl, rfl, rfl, rfl, rfl, rfl, trivial⟩ ?_
          refine DR.meet rfl ?_
          intro w37 m36
          exact ⟨bNr'1, bBr'1, b'2, c'2, d'2, c2'2, w27.heap.size, w31.heap.size, rfl, (((((((((((r3.ext m26).ext m27).ext m28).ext m29).ext m30).ext m31).ext m32).mod m33 (nC (lE (lL (lL r3.lt m26.size) lR)) nN)).ext m34).mod m35 (nC (lE (lL (lL r3.lt (lT (lT (lT (lT m26.size m27.size) m28.size) m29.size) m30.size)) lR)) nN)).ext m36), (((((((((((r4.ext m26).ext m27).ext m28).ext m29).ext m30).ext m31).ext m32).mod m33 (nC (lE (lL (lL r4.lt m26.size) lR)) nN)).ext m34).mod m35 (nC (lE (lL (lL r4.lt (lT (lT (lT (lT m26.size m27.size) m28.size) m29.size) m30.size)) lR)) nN)).ext m36), (((((((r20.ext m30).ext m31).ext m32).mod m33 (nC (lG (lL (lL r19.lt m28.size) ge5)) nN)).ext m34).mod m35 (nC (lE (lL (lL r20.lt m30.size) lR)) nN)).ext m36), (((((((r21.ext m30).ext m31).ext m32).mod m33 (nC (lG (lL (lL r19.lt m28.size) ge6)) nN)).ext m34).mod m35 (nC (lE (lL (lL r21.lt m30.size) lR)) nN)).ext m36), (((r24.ext m34).mod m35 (nC (lE (lL (lL r19.lt (lT (lT m28.size m29.size) m30.size)) lR)) nN)).ext m36), (r26.ext m36), (lT (lT md1.size m4.size) ge1), (lT (lT md1.size m4.size) ge2), (lT (lT (lT (lT (lT (lT md1.size m4.size) m5.size) m26.size) m27.size) m28.size) ge5), (lT (lT (lT (lT (lT (lT md1.size m4.size) m5.size) m26.size) m27.size) m28.size) ge6), (lT (lT (lT (lT md1.size m4.size) m5.size) m26.size) lR), (lT (lT (lT (lT (lT (lT (lT (lT md1.size m4.size) m5.size) m26.size) m27.size) m28.size) m29.size) m30.size) lR), ne1, (lE (lL (lL r3.lt (lT (lT m26.size m27.size) m28.size)) ge5)), (lE (lL (lL r3.lt (lT (lT m26.size m27.size) m28.size)) ge6)), (lE (lL (lL r3.lt m26.size) lR)), (lE (lL (lL r3.lt (lT (lT (lT (lT m26.size m27.size) m28.size) m29.size) m30.size)) lR)), (lE (lL (lL r4.lt (lT (lT m26.size m27.size) m28.size)) ge5)), (lE (lL (lL r4.lt (lT (lT m26.size m27.size) m28.size)) ge6)), (lE (lL (lL r4.lt m26.size) lR)), (lE (lL (lL r4.lt (lT (lT (lT (lT m26.size m27.size) m28.size) m29.size) m30.size)) lR)), ne3, (lG (lL (lL r19.lt m28.size) ge5)), (lE (lL (lL r20.lt m30.size) lR)), (lG (lL (lL r19.lt m28.size) ge6)), (lE (lL (lL r21.lt m30.size) lR)), (lE (lL (lL r19.lt (lT (lT m28.size m29.size) m30.size)) lR)), h4, h5, h6, (((((((((((((((Mod.refl [] w3).nt md1).nt m4).nt m5).nt m26).nt m27).nt m28).nt m29).nt m30).nt m31).nt m32).then m33 ((aC (.inr (lT (lT (lT (lT md1.size m4.size) m5.size) m26.size) lR)) aN))).nt m34).then m35 ((aC (.inr (lT (lT (lT (lT (lT (lT (lT (lT md1.size m4.size) m5.size) m26.size) m27.size) m28.size) m29.size) m30.size) lR)) aN))).nt m36)⟩
        · refine DP.op (i := 10) rfl rfl (.free rfl) rfl (ltb rfl) ?_
          intro w38 m37
          refine Op1.mono (op_alloc (cs := fl (List.replicate 16 0)) Try.zeroValue82 rfl) ?_
          rintro _ w39 ⟨rfl, r27, m38, z15⟩
          refine ⟨(((((((Mod.refl [] w4).nt m4).nt m5).nt m26).nt m27).nt m37).nt m38), ?_⟩
          refine DR.one (i := 4) rfl rfl (by kernel_rfl) (.free rfl) rfl (ltb rfl) (vs := [.func (.func 52) #[] #[], .agg #[vS bNr'1 0 nNr nNr, vI ((i : Nat) : Int), vS bBr'1 0 nBr nBr, vI ((h : Nat) : Int), vI Dk, vF Dc0, vF Dc1, vF Dc2, vF Ds0, vF Ds1, vF sl, vF lo], .agg (fl bs).toArray]) rfl ?_
          intro w40 m39
          refine ⟨oc_call (vs := [.agg #[vS bNr'1 0 nNr nNr, vI ((i : Nat) : Int), vS bBr'1 0 nBr nBr, vI ((h : Nat) : Int), vI Dk, vF Dc0, vF Dc1, vF Dc2, vF Ds0, vF Ds1, vF sl, vF lo], .agg (fl bs).toArray]) (cap := []) rfl rfl rfl Try.call52 (c_sBlockBow nNr nNr bNr'1 xNr nBr nBr bBr'1 xBr i h Dk Dc0 Dc1 Dc2 Ds0 Ds1 sl lo bs z ou lnNr lnBr (by omega) (by omega) (by omega) (by omega) (by first | assumption | exact W32.set (by assumption) (by first | assumption | exact wid_lt (by assumption)) | exact W32.zeros _ | exact W32.nil) (by first | assumption | exact W32.set (by assumption) (by first | assumption | exact wid_lt (by assumption)) | exact W32.zeros _ | exact W32.nil) (by first | assumption | exact W32.get (by assumption) _ | decide +kernel) (by first | assumption | exact W32.get (by assumption) _ | decide +kernel) lb (by first | assumption | exact W32.set (by assumption) (by first | assumption | exact wid_lt (by assumption)) | exact W32.zeros _ | exact W32.nil) (by assumption) (by assumption) (by assumption) w40 (((((r3.ext m26).ext m27).ext m37).ext m38).ext m39).rng (((((r4.ext m26).ext m27).ext m37).ext m38).ext m39).rng), ?_⟩
          rintro _ w41 ⟨b'3, c'3, d'3, c2'3, rfl, h7, h8, h9, r28, r29, ge7, ge8, ne4, m40⟩
          refine ⟨(((((((((Mod.refl [] w4).nt m4).nt m5).nt m26).nt m27).nt m37).nt m38).nt m39).nt m40), ?_⟩
          refine DR.det (i := 5) rfl rfl (by kernel_rfl) (.free rfl) rfl rfl (fun wD mD => op_move rfl) ?_
          refine DR.det (i := 6) rfl rfl (by kernel_rfl) (.free rfl) rfl rfl (fun wD mD => op_extract rfl rfl) ?_
          refine DR.det (i := 7) rfl rfl (by kernel_rfl) (.free rfl) rfl rfl (fun wD mD => op_extract rfl rfl) ?_
          refine DR.det (i := 8) rfl rfl (by kernel_rfl) (.free rfl) rfl rfl (fun wD mD => op_extract rfl rfl) ?_
          refine DR.st1 (i := 11) rfl rfl (by kernel_rfl) (.free rfl) rfl ?_
          intro w42 m41
          refine Op1.mono (op_store (i := 0) (cs := [vS b'3 0 nNr c'3, vI ((z.i : Nat) : Int), vS d'3 0 nBr c2'3, vI ((z.h : Nat) : Int), vI Dk, vF Dc0, vF Dc1, vF Dc2, vF z.s0, vF z.s1, vF sl, vF lo]) rfl rfl rfl Try.sizeOf36 rfl (((((r19.ext m37).ext m38).ext m39).ext m40).ext m41) rfl (lB rfl) rfl) ?_
          rintro _ w43 ⟨r30, m42, z16⟩
          have r31 : Row w43 w27.heap.size 0 [vS b'3 0 nNr c'3, vI ((z.i : Nat) : Int), vS d'3 0 nBr c2'3, vI ((z.h : Nat) : Int), vI Dk, vF Dc0, vF Dc1, vF Dc2, vF z.s0, vF z.s1, vF sl, vF lo] := Row.congr r30 rfl
          refine ⟨(((((((((((Mod.refl [] w4).nt m4).nt m5).nt m26).nt m27).nt m37).nt m38).nt m39).nt m40).nt m41).then m42 ((aC (.inr (lT (lT (lT m4.size m5.size) m26.size) lR)) aN))), ?_⟩
          refine DR.st1 (i := 12) rfl rfl (by kernel_rfl) (.free rfl) rfl ?_
          intro w44 m43
          refine Op1.mono (op_store (i := 0) (cs := fl ou) rfl rfl rfl Try.sizeOf82 (fl_len h9) (((((r27.ext m39).ext m40).ext m41).mod m42 (nC (lG (lL (lL r19.lt m37.size) lR)) nN)).ext m43) rfl (by rw [fl_length, List.length_replicate]; decide) (fl_one _)) ?_
          rintro _ w45 ⟨r32, m44, z17⟩
          have r33 : Row w45 w38.heap.size 0 (fl ou) := Row.congr r32 (splice_all ((fl_len (List.length_replicate)).trans (fl_len (h9)).symm))
          refine ⟨(((((((((((((Mod.refl [] w4).nt m4).nt m5).nt m26).nt m27).nt m37).nt m38).nt m39).nt m40).nt m41).then m42 ((aC (.inr (lT (lT (lT m4.size m5.size) m26.size) lR)) aN))).nt m43).then m44 ((aC (.inr (lT (lT (lT (lT (lT m4.size m5.size) m26.size) m27.size) m37.size) lR)) aN))), ?_⟩
          refine DR.sub [(2, vP w.heap.size 0), (3, vP w1.heap.size 0), (4, .bool false), (6, vP w27.heap.size 0), (7, vP w38.heap.size 0), (32, vI 0)] ⟨rfl, rfl, rfl, rfl, rfl, rfl, trivial⟩ ?_
          refine DR.meet rfl ?_
          intro w46 m45
          exact ⟨bNr'1, bBr'1, b'3, c'3, d'3, c2'3, w27.heap.size, w38.heap.size, rfl, (((((((((((r3.ext m26).ext m27).ext m37).ext m38).ext m39).ext m40).ext m41).mod m42 (nC (lE (lL (lL r3.lt m26.size) lR)) nN)).ext m43).mod m44 (nC (lE (lL (lL r3.lt (lT (lT m26.size m27.size) m37.size)) lR)) nN)).ext m45), (((((((((((r4.ext m26).ext m27).ext m37).ext m38).ext m39).ext m40).ext m41).mod m42 (nC (lE (lL (lL r4.lt m26.size) lR)) nN)).ext m43).mod m44 (nC (lE (lL (lL r4.lt (lT (lT m26.size m27.size) m37.size)) lR)) nN)).ext m45), (((((r28.ext m41).mod m42 (nC (lG (lL (lL r19.lt (lT (lT m37.size m38.size) m39.size)) ge7)) nN)).ext m43).mod m44 (nC (lG (lL (lL r27.lt m39.size) ge7)) nN)).ext m45), (((((r29.ext m41).mod m42 (nC (lG (lL (lL r19.lt (lT (lT m37.size m38.size) m39.size)) ge8)) nN)).ext m43).mod m44 (nC (lG (lL (lL r27.lt m39.size) ge8)) nN)).ext m45), (((r31.ext m43).mod m44 (nC (lE (lL (lL r19.lt m37.size) lR)) nN)).ext m45), (r33.ext m45), (lT (lT md1.size m4.size) ge1), (lT (lT md1.size m4.size) ge2), (lT (lT (lT (lT (lT (lT (lT (lT md1.size m4.size) m5.size) m26.size) m27.size) m37.size) m38.size) m39.size) ge7), (lT (lT (lT (lT (lT (lT (lT (lT md1.size m4.size) m5.size) m26.size) m27.size) m37.size) m38.size) m39.size) ge8), (lT (lT (lT (lT md1.size m4.size) m5.size) m26.size) lR), (lT (lT (lT (lT (lT (lT md1.size m4.size) m5.size) m26.size) m27.size) m37.size) lR), ne1, (lE (lL (lL r3.lt (lT (lT (lT (lT m26.size m27.size) m37.size) m38.size) m39.size)) ge7)), (lE (lL (lL r3.lt (lT (lT (lT (lT m26.size m27.size) m37.size) m38.size) m39.size)) ge8)), (lE (lL (lL r3.lt m26.size) lR)), (lE (lL (lL r3.lt (lT (lT m26.size m27.size) m37.size)) lR)), (lE (lL (lL r4.lt (lT (lT (lT (lT m26.size m27.size) m37.size) m38.size) m39.size)) ge7)), (lE (lL (lL r4.lt (lT (lT (lT (lT m26.size m27.size) m37.size) m38.size) m39.size)) ge8)), (lE (lL (lL r4.lt m26.size) lR)), (lE (lL (lL r4.lt (lT (lT m26.size m27.size) m37.size)) lR)), ne4, (lG (lL (lL r19.lt (lT (lT m37.size m38.size) m39.size)) ge7)), (lG (lL (lL r27.lt m39.size) ge7)), (lG (lL (lL r19.lt (lT (lT m37.size m38.size) m39.size)) ge8)), (lG (lL (lL r27.lt m39.size) ge8)), (lE (lL (lL r19.lt m37.size) lR)), h7, h8, h9, (((((((((((((((Mod.refl [] w3).nt md1).nt m4).nt m5).nt m26).nt m27).nt m37).nt m38).nt m39).nt m40).nt m41).then m42 ((aC (.inr (lT (lT (lT (lT md1.size m4.size) m5.size) m26.size) lR)) aN))).nt m43).then m44 ((aC (.inr (lT (lT (lT (lT (lT (lT md1.size m4.size) m5.size) m26.size) m27.size) m37.size) lR)) aN))).nt m45)⟩
      · refine DP.op (i := 10) rfl rfl (.free rfl) rfl (ltb rfl) ?_
        intro w47 m46
        refine Op1.mono (op_alloc (cs := fl (List.replicate 16 0)) Try.zeroValue82 rfl) ?_
        rintro _ w48 ⟨rfl, r34, m47, z18⟩
        refine ⟨(((((Mod.refl [] w4).nt m4).nt m5).nt m46).nt m47), ?_⟩
        refine DR.fork (is := [4, 9]) (by kernel_rfl) (by decide) (all2 ?_ ?_)
        · refine DP.call (i := 4) rfl rfl (.free rfl) rfl (ltb rfl) (vs := [.func (.func 52) #[] #[], .agg #[vS bNr'1 0 nNr nNr, vI ((i : Nat) : Int), vS bBr'1 0 nBr nBr, vI ((h : Nat) : Int), vI Dk, vF Dc0, vF Dc1, vF Dc2, vF Ds0, vF Ds1, vF sl, vF lo], .agg (fl bs).toArray]) rfl ?_
          intro w49 m48
          refine ⟨oc_call (vs := [.agg #[vS bNr'1 0 nNr nNr, vI ((i : Nat) : Int), vS bBr'1 0 nBr nBr, vI ((h : Nat) : Int), vI Dk, vF Dc0, vF Dc1, vF Dc2, vF Ds0, vF Ds1, vF sl, vF lo], .agg (fl bs).toArray]) (cap := []) rfl rfl rfl Try.call52 (c_sBlockBow nNr nNr bNr'1 xNr nBr nBr bBr'1 xBr i h Dk Dc0 Dc1 Dc2 Ds0 Ds1 sl lo bs z ou lnNr lnBr (by omega) (by omega) (by omega) (by omega) (by first | assumption | exact W32.set (by assumption) (by first | assumption | exact wid_lt (by assumption)) | exact W32.zeros _ | exact W32.nil) (by first | assumption | exact W32.set (by assumption) (by first | assumption | exact wid_lt (by assumption)) | exact W32.zeros _ | exact W32.nil) (by first | assumption | exact W32.get (by assumption) _ | decide +kernel) (by first | assumption | exact W32.get (by assumption) _ | decide +kernel) lb (by first | assumption | exact W32.set (by assumption) (by first | assumption | exact wid_lt (by assumption)) | exact W32.zeros _ | exact W32.nil) (by assumption) (by assumption) (by assumption) w49 (((r3.ext m46).ext m47).ext m48).rng (((r4.ext m46).ext m47).ext m48).rng), ?_⟩
          rintro _ w50 ⟨b'4, c'4, d'4, c2'4, rfl, h10, h11, h12, r35, r36, ge9, ge10, ne5, m49⟩
          refine ⟨(((((((Mod.refl [] w4).nt m4).nt m5).nt m46).nt m47).nt m48).nt m49), ?_⟩
          refine DR.det (i := 5) rfl rfl (by kernel_rfl) (.free rfl) rfl rfl (fun wD mD => op_move rfl) ?_
          refine DR.det (i := 6) rfl rfl (by kernel_rfl) (.free rfl) rfl rfl (fun wD mD => op_extract rfl rfl) ?_
          refine DR.det (i := 7) rfl rfl (by kernel_rfl) (.free rfl) rfl rfl (fun wD mD => op_extract rfl rfl) ?_
          refine DR.det (i := 8) rfl rfl (by kernel_rfl) (.free rfl) rfl rfl (fun wD mD => op_extract rfl rfl) ?_
          refine DR.one1 (i := 9) rfl rfl (by kernel_rfl) (.free rfl) rfl (ltb rfl) ?_
          intro w51 m50
          refine Op1.mono (op_alloc (cs := [.slice none 0 0, vI 0, .slice none 0 0, vI 0, vI 0, vF 0, vF 0, vF 0, vF 0, vF 0, vF 0, vF 0]) Try.zeroValue36 rfl) ?_
          rintro _ w52 ⟨rfl, r37, m51, z19⟩
          refine ⟨(((((((((Mod.refl [] w4).nt m4).nt m5).nt m46).nt m47).nt m48).nt m49).nt m50).nt m51), ?_⟩
          refine DR.st1 (i := 11) rfl rfl (by kernel_rfl) (.free rfl) rfl ?_
          intro w53 m52
          refine Op1.mono (op_store (i := 0) (cs := [vS b'4 0 nNr c'4, vI ((z.i : Nat) : Int), vS d'4 0 nBr c2'4, vI ((z.h : Nat) : Int), vI Dk, vF Dc0, vF Dc1, vF Dc2, vF z.s0, vF z.s1, vF sl, vF lo]) rfl rfl rfl Try.sizeOf36 rfl (r37.ext m52) rfl (lB rfl) rfl) ?_
          rintro _ w54 ⟨r38, m53, z20⟩
          have r39 : Row w54 w51.heap.size 0 [vS b'4 0 nNr c'4, vI ((z.i : Nat) : Int), vS d'4 0 nBr c2'4, vI ((z.h : Nat) : Int), vI Dk, vF Dc0, vF Dc1, vF Dc2, vF z.s0, vF z.s1, vF sl, vF lo] := Row.congr r38 rfl
          refine ⟨(((((((((((Mod.refl [] w4).nt m4).nt m5).nt m46).nt m47).nt m48).nt m49).nt m50).nt m51).nt m52).then m53 ((aC (.inr (lT (lT (lT (lT (lT (lT (lT m4.size m5.size) m46.size) m47.size) m48.size) m49.size) m50.size) lR)) aN))), ?_⟩
          refine DR.st1 (i := 12) rfl rfl (by kernel_rfl) (.free rfl) rfl ?_
          intro w55 m54
          refine Op1.mono (op_store (i := 0) (cs := fl ou) rfl rfl rfl Try.sizeOf82 (fl_len h12) (((((((r34.ext m48).ext m49).ext m50).ext m51).ext m52).mod m53 (nC (lE (lL (lL r34.lt (lT (lT m48.size m49.size) m50.size)) lR)) nN)).ext m54) rfl (by rw [fl_length, List.length_replicate]; decide) (fl_one _)) ?_
          rintro _ w56 ⟨r40, m55, z21⟩
          have r41 : Row w56 w47.heap.size 0 (fl ou) := Row.congr r40 (splice_all ((fl_len (List.length_replicate)).trans (fl_len (h12)).symm))
          refine ⟨(((((((((((((Mod.refl [] w4).nt m4).nt m5).nt m46).nt m47).nt m48).nt m49).nt m50).nt m51).nt m52).then m53 ((aC (.inr (lT (lT (lT (lT (lT (lT (lT m4.size m5.size) m46.size) m47.size) m48.size) m49.size) m50.size) lR)) aN))).nt m54).then m55 ((aC (.inr (lT (lT (lT m4.size m5.size) m46.size) lR)) aN))), ?_⟩
          refine DR.sub [(2, vP w.heap.size 0), (3, vP w1.heap.size 0), (4, .bool false), (6, vP w51.heap.size 0), (7, vP w47.heap.size 0), (32, vI 0)] ⟨rfl, rfl, rfl, rfl, rfl, rfl, trivial⟩ ?_
          refine DR.meet rfl ?_
          intro w57 m56
          exact ⟨bNr'1, bBr'1, b'4, c'4, d'4, c2'4, w51.heap.size, w47.heap.size, rfl, (((((((((((r3.ext m46).ext m47).ext m48).ext m49).ext m50).ext m51).ext m52).mod m53 (nC (lE (lL (lL r3.lt (lT (lT (lT (lT m46.size m47.size) m48.size) m49.size) m50.size)) lR)) nN)).ext m54).mod m55 (nC (lE (lL (lL r3.lt m46.size) lR)) nN)).ext m56), (((((((((((r4.ext m46).ext m47).ext m48).ext m49).ext m50).ext m51).ext m52).mod m53 (nC (lE (lL (lL r4.lt (lT (lT (lT (lT m46.size m47.size) m48.size) m49.size) m50.size)) lR)) nN)).ext m54).mod m55 (nC (lE (lL (lL r4.lt m46.size) lR)) nN)).ext m56), (((((((r35.ext m50).ext m51).ext m52).mod m53 (nC (lE (lL (lL r35.lt m50.size) lR)) nN)).ext m54).mod m55 (nC (lG (lL (lL r34.lt m48.size) ge9)) nN)).ext m56), (((((((r36.ext m50).ext m51).ext m52).mod m53 (nC (lE (lL (lL r36.lt m50.size) lR)) nN)).ext m54).mod m55 (nC (lG (lL (lL r34.lt m48.size) ge10)) nN)).ext m56), (((r39.ext m54).mod m55 (nC (lG (lL (lL r34.lt (lT (lT m48.size m49.size) m50.size)) lR)) nN)).ext m56), (r41.ext m56), (lT (lT md1.size m4.size) ge1), (lT (lT md1.size m4.size) ge2), (lT (lT (lT (lT (lT (lT md1.size m4.size) m5.size) m46.size) m47.size) m48.size) ge9), (lT (lT (lT (lT (lT (lT md1.size m4.size) m5.size) m46.size) m47.size) m48.size) ge10), (lT (lT (lT (lT (lT (lT (lT (lT md1.size m4.size) m5.size) m46.size) m47.size) m48.size) m49.size) m50.size) lR), (lT (lT (lT (lT md1.size m4.size) m5.size) m46.size) lR), ne1, (lE (lL (lL r3.lt (lT (lT m46.size m47.size) m48.size)) ge9)), (lE (lL (lL r3.lt (lT (lT m46.size m47.size) m48.size)) ge10)), (lE (lL (lL r3.lt (lT (lT (lT (lT m46.size m47.size) m48.size) m49.size) m50.size)) lR)), (lE (lL (lL r3.lt m46.size) lR)), (lE (lL (lL r4.lt (lT (lT m46.size m47.size) m48.size)) ge9)), (lE (lL (lL r4.lt (lT (lT m46.size m47.size) m48.size)) ge10)), (lE (lL (lL r4.lt (lT (lT (lT (lT m46.size m47.size) m48.size) m49.size) m50.size)) lR)), (lE (lL (lL r4.lt m46.size) lR)), ne5, (lE (lL (lL r35.lt m50.size) lR)), (lG (lL (lL r34.lt m48.size) ge9)), (lE (lL (lL r36.lt m50.size) lR)), (lG (lL (lL r34.lt m48.size) ge10)), (lG (lL (lL r34.lt (lT (lT m48.size m49.size) m50.size)) lR)), h10, h11, h12, (((((((((((((((Mod.refl [] w3).nt md1).nt m4).nt m5).nt m46).nt m47).nt m48).nt m49).nt m50).nt m51).nt m52).then m53 ((aC (.inr (lT (lT (lT (lT (lT (lT (lT (lT md1.size m4.size) m5.size) m46.size) m47.size) m48.size) m49.size) m50.size) lR)) aN))).nt m54).then m55 ((aC (.inr (lT (lT (lT (lT md1.size m4.size) m5.size) m46.size) lR)) aN))).nt m56)⟩
        · refine DP.op (i := 9) rfl rfl (.free rfl) rfl (ltb rfl) ?_
          intro w58 m57
          refine Op1.mono (op_alloc (cs := [.slice none 0 0, vI 0, .slice none 0 0, vI 0, vI 0, vF 0, vF 0, vF 0, vF 0, vF 0, vF 0, vF 0]) Try.zeroValue36 rfl) ?_
          rintro _ w59 ⟨rfl, r42, m58, z22⟩
          refine ⟨(((((((Mod.refl [] w4).nt m4).nt m5).nt m46).nt m47).nt m57).nt m58), ?_⟩
          refine DR.one (i := 4) rfl rfl (by kernel_rfl) (.free rfl) rfl (ltb rfl) (vs := [.func (.func 52) #[] #[], .agg #[vS bNr'1 0 nNr nNr, vI ((i : Nat) : Int), vS bBr'1 0 nBr nBr, vI ((h : Nat) : Int), vI Dk, vF Dc0, vF Dc1, vF Dc2, vF Ds0, vF Ds1, vF sl, vF lo], .agg (fl bs).toArray]) rfl ?_
          intro w60 m59
          refine ⟨oc_call (vs := [.agg #[vS bNr'1 0 nNr nNr, vI ((i : Nat) : Int), vS bBr'1 0 nBr nBr, vI ((h : Nat) : Int), vI Dk, vF Dc0, vF Dc1, vF Dc2, vF Ds0, vF Ds1, vF sl, vF lo], .agg (fl bs).toArray]) (cap := []) rfl rfl rfl Try.call52 (c_sBlockBow nNr nNr bNr'1 xNr nBr nBr bBr'1 xBr i h Dk Dc0 Dc1 Dc2 Ds0 Ds1 sl lo bs z ou lnNr lnBr (by omega) (by omega) (by omega) (by omega) (by first | assumption | exact W32.set (by assumption) (by first | assumption | exact wid_lt (by assumption)) | exact W32.zeros _ | exact W32.nil) (by first | assumption | exact W32.set (by assumption) (by first | assumption | exact wid_lt (by assumption)) | exact W32.zeros _ | exact W32.nil) (by first | assumption | exact W32.get (by assumption) _ | decide +kernel) (by first | assumption | exact W32.get (by assumption) _ | decide +kernel) lb (by first | assumption | exact W32.set (by assumption) (by first | assumption | exact wid_lt (by assumption)) | exact W32.zeros _ | exact W32.nil) (by assumption) (by assumption) (by assumption) w60 (((((r3.ext m46).ext m47).ext m57).ext m58).ext m59).rng (((((r4.ext m46).ext m47).ext m57).ext m58).ext m59).rng), ?_⟩
          rintro _ w61 ⟨b'5, c'5, d'5, c2'5, rfl, h13, h14, h15, r43, r44, ge11, ge12, ne6, m60⟩
          refine ⟨(((((((((Mod.refl [] w4).nt m4).nt m5).nt m46).nt m47).nt m57).nt m58).nt m59).nt m60), ?_⟩
          refine DR.det (i := 5) rfl rfl (by kernel_rfl) (.free rfl) rfl rfl (fun wD mD => op_move rfl) ?_
          refine DR.det (i := 6) rfl rfl (by kernel_rfl) (.free rfl) rfl rfl (fun wD mD => op_extract rfl rfl) ?_
          refine DR.det (i := 7) rfl rfl (by kernel_rfl) (.free rfl) rfl rfl (fun wD mD => op_extract rfl rfl) ?_
          refine DR.det (i := 8) rfl rfl (by kernel_rfl) (.free rfl) rfl rfl (fun wD mD => op_extract rfl rfl) ?_
          refine DR.st1 (i := 11) rfl rfl (by kernel_rfl) (.free rfl) rfl ?_
          intro w62 m61
          refine Op1.mono (op_store (i := 0) (cs := [vS b'5 0 nNr c'5, vI ((z.i : Nat) : Int), vS d'5 0 nBr c2'5, vI ((z.h : Nat) : Int), vI Dk, vF Dc0, vF Dc1, vF Dc2, vF z.s0, vF z.s1, vF sl, vF lo]) rfl rfl rfl Try.sizeOf36 rfl (((r42.ext m59).ext m60).ext m61) rfl (lB rfl) rfl) ?_
          rintro _ w63 ⟨r45, m62, z23⟩
          have r46 : Row w63 w58.heap.size 0 [vS b'5 0 nNr c'5, vI ((z.i : Nat) : Int), vS d'5 0 nBr c2'5, vI ((z.h : Nat) : Int), vI Dk, vF Dc0, vF Dc1, vF Dc2, vF z.s0, vF z.s1, vF sl, vF lo] := Row.congr r45 rfl
          refine ⟨(((((((((((Mod.refl [] w4).nt m4).nt m5).nt m46).nt m47).nt m57).nt m58).nt m59).nt m60).nt m61).then m62 ((aC (.inr (lT (lT (lT (lT (lT m4.size m5.size) m46.size) m47.size) m57.size) lR)) aN))), ?_⟩
          refine DR.st1 (i := 12) rfl rfl (by kernel_rfl) (.free rfl) rfl ?_
          intro w64 m63
          refine Op1.mono (op_store (i := 0) (cs := fl ou) rfl rfl rfl Try.sizeOf82 (fl_len h15) (((((((r34.ext m57).ext m58).ext m59).ext m60).ext m61).mod m62 (nC (lE (lL (lL r34.lt m57.size) lR)) nN)).ext m63) rfl (by rw [fl_length, List.length_replicate]; decide) (fl_one _)) ?_
          rintro _ w65 ⟨r47, m64, z24⟩
          have r48 : Row w65 w47.heap.size 0 (fl ou) := Row.congr r47 (splice_all ((fl_len (List.length_replicate)).trans (fl_len (h15)).symm))
          refine ⟨(((((((((((((Mod.refl [] w4).nt m4).nt m5).nt m46).nt m47).nt m57).nt m58).nt m59).nt m60).nt m61).then m62 ((aC (.inr (lT (lT (lT (lT (lT m4.size m5.size) m46.size) m47.size) m57.size) lR)) aN))).nt m63).then m64 ((aC (.inr (lT (lT (lT m4.size m5.size) m46.size) lR)) aN))), ?_⟩
          refine DR.sub [(2, vP w.heap.size 0), (3, vP w1.heap.size 0), (4, .bool false), (6, vP w58.heap.size 0), (7, vP w47.heap.size 0), (32, vI 0)] ⟨rfl, rfl, rfl, rfl, rfl, rfl, trivial⟩ ?_
          refine DR.meet rfl ?_
          intro w66 m65
          exact ⟨bNr'1, bBr'1, b'5, c'5, d'5, c2'5, w58.heap.size, w47.heap.size, rfl, (((((((((((r3.ext m46).ext m47).ext m57).ext m58).ext m59).ext m60).ext m61).mod m62 (nC (lE (lL (lL r3.lt (lT (lT m46.size m47.size) m57.size)) lR)) nN)).ext m63).mod m64 (nC (lE (lL (lL r3.lt m46.size) lR)) nN)).ext m65), (((((((((((r4.ext m46).ext m47).ext m57).ext m58).ext m59).ext m60).ext m61).mod m62 (nC (lE (lL (lL r4.lt (lT (lT m46.size m47.size) m57.size)) lR)) nN)).ext m63).mod m64 (nC (lE (lL (lL r4.lt m46.size) lR)) nN)).ext m65), (((((r43.ext m61).mod m62 (nC (lG (lL (lL r42.lt m59.size) ge11)) nN)).ext m63).mod m64 (nC (lG (lL (lL r34.lt (lT (lT m57.size m58.size) m59.size)) ge11)) nN)).ext m65), (((((r44.ext m61).mod m62 (nC (lG (lL (lL r42.lt m59.size) ge12)) nN)).ext m63).mod m64 (nC (lG (lL (lL r34.lt (lT (lT m57.size m58.size) m59.size)) ge12)) nN)).ext m65), (((r46.ext m63).mod m64 (nC (lG (lL (lL r34.lt m57.size) lR)) nN)).ext m65), (r48.ext m65), (lT (lT md1.size m4.size) ge1), (lT (lT md1.size m4.size) ge2), (lT (lT (lT (lT (lT (lT (lT (lT md1.size m4.size) m5.size) m46.size) m47.size) m57.size) m58.size) m59.size) ge11), (lT (lT (lT (lT (lT (lT (lT (lT md1.size m4.size) m5.size) m46.size) m47.size) m57.size) m58.size) m59.size) ge12), (lT (lT (lT (lT (lT (lT md1.size m4.size) m5.size) m46.size) m47.size) m57.size) lR), (lT (lT (lT (lT md1.size m4.size) m5.size) m46.size) lR), ne1, (lE (lL (lL r3.lt (lT (lT (lT (lT m46.size m47.size) m57.size) m58.size) m59.size)) ge11)), (lE (lL (lL r3.lt (lT (lT (lT (lT m46.size m47.size) m57.size) m58.size) m59.size)) ge12)), (lE (lL (lL r3.lt (lT (lT m46.size m47.size) m57.size)) lR)), (lE (lL (lL r3.lt m46.size) lR)), (lE (lL (lL r4.lt (lT (lT (lT (lT m46.size m47.size) m57.size) m58.size) m59.size)) ge11)), (lE (lL (lL r4.lt (lT (lT (lT (lT m46.size m47.size) m57.size) m58.size) m59.size)) ge12)), (lE (lL (lL r4.lt (lT (lT m46.size m47.size) m57.size)) lR)), (lE (lL (lL r4.lt m46.size) lR)), ne6, (lG (lL (lL r42.lt m59.size) ge11)), (lG (lL (lL r34.lt (lT (lT m57.size m58.size) m59.size)) ge11)), (lG (lL (lL r42.lt m59.size) ge12)), (lG (lL (lL r34.lt (lT (lT m57.size m58.size) m59.size)) ge12)), (lG (lL (lL r34.lt m57.size) lR)), h13, h14, h15, (((((((((((((((Mod.refl [] w3).nt md1).nt m4).nt m5).nt m46).nt m47).nt m57).nt m58).nt m59).nt m60).nt m61).then m62 ((aC (.inr (lT (lT (lT (lT (lT (lT md1.size m4.size) m5.size) m46.size) m47.size) m57.size) lR)) aN))).nt m63).then m64 ((aC (.inr (lT (lT (lT (lT md1.size m4.size) m5.size) m46.size) lR)) aN))).nt m65)⟩
    · refine DP.op (i := 9) rfl rfl (.free rfl) rfl (ltb rfl) ?_
      intro w67 m66
      refine Op1.mono (op_alloc (cs := [.slice none 0 0, vI 0, .slice none 0 0, vI 0, vI 0, vF 0, vF 0, vF 0, vF 0, vF 0, vF 0, vF 0]) Try.zeroValue36 rfl) ?_
      rintro _ w68 ⟨rfl, r49, m67, z25⟩
      refine ⟨(((Mod.refl [] w4).nt m66).nt m67), ?_⟩
      refine DR.fork (is := [1, 10]) (by kernel_rfl) (by decide) (all2 ?_ ?_)
      · refine DP.call (i := 1) rfl rfl (.free rfl) rfl (ltb rfl) (vs := [.func (.func 14) #[] #[], .agg #[.slice ANr nNr cNr, vI ((i : Nat) : Int), .slice ABr nBr cBr, vI ((h : Nat) : Int), vI Dk, vF Dc0, vF Dc1, vF Dc2, vF Ds0, vF Ds1, vF sl, vF lo]]) rfl ?_
        intro w69 m68
        refine ⟨oc_call (vs := [.agg #[.slice ANr nNr cNr, vI ((i : Nat) : Int), .slice ABr nBr cBr, vI ((h : Nat) : Int), vI Dk, vF Dc0, vF Dc1, vF Dc2, vF Ds0, vF Ds1, vF sl, vF lo]]) (cap := []) rfl rfl rfl Try.call14 (c_toBow nNr cNr ANr bNr oNr xNr ((i : Nat) : Int) nBr cBr ABr bBr oBr xBr ((h : Nat) : Int) Dk Dc0 Dc1 Dc2 Ds0 Ds1 sl lo lnNr hANr lnBr hABr (by omega) (by omega) w69 (((((((rNr.ext m1).ext m2).ext m3).ext md1).ext m66).ext m67).ext m68) (((((((rBr.ext m1).ext m2).ext m3).ext md1).ext m66).ext m67).ext m68)), ?_⟩
        rintro _ w70 ⟨bNr'2, bBr'2, rfl, r50, r51, ge13, ge14, ne7, m69⟩
        refine ⟨(((((Mod.refl [] w4).nt m66).nt m67).nt m68).nt m69), ?_⟩
        refine DR.call (i := 3) (fun uA => uA = .agg (fl bs).toArray) rfl rfl (by kernel_rfl) (.free rfl) rfl (ltb rfl) ⟨_, rfl⟩ (vs := [.func (.func 49) #[] #[], .agg (fl bs).toArray]) rfl (fun wD mD => oc_call (vs := [.agg (fl bs).toArray]) (cap := []) rfl rfl rfl Try.call49 (c_toBlock bs lb wD)) ?_ ?_
        · rintro w1 _ w2 m1 ⟨rfl, m2⟩; exact ⟨rfl, m2⟩
        rintro _ rfl
        refine DR.fork (is := [4, 10]) (by kernel_rfl) (by decide) (all2 ?_ ?_)
        · refine DP.call (i := 4) rfl rfl (.free rfl) rfl (ltb rfl) (vs := [.func (.func 52) #[] #[], .agg #[vS bNr'2 0 nNr nNr, vI ((i : Nat) : Int), vS bBr'2 0 nBr nBr, vI ((h : Nat) : Int), vI Dk, vF Dc0, vF Dc1, vF Dc2, vF Ds0, vF Ds1, vF sl, vF lo], .agg (fl bs).toArray]) rfl ?_
          intro w71 m70
          refine ⟨oc_call (vs := [.agg #[vS bNr'2 0 nNr nNr, vI ((i : Nat) : Int), vS bBr'2 0 nBr nBr, vI ((h : Nat) : Int), vI Dk, vF Dc0, vF Dc1, vF Dc2, vF Ds0, vF Ds1, vF sl, vF lo], .agg (fl bs).toArray]) (cap := []) rfl rfl rfl Try.call52 (c_sBlockBow nNr nNr bNr'2 xNr nBr nBr bBr'2 xBr i h Dk Dc0 Dc1 Dc2 Ds0 Ds1 sl lo bs z ou lnNr lnBr (by omega) (by omega) (by omega) (by omega) (by first | assumption | exact W32.set (by assumption) (by first | assumption | exact wid_lt (by assumption)) | exact W32.zeros _ | exact W32.nil) (by first | assumption | exact W32.set (by assumption) (by first | assumption | exact wid_lt (by assumption)) | exact W32.zeros _ | exact W32.nil) (by first | assumption | exact W32.get (by assumption) _ | decide +kernel) (by first | assumption | exact W32.get (by assumption) _ | decide +kernel) lb (by first | assumption | exact W32.set (by assumption) (by first | assumption | exact wid_lt (by assumption)) | exact W32.zeros _ | exact W32.nil) (by assumption) (by assumption) (by assumption) w71 (r50.ext m70).rng (r51.ext m70).rng), ?_⟩
          rintro _ w72 ⟨b'6, c'6, d'6, c2'6, rfl, h16, h17, h18, r52, r53, ge15, ge16, ne8, m71⟩
          refine ⟨(((((((Mod.refl [] w4).nt m66).nt m67).nt m68).nt m69).nt m70).nt m71), ?_⟩
          refine DR.det (i := 5) rfl rfl (by kernel_rfl) (.free rfl) rfl rfl (fun wD mD => op_move rfl) ?_
          refine DR.det (i := 6) rfl rfl (by kernel_rfl) (.free rfl) rfl rfl (fun wD mD => op_extract rfl rfl) ?_
          refine DR.det (i := 7) rfl rfl (by kernel_rfl) (.free rfl) rfl rfl (fun wD mD => op_extract rfl rfl) ?_
          refine DR.det (i := 8) rfl rfl (by kernel_rfl) (.free rfl) rfl rfl (fun wD mD => op_extract rfl rfl) ?_
          refine DR.one1 (i := 10) rfl rfl (by kernel_rfl) (.free rfl) rfl (ltb rfl) ?_
          intro w73 m72
          refine Op1.mono (op_alloc (cs := fl (List.replicate 16 0)) Try.zeroValue82 rfl) ?_
          rintro _ w74 ⟨rfl, r54, m73, z26⟩
          refine ⟨(((((((((Mod.refl [] w4).nt m66).nt m67).nt m68).nt m69).nt m70).nt m71).nt m72).nt m73), ?_⟩
          refine DR.st1 (i := 11) rfl rfl (by kernel_rfl) (.free rfl) rfl ?_
          intro w75 m74
          refine Op1.mono (op_store (i := 0) (cs := [vS b'6 0 nNr c'6, vI ((z.i : Nat) : Int), vS d'6 0 nBr c2'6, vI ((z.h : Nat) : Int), vI Dk, vF Dc0, vF Dc1, vF Dc2, vF z.s0, vF z.s1, vF sl, vF lo]) rfl rfl rfl Try.sizeOf36 rfl (((((((r49.ext m68).ext m69).ext m70).ext m71).ext m72).ext m73).ext m74) rfl (lB rfl) rfl) ?_
          rintro _ w76 ⟨r55, m75, z27⟩
          have r56 : Row w76 w67.heap.size 0 [vS b'6 0 nNr c'6, vI ((z.i : Nat) : Int), vS d'6 0 nBr c2'6, vI ((z.h : Nat) : Int), vI Dk, vF Dc0, vF Dc1, vF Dc2, vF z.s0, vF z.s1, vF sl, vF lo] := Row.congr r55 rfl
          refine ⟨(((((((((((Mod.refl [] w4).nt m66).nt m67).nt m68).nt m69).nt m70).nt m71).nt m72).nt m73).nt m74).then m75 ((aC (.inr (lT m66.size lR)) aN))), ?_⟩
          refine DR.st1 (i := 12) rfl rfl (by kernel_rfl) (.free rfl) rfl ?_
          intro w77 m76
          refine Op1.mono (op_store (i := 0) (cs := fl ou) rfl rfl rfl Try.sizeOf82 (fl_len h18) (((r54.ext m74).mod m75 (nC (lG (lL (lL r49.lt (lT (lT (lT (lT m68.size m69.size) m70.size) m71.size) m72.size)) lR)) nN)).ext m76) rfl (by rw [fl_length, List.length_replicate]; decide) (fl_one _)) ?_
          rintro _ w78 ⟨r57, m77, z28⟩
          have r58 : Row w78 w73.heap.size 0 (fl ou) := Row.congr r57 (splice_all ((fl_len (List.length_replicate)).trans (fl_len (h18)).symm))
          refine ⟨(((((((((((((Mod.refl [] w4).nt m66).nt m67).nt m68).nt m69).nt m70).nt m71).nt m72).nt m73).nt m74).then m75 ((aC (.inr (lT m66.size lR)) aN))).nt m76).then m77 ((aC (.inr (lT (lT (lT (lT (lT (lT (lT m66.size m67.size) m68.size) m69.size) m70.size) m71.size) m72.size) lR)) aN))), ?_⟩
          refine DR.sub [(2, vP w.heap.size 0), (3, vP w1.heap.size 0), (4, .bool false), (6, vP w67.heap.size 0), (7, vP w73.heap.size 0), (32, vI 0)] ⟨rfl, rfl, rfl, rfl, rfl, rfl, trivial⟩ ?_
          refine DR.meet rfl ?_
          intro w79 m78
          exact ⟨bNr'2, bBr'2, b'6, c'6, d'6, c2'6, w67.heap.size, w73.heap.size, rfl, (((((((((r50.ext m70).ext m71).ext m72).ext m73).ext m74).mod m75 (nC (lG (lL (lL r49.lt m68.size) ge13)) nN)).ext m76).mod m77 (nC (lE (lL (lL r50.lt (lT (lT m70.size m71.size) m72.size)) lR)) nN)).ext m78), (((((((((r51.ext m70).ext m71).ext m72).ext m73).ext m74).mod m75 (nC (lG (lL (lL r49.lt m68.size) ge14)) nN)).ext m76).mod m77 (nC (lE (lL (lL r51.lt (lT (lT m70.size m71.size) m72.size)) lR)) nN)).ext m78), (((((((r52.ext m72).ext m73).ext m74).mod m75 (nC (lG (lL (lL r49.lt (lT (lT m68.size m69.size) m70.size)) ge15)) nN)).ext m76).mod m77 (nC (lE (lL (lL r52.lt m72.size) lR)) nN)).ext m78), (((((((r53.ext m72).ext m73).ext m74).mod m75 (nC (lG (lL (lL r49.lt (lT (lT m68.size m69.size) m70.size)) ge16)) nN)).ext m76).mod m77 (nC (lE (lL (lL r53.lt m72.size) lR)) nN)).ext m78), (((r56.ext m76).mod m77 (nC (lE (lL (lL r49.lt (lT (lT (lT (lT m68.size m69.size) m70.size) m71.size) m72.size)) lR)) nN)).ext m78), (r58.ext m78), (lT (lT (lT (lT md1.size m66.size) m67.size) m68.size) ge13), (lT (lT (lT (lT md1.size m66.size) m67.size) m68.size) ge14), (lT (lT (lT (lT (lT (lT md1.size m66.size) m67.size) m68.size) m69.size) m70.size) ge15), (lT (lT (lT (lT (lT (lT md1.size m66.size) m67.size) m68.size) m69.size) m70.size) ge16), (lT (lT md1.size m66.size) lR), (lT (lT (lT (lT (lT (lT (lT (lT md1.size m66.size) m67.size) m68.size) m69.size) m70.size) m71.size) m72.size) lR), ne7, (lE (lL (lL r50.lt m70.size) ge15)), (lE (lL (lL r50.lt m70.size) ge16)), (lG (lL (lL r49.lt m68.size) ge13)), (lE (lL (lL r50.lt (lT (lT m70.size m71.size) m72.size)) lR)), (lE (lL (lL r51.lt m70.size) ge15)), (lE (lL (lL r51.lt m70.size) ge16)), (lG (lL (lL r49.lt m68.size) ge14)), (lE (lL (lL r51.lt (lT (lT m70.size m71.size) m72.size)) lR)), ne8, (lG (lL (lL r49.lt (lT (lT m68.size m69.size) m70.size)) ge15)), (lE (lL (lL r52.lt m72.size) lR)), (lG (lL (lL r49.lt (lT (lT m68.size m69.size) m70.size)) ge16)), (lE (lL (lL r53.lt m72.size) lR)), (lE (lL (lL r49.lt (lT (lT (lT (lT m68.size m69.size) m70.size) m71.size) m72.size)) lR)), h16, h17, h18, (((((((((((((((Mod.refl [] w3).nt md1).nt m66).nt m67).nt m68).nt m69).nt m70).nt m71).nt m72).nt m73).nt m74).then m75 ((aC (.inr (lT (lT md1.size m66.size) lR)) aN))).nt m76).then m77 ((aC (.inr (lT (lT (lT (lT (lT (lT (lT (lT md1.size m66.size) m67.size) m68.size) m69.size) m70.size) m71.size) m72.size) lR)) aN))).nt m78)⟩
        · refine DP.op (i := 10) rfl rfl (.free rfl) rfl (ltb rfl) ?_
          intro w80 m79
          refine Op1.mono (op_alloc (cs := fl (List.replicate 16 0)) Try.zeroValue82 rfl) ?_
          rintro _ w81 ⟨rfl, r59, m80, z29⟩
          refine ⟨(((((((Mod.refl [] w4).nt m66).nt m67).nt m68).nt m69).nt m79).nt m80), ?_⟩
          refine DR.one (i := 4) rfl rfl (by kernel_rfl) (.free rfl) rfl (ltb rfl) (vs := [.func (.func 52) #[] #[], .agg #[vS bNr'2 0 nNr nNr, vI ((i : Nat) : Int), vS bBr'2 0 nBr nBr, vI ((h : Nat) : Int), vI Dk, vF Dc0, vF Dc1, vF Dc2, vF Ds0, vF Ds1, vF sl, vF lo], .agg (fl bs).toArray]) rfl ?_
          intro w82 m81
          refine ⟨oc_call (vs := [.agg #[vS bNr'2 0 nNr nNr, vI ((i : Nat) : Int), vS bBr'2 0 nBr nBr, vI ((h : Nat) : Int), vI Dk, vF Dc0, vF Dc1, vF Dc2, vF Ds0, vF Ds1, vF sl, vF lo], .agg (fl bs).toArray]) (cap := []) rfl rfl rfl Try.call52 (c_sBlockBow nNr nNr bNr'2 xNr nBr nBr bBr'2 xBr i h Dk Dc0 Dc1 Dc2 Ds0 Ds1 sl lo bs z ou lnNr lnBr (by omega) (by omega) (by omega) (by omega) (by first | assumption | exact W32.set (by assumption) (by first | assumption | exact wid_lt (by assumption)) | exact W32.zeros _ | exact W32.nil) (by first | assumption | exact W32.set (by assumption) (by first | assumption | exact wid_lt (by assumption)) | exact W32.zeros _ | exact W32.nil) (by first | assumption | exact W32.get (by assumption) _ | decide +kernel) (by first | assumption | exact W32.get (by assumption) _ | decide +kernel) lb (by first | assumption | exact W32.set (by assumption) (by first | assumption | exact wid_lt (by assumption)) | exact W32.zeros _ | exact W32.nil) (by assumption) (by assumption) (by assumption) w82 (((r50.ext m79).ext m80).ext m81).rng (((r51.ext m79).ext m80).ext m81).rng), ?_⟩
          rintro _ w83 ⟨b'7, c'7, d'7, c2'7, rfl, h19, h20, h21, r60, r61, ge17, ge18, ne9, m82⟩
          refine ⟨(((((((((Mod.refl [] w4).nt m66).nt m67).nt m68).nt m69).nt m79).nt m80).nt m81).nt m82), ?_⟩
          refine DR.det (i := 5) rfl rfl (by kernel_rfl) (.free rfl) rfl rfl (fun wD mD => op_move rfl) ?_
          refine DR.det (i := 6) rfl rfl (by kernel_rfl) (.free rfl) rfl rfl (fun wD mD => op_extract rfl rfl) ?_
          refine DR.det (i := 7) rfl rfl (by kernel_rfl) (.free rfl) rfl rfl (fun wD mD => op_extract rfl rfl) ?_
          refine DR.det (i := 8) rfl rfl (by kernel_rfl) (.free rfl) rfl rfl (fun wD mD => op_extract rfl rfl) ?_
          refine DR.st1 (i := 11) rfl rfl (by kernel_rfl) (.free rfl) rfl ?_
          intro w84 m83
          refine Op1.mono (op_store (i := 0) (cs := [vS b'7 0 nNr c'7, vI ((z.i : Nat) : Int), vS d'7 0 nBr c2'7, vI ((z.h : Nat) : Int), vI Dk, vF Dc0, vF Dc1, vF Dc2, vF z.s0, vF z.s1, vF sl, vF lo]) rfl rfl rfl Try.sizeOf36 rfl (((((((r49.ext m68).ext m69).ext m79).ext m80).ext m81).ext m82).ext m83) rfl (lB rfl) rfl) ?_
          rintro _ w85 ⟨r62, m84, z30⟩
          have r63 : Row w85 w67.heap.size 0 [vS b'7 0 nNr c'7, vI ((z.i : Nat) : Int), vS d'7 0 nBr c2'7, vI ((z.h : Nat) : Int), vI Dk, vF Dc0, vF Dc1, vF Dc2, vF z.s0, vF z.s1, vF sl, vF lo] := Row.congr r62 rfl
          refine ⟨(((((((((((Mod.refl [] w4).nt m66).nt m67).nt m68).nt m69).nt m79).nt m80).nt m81).nt m82).nt m83).then m84 ((aC (.inr (lT m66.size lR)) aN))), ?_⟩
          refine DR.st1 (i := 12) rfl rfl (by kernel_rfl) (.free rfl) rfl ?_
          intro w86 m85
          refine Op1.mono (op_store (i := 0) (cs := fl ou) rfl rfl rfl Try.sizeOf82 (fl_len h21) (((((r59.ext m81).ext m82).ext m83).mod m84 (nC (lG (lL (lL r49.lt (lT (lT m68.size m69.size) m79.size)) lR)) nN)).ext m85) rfl (by rw [fl_length, List.length_replicate]; decide) (fl_one _)) ?_
          rintro _ w87 ⟨r64, m86, z31⟩
          have r65 : Row w87 w80.heap.size 0 (fl ou) := Row.congr r64 (splice_all ((fl_len (List.length_replicate)).trans (fl_len (h21)).symm))
          refine ⟨(((((((((((((Mod.refl [] w4).nt m66).nt m67).nt m68).nt m69).nt m79).nt m80).nt m81).nt m82).nt m83).then m84 ((aC (.inr (lT m66.size lR)) aN))).nt m85).then m86 ((aC (.inr (lT (lT (lT (lT (lT m66.size m67.size) m68.size) m69.size) m79.size) lR)) aN))), ?_⟩
          refine DR.sub [(2, vP w.heap.size 0), (3, vP w1.heap.size 0), (4, .bool false), (6, vP w67.heap.size 0), (7, vP w80.heap.size 0), (32, vI 0)] ⟨rfl, rfl, rfl, rfl, rfl, rfl, trivial⟩ ?_
          refine DR.meet rfl ?_
          intro w88 m87
          exact ⟨bNr'2, bBr'2, b'7, c'7, d'7, c2'7, w67.heap.size, w80.heap.size, rfl, (((((((((r50.ext m79).ext m80).ext m81).ext m82).ext m83).mod m84 (nC (lG (lL (lL r49.lt m68.size) ge13)) nN)).ext m85).mod m86 (nC (lE (lL (lL r50.lt m79.size) lR)) nN)).ext m87), (((((((((r51.ext m79).ext m80).ext m81).ext m82).ext m83).mod m84 (nC (lG (lL (lL r49.lt m68.size) ge14)) nN)).ext m85).mod m86 (nC (lE (lL (lL r51.lt m79.size) lR)) nN)).ext m87), (((((r60.ext m83).mod m84 (nC (lG (lL (lL r49.lt (lT (lT (lT (lT m68.size m69.size) m79.size) m80.size) m81.size)) ge17)) nN)).ext m85).mod m86 (nC (lG (lL (lL r59.lt m81.size) ge17)) nN)).ext m87), (((((r61.ext m83).mod m84 (nC (lG (lL (lL r49.lt (lT (lT (lT (lT m68.size m69.size) m79.size) m80.size) m81.size)) ge18)) nN)).ext m85).mod m86 (nC (lG (lL (lL r59.lt m81.size) ge18)) nN)).ext m87), (((r63.ext m85).mod m86 (nC (lE (lL (lL r49.lt (lT (lT m68.size m69.size) m79.size)) lR)) nN)).ext m87), (r65.ext m87), (lT (lT (lT (lT md1.size m66.size) m67.size) m68.size) ge13), (lT (lT (lT (lT md1.size m66.size) m67.size) m68.size) ge14), (lT (lT (lT (lT (lT (lT (lT (lT md1.size m66.size) m67.size) m68.size) m69.size) m79.size) m80.size) m81.size) ge17), (lT (lT (lT (lT (lT (lT (lT (lT md1.size m66.size) m67.size) m68.size) m69.size) m79.size) m80.size) m81.size) ge18), (lT (lT md1.size m66.size) lR), (lT (lT (lT (lT (lT (lT md1.size m66.size) m67.size) m68.size) m69.size) m79.size) lR), ne7, (lE (lL (lL r50.lt (lT (lT m79.size m80.size) m81.size)) ge17)), (lE (lL (lL r50.lt (lT (lT m79.size m80.size) m81.size)) ge18)), (lG (lL (lL r49.lt m68.size) ge13)), (lE (lL (lL r50.lt m79.size) lR)), (lE (lL (lL r51.lt (lT (lT m79.size m80.size) m81.size)) ge17)), (lE (lL (lL r51.lt (lT (lT m79.size m80.size) m81.size)) ge18)), (lG (lL (lL r49.lt m68.size) ge14)), (lE (lL (lL r51.lt m79.size) lR)), ne9, (lG (lL (lL r49.lt (lT (lT (lT (lT m68.size m69.size) m79.size) m80.size) m81.size)) ge17)), (lG (lL (lL r59.lt m81.size) ge17)), (lG (lL (lL r49.lt (lT (lT (lT (lT m68.size m69.size) m79.size) m80.size) m81.size)) ge18)), (lG (lL (lL r59.lt m81.size) ge18)), (lE (lL (lL r49.lt (lT (lT m68.size m69.size) m79.size)) lR)), h19, h20, h21, (((((((((((((((Mod.refl [] w3).nt md1).nt m66).nt m67).nt m68).nt m69).nt m79).nt m80).nt m81).nt m82).nt m83).then m84 ((aC (.inr (lT (lT md1.size m66.size) lR)) aN))).nt m85).then m86 ((aC (.inr (lT (lT (lT (lT (lT (lT md1.size m66.size) m67.size) m68.size) m69.size) m79.size) lR)) aN))).nt m87)⟩
      · refine DP.op (i := 10) rfl rfl (.free rfl) rfl (ltb rfl) ?_
        intro w89 m88
        refine Op1.mono (op_alloc (cs := fl (List.replicate 16 0)) Try.zeroValue82 rfl) ?_
        rintro _ w90 ⟨rfl, r66, m89, z32⟩
        refine ⟨(((((Mod.refl [] w4).nt m66).nt m67).nt m88).nt m89), ?_⟩
        refine DR.one (i := 1) rfl rfl (by kernel_rfl) (.free rfl) rfl (ltb rfl) (vs := [.func (.func 14) #[] #[], .agg #[.slice ANr nNr cNr, vI ((i : Nat) : Int), .slice ABr nBr cBr, vI ((h : Nat) : Int), vI Dk, vF Dc0, vF Dc1, vF Dc2, vF Ds0, vF Ds1, vF sl, vF lo]]) rfl ?_
        intro w91 m90
        refine ⟨oc_call (vs := [.agg #[.slice ANr nNr cNr, vI ((i : Nat) : Int), .slice ABr nBr cBr, vI ((h : Nat) : Int), vI Dk, vF Dc0, vF Dc1, vF Dc2, vF Ds0, vF Ds1, vF sl, vF lo]]) (cap := []) rfl rfl rfl Try.call14 (c_toBow nNr cNr ANr bNr oNr xNr ((i : Nat) : Int) nBr cBr ABr bBr oBr xBr ((h : Nat) : Int) Dk Dc0 Dc1 Dc2 Ds0 Ds1 sl lo lnNr hANr lnBr hABr (by omega) (by omega) w91 (((((((((rNr.ext m1).ext m2).ext m3).ext md1).ext m66).ext m67).ext m88).ext m89).ext m90) (((((((((rBr.ext m1).ext m2).ext m3).ext md1).ext m66).ext m67).ext m88).ext m89).ext m90)), ?_⟩
        rintro _ w92 ⟨bNr'3, bBr'3, rfl, r67, r68, ge19, ge20, ne10, m91⟩
        refine ⟨(((((((Mod.refl [] w4).nt m66).nt m67).nt m88).nt m89).nt m90).nt m91), ?_⟩
        refine DR.call (i := 3) (fun uA => uA = .agg (fl bs).toArray) rfl rfl (by kernel_rfl) (.free rfl) rfl (ltb rfl) ⟨_, rfl⟩ (vs := [.func (.func 49) #[] #[], .agg (fl bs).toArray]) rfl (fun wD mD => oc_call (vs := [.agg (fl bs).toArray]) (cap := []) rfl rfl rfl Try.call49 (c_toBlock bs lb wD)) ?_ ?_
        · rintro w1 _ w2 m1 ⟨rfl, m2⟩; exact ⟨rfl, m2⟩
        rintro _ rfl
        refine DR.one (i := 4) rfl rfl (by kernel_rfl) (.free rfl) rfl (ltb rfl) (vs := [.func (.func 52) #[] #[], .agg #[vS bNr'3 0 nNr nNr, vI ((i : Nat) : Int), vS bBr'3 0 nBr nBr, vI ((h : Nat) : Int), vI Dk, vF Dc0, vF Dc1, vF Dc2, vF Ds0, vF Ds1, vF sl, vF lo], .agg (fl bs).toArray]) rfl ?_
        intro w93 m92
        refine ⟨oc_call (vs := [.agg #[vS bNr'3 0 nNr nNr, vI ((i : Nat) : Int), vS bBr'3 0 nBr nBr, vI ((h : Nat) : Int), vI Dk, vF Dc0, vF Dc1, vF Dc2, vF Ds0, vF Ds1, vF sl, vF lo], .agg (fl bs).toArray]) (cap := []) rfl rfl rfl Try.call52 (c_sBlockBow nNr nNr bNr'3 xNr nBr nBr bBr'3 xBr i h Dk Dc0 Dc1 Dc2 Ds0 Ds1 sl lo bs z ou lnNr lnBr (by omega) (by omega) (by omega) (by omega) (by first | assumption | exact W32.set (by assumption) (by first | assumption | exact wid_lt (by assumption)) | exact W32.zeros _ | exact W32.nil) (by first | assumption | exact W32.set (by assumption) (by first | assumption | exact wid_lt (by assumption)) | exact W32.zeros _ | exact W32.nil) (by first | assumption | exact W32.get (by assumption) _ | decide +kernel) (by first | assumption | exact W32.get (by assumption) _ | decide +kernel) lb (by first | assumption | exact W32.set (by assumption) (by first | assumption | exact wid_lt (by assumption)) | exact W32.zeros _ | exact W32.nil) (by assumption) (by assumption) (by assumption) w93 (r67.ext m92).rng (r68.ext m92).rng), ?_⟩
        rintro _ w94 ⟨b'8, c'8, d'8, c2'8, rfl, h22, h23, h24, r69, r70, ge21, ge22, ne11, m93⟩
        refine ⟨(((((((((Mod.refl [] w4).nt m66).nt m67).nt m88).nt m89).nt m90).nt m91).nt m92).nt m93), ?_⟩
        refine DR.det (i := 5) rfl rfl (by kernel_rfl) (.free rfl) rfl rfl (fun wD mD => op_move rfl) ?_
        refine DR.det (i := 6) rfl rfl (by kernel_rfl) (.free rfl) rfl rfl (fun wD mD => op_extract rfl rfl) ?_
        refine DR.det (i := 7) rfl rfl (by kernel_rfl) (.free rfl) rfl rfl (fun wD mD => op_extract rfl rfl) ?_
        refine DR.det (i := 8) rfl rfl (by kernel_rfl) (.free rfl) rfl rfl (fun wD mD => op_extract rfl rfl) ?_
        refine DR.st1 (i := 11) rfl rfl (by kernel_rfl) (.free rfl) rfl ?_
        intro w95 m94
        refine Op1.mono (op_store (i := 0) (cs := [vS b'8 0 nNr c'8, vI ((z.i : Nat) : Int), vS d'8 0 nBr c2'8, vI ((z.h : Nat) : Int), vI Dk, vF Dc0, vF Dc1, vF Dc2, vF z.s0, vF z.s1, vF sl, vF lo]) rfl rfl rfl Try.sizeOf36 rfl (((((((r49.ext m88).ext m89).ext m90).ext m91).ext m92).ext m93).ext m94) rfl (lB rfl) rfl) ?_
        rintro _ w96 ⟨r71, m95, z33⟩
        have r72 : Row w96 w67.heap.size 0 [vS b'8 0 nNr c'8, vI ((z.i : Nat) : Int), vS d'8 0 nBr c2'8, vI ((z.h : Nat) : Int), vI Dk, vF Dc0, vF Dc1, vF Dc2, vF z.s0, vF z.s1, vF sl, vF lo] := Row.congr r71 rfl
        refine ⟨(((((((((((Mod.refl [] w4).nt m66).nt m67).nt m88).nt m89).nt m90).nt m91).nt m92).nt m93).nt m94).then m95 ((aC (.inr (lT m66.size lR)) aN))), ?_⟩
        refine DR.st1 (i := 12) rfl rfl (by kernel_rfl) (.free rfl) rfl ?_
        intro w97 m96
        refine Op1.mono (op_store (i := 0) (cs := fl ou) rfl rfl rfl Try.sizeOf82 (fl_len h24) (((((((r66.ext m90).ext m91).ext m92).ext m93).ext m94).mod m95 (nC (lG (lL (lL r49.lt m88.size) lR)) nN)).ext m96) rfl (by rw [fl_length, List.length_replicate]; decide) (fl_one _)) ?_
        rintro _ w98 ⟨r73, m97, z34⟩
        have r74 : Row w98 w89.heap.size 0 (fl ou) := Row.congr r73 (splice_all ((fl_len (List.length_replicate)).trans (fl_len (h24)).symm))
        refine ⟨(((((((((((((Mod.refl [] w4).nt m66).nt m67).nt m88).nt m89).nt m90).nt m91).nt m92).nt m93).nt m94).then m95 ((aC (.inr (lT m66.size lR)) aN))).nt m96).then m97 ((aC (.inr (lT (lT (lT m66.size m67.size) m88.size) lR)) aN))), ?_⟩
        refine DR.sub [(2, vP w.heap.size 0), (3, vP w1.heap.size 0), (4, .bool false), (6, vP w67.heap.size 0), (7, vP w89.heap.size 0), (32, vI 0)] ⟨rfl, rfl, rfl, rfl, rfl, rfl, trivial⟩ ?_
        refine DR.meet rfl ?_
        intro w99 m98
        exact ⟨bNr'3, bBr'3, b'8, c'8, d'8, c2'8, w67.heap.size, w89.heap.size, rfl, (((((((r67.ext m92).ext m93).ext m94).mod m95 (nC (lG (lL (lL r49.lt (lT (lT m88.size m89.size) m90.size)) ge19)) nN)).ext m96).mod m97 (nC (lG (lL (lL r66.lt m90.size) ge19)) nN)).ext m98), (((((((r68.ext m92).ext m93).ext m94).mod m95 (nC (lG (lL (lL r49.lt (lT (lT m88.size m89.size) m90.size)) ge20)) nN)).ext m96).mod m97 (nC (lG (lL (lL r66.lt m90.size) ge20)) nN)).ext m98), (((((r69.ext m94).mod m95 (nC (lG (lL (lL r49.lt (lT (lT (lT (lT m88.size m89.size) m90.size) m91.size) m92.size)) ge21)) nN)).ext m96).mod m97 (nC (lG (lL (lL r66.lt (lT (lT m90.size m91.size) m92.size)) ge21)) nN)).ext m98), (((((r70.ext m94).mod m95 (nC (lG (lL (lL r49.lt (lT (lT (lT (lT m88.size m89.size) m90.size) m91.size) m92.size)) ge22)) nN)).ext m96).mod m97 (nC (lG (lL (lL r66.lt (lT (lT m90.size m91.size) m92.size)) ge22)) nN)).ext m98), (((r72.ext m96).mod m97 (nC (lE (lL (lL r49.lt m88.size) lR)) nN)).ext m98), (r74.ext m98), (lT (lT (lT (lT (lT (lT md1.size m66.size) m67.size) m88.size) m89.size) m90.size) ge19), (lT (lT (lT (lT (lT (lT md1.size m66.size) m67.size) m88.size) m89.size) m90.size) ge20), (lT (lT (lT (lT (lT (lT (lT (lT md1.size m66.size) m67.size) m88.size) m89.size) m90.size) m91.size) m92.size) ge21), (lT (lT (lT (lT (lT (lT (lT (lT md1.size m66.size) m67.size) m88.size) m89.size) m90.size) m91.size) m92.size) ge22), (lT (lT md1.size m66.size) lR), (lT (lT (lT (lT md1.size m66.size) m67.size) m88.size) lR), ne10, (lE (lL (lL r67.lt m92.size) ge21)), (lE (lL (lL r67.lt m92.size) ge22)), (lG (lL (lL r49.lt (lT (lT m88.size m89.size) m90.size)) ge19)), (lG (lL (lL r66.lt m90.size) ge19)), (lE (lL (lL r68.lt m92.size) ge21)), (lE (lL (lL r68.lt m92.size) ge22)), (lG (lL (lL r49.lt (lT (lT m88.size m89.size) m90.size)) ge20)), (lG (lL (lL r66.lt m90.size) ge20)), ne11, (lG (lL (lL r49.lt (lT (lT (lT (lT m88.size m89.size) m90.size) m91.size) m92.size)) ge21)), (lG (lL (lL r66.lt (lT (lT m90.size m91.size) m92.size)) ge21)), (lG (lL (lL r49.lt (lT (lT (lT (lT m88.size m89.size) m90.size) m91.size) m92.size)) ge22)), (lG (lL (lL r66.lt (lT (lT m90.size m91.size) m92.size)) ge22)), (lE (lL (lL r49.lt m88.size) lR)), h22, h23, h24, (((((((((((((((Mod.refl [] w3).nt md1).nt m66).nt m67).nt m88).nt m89).nt m90).nt m91).nt m92).nt m93).nt m94).then m95 ((aC (.inr (lT (lT md1.size m66.size) lR)) aN))).nt m96).then m97 ((aC (.inr (lT (lT (lT (lT md1.size m66.size) m67.size) m88.size) lR)) aN))).nt m98)⟩
    · refine DP.op (i := 10) rfl rfl (.free rfl) rfl (ltb rfl) ?_
      intro w100 m99
      refine Op1.mono (op_alloc (cs := fl (List.replicate 16 0)) Try.zeroValue82 rfl) ?_
      rintro _ w101 ⟨rfl, r75, m100, z35⟩
      refine ⟨(((Mod.refl [] w4).nt m99).nt m100), ?_⟩
      refine DR.fork (is := [1, 9]) (by kernel_rfl) (by decide) (all2 ?_ ?_)
      · refine DP.call (i := 1) rfl rfl (.free rfl) rfl (ltb rfl) (vs := [.func (.func 14) #[] #[], .agg #[.slice ANr nNr cNr, vI ((i : Nat) : Int), .slice ABr nBr cBr, vI ((h : Nat) : Int), vI Dk, vF Dc0, vF Dc1, vF Dc2, vF Ds0, vF Ds1, vF sl, vF lo]]) rfl ?_
        intro w102 m101
        refine ⟨oc_call (vs := [.agg #[.slice ANr nNr cNr, vI ((i : Nat) : Int), .slice ABr nBr cBr, vI ((h : Nat) : Int), vI Dk, vF Dc0, vF Dc1, vF Dc2, vF Ds0, vF Ds1, vF sl, vF lo]]) (cap := []) rfl rfl rfl Try.call14 (c_toBow nNr cNr ANr bNr oNr xNr ((i : Nat) : Int) nBr cBr ABr bBr oBr xBr ((h : Nat) : Int) Dk Dc0 Dc1 Dc2 Ds0 Ds1 sl lo lnNr hANr lnBr hABr (by omega) (by omega) w102 (((((((rNr.ext m1).ext m2).ext m3).ext md1).ext m99).ext m100).ext m101) (((((((rBr.ext m1).ext m2).ext m3).ext md1).ext m99).ext m100).ext m101)), ?_⟩
        rintro _ w103 ⟨bNr'4, bBr'4, rfl, r76, r77, ge23, ge24, ne12, m102⟩
        refine ⟨(((((Mod.refl [] w4).nt m99).nt m100).nt m101).nt m102), ?_⟩
        refine DR.call (i := 3) (fun uA => uA = .agg (fl bs).toArray) rfl rfl (by kernel_rfl) (.free rfl) rfl (ltb rfl) ⟨_, rfl⟩ (vs := [.func (.func 49) #[] #[], .agg (fl bs).toArray]) rfl (fun wD mD => oc_call (vs := [.agg (fl bs).toArray]) (cap := []) rfl rfl rfl Try.call49 (c_toBlock bs lb wD)) ?_ ?_
        · rintro w1 _ w2 m1 ⟨rfl, m2⟩; exact ⟨rfl, m2⟩
        rintro _ rfl
        refine DR.fork (is := [4, 9]) (by kernel_rfl) (by decide) (all2 ?_ ?_)
        · refine DP.call (i := 4) rfl rfl (.free rfl) rfl (ltb rfl) (vs := [.func (.func 52) #[] #[], .agg #[vS bNr'4 0 nNr nNr, vI ((i : Nat) : Int), vS bBr'4 0 nBr nBr, vI ((h : Nat) : Int), vI Dk, vF Dc0, vF Dc1, vF Dc2, vF Ds0, vF Ds1, vF sl, vF lo], .agg (fl bs).toArray]) rfl ?_
          intro w104 m103
          refine ⟨oc_call (vs := [.agg #[vS bNr'4 0 nNr nNr, vI ((i : Nat) : Int), vS bBr'4 0 nBr nBr, vI ((h : Nat) : Int), vI Dk, vF Dc0, vF Dc1, vF Dc2, vF Ds0, vF Ds1, vF sl, vF lo], .agg (fl bs).toArray]) (cap := []) rfl rfl rfl Try.call52 (c_sBlockBow nNr nNr bNr'4 xNr nBr nBr bBr'4 xBr i h Dk Dc0 Dc1 Dc2 Ds0 Ds1 sl lo bs z ou lnNr lnBr (by omega) (by omega) (by omega) (by omega) (by first | assumption | exact W32.set (by assumption) (by first | assumption | exact wid_lt (by assumption)) | exact W32.zeros _ | exact W32.nil) (by first | assumption | exact W32.set (by assumption) (by first | assumption | exact wid_lt (by assumption)) | exact W32.zeros _ | exact W32.nil) (by first | assumption | exact W32.get (by assumption) _ | decide +kernel) (by first | assumption | exact W32.get (by assumption) _ | decide +kernel) lb (by first | assumption | exact W32.set (by assumption) (by first | assumption | exact wid_lt (by assumption)) | exact W32.zeros _ | exact W32.nil) (by assumption) (by assumption) (by assumption) w104 (r76.ext m103).rng (r77.ext m103).rng), ?_⟩
          rintro _ w105 ⟨b'9, c'9, d'9, c2'9, rfl, h25, h26, h27, r78, r79, ge25, ge26, ne13, m104⟩
          refine ⟨(((((((Mod.refl [] w4).nt m99).nt m100).nt m101).nt m102).nt m103).nt m104), ?_⟩
          refine DR.det (i := 5) rfl rfl (by kernel_rfl) (.free rfl) rfl rfl (fun wD mD => op_move rfl) ?_
          refine DR.det (i := 6) rfl rfl (by kernel_rfl) (.free rfl) rfl rfl (fun wD mD => op_extract rfl rfl) ?_
          refine DR.det (i := 7) rfl rfl (by kernel_rfl) (.free rfl) rfl rfl (fun wD mD => op_extract rfl rfl) ?_
          refine DR.det (i := 8) rfl rfl (by kernel_rfl) (.free rfl) rfl rfl (fun wD mD => op_extract rfl rfl) ?_
          refine DR.one1 (i := 9) rfl rfl (by kernel_rfl) (.free rfl) rfl (ltb rfl) ?_
          intro w106 m105
          refine Op1.mono (op_alloc (cs := [.slice none 0 0, vI 0, .slice none 0 0, vI 0, vI 0, vF 0, vF 0, vF 0, vF 0, vF 0, vF 0, vF 0]) Try.zeroValue36 rfl) ?_
          rintro _ w107 ⟨rfl, r80, m106, z36⟩
          refine ⟨(((((((((Mod.refl [] w4).nt m99).nt m100).nt m101).nt m102).nt m103).nt m104).nt m105).nt m106), ?_⟩
          refine DR.st1 (i := 11) rfl rfl (by kernel_rfl) (.free rfl) rfl ?_
          intro w108 m107
          refine Op1.mono (op_store (i := 0) (cs := [vS b'9 0 nNr c'9, vI ((z.i : Nat) : Int), vS d'9 0 nBr c2'9, vI ((z.h : Nat) : Int), vI Dk, vF Dc0, vF Dc1, vF Dc2, vF z.s0, vF z.s1, vF sl, vF lo]) rfl rfl rfl Try.sizeOf36 rfl (r80.ext m107) rfl (lB rfl) rfl) ?_
          rintro _ w109 ⟨r81, m108, z37⟩
          have r82 : Row w109 w106.heap.size 0 [vS b'9 0 nNr c'9, vI ((z.i : Nat) : Int), vS d'9 0 nBr c2'9, vI ((z.h : Nat) : Int), vI Dk, vF Dc0, vF Dc1, vF Dc2, vF z.s0, vF z.s1, vF sl, vF lo] := Row.congr r81 rfl
          refine ⟨(((((((((((Mod.refl [] w4).nt m99).nt m100).nt m101).nt m102).nt m103).nt m104).nt m105).nt m106).nt m107).then m108 ((aC (.inr (lT (lT (lT (lT (lT (lT (lT m99.size m100.size) m101.size) m102.size) m103.size) m104.size) m105.size) lR)) aN))), ?_⟩
          refine DR.st1 (i := 12) rfl rfl (by kernel_rfl) (.free rfl) rfl ?_
          intro w110 m109
          refine Op1.mono (op_store (i := 0) (cs := fl ou) rfl rfl rfl Try.sizeOf82 (fl_len h27) (((((((((r75.ext m101).ext m102).ext m103).ext m104).ext m105).ext m106).ext m107).mod m108 (nC (lE (lL (lL r75.lt (lT (lT (lT (lT m101.size m102.size) m103.size) m104.size) m105.size)) lR)) nN)).ext m109) rfl (by rw [fl_length, List.length_replicate]; decide) (fl_one _)) ?_
          rintro _ w111 ⟨r83, m110, z38⟩
          have r84 : Row w111 w100.heap.size 0 (fl ou) := Row.congr r83 (splice_all ((fl_len (List.length_replicate)).trans (fl_len (h27)).symm))
          refine ⟨(((((((((((((Mod.refl [] w4).nt m99).nt m100).nt m101).nt m102).nt m103).nt m104).nt m105).nt m106).nt m107).then m108 ((aC (.inr (lT (lT (lT (lT (lT (lT (lT m99.size m100.size) m101.size) m102.size) m103.size) m104.size) m105.size) lR)) aN))).nt m109).then m110 ((aC (.inr (lT m99.size lR)) aN))), ?_⟩
          refine DR.sub [(2, vP w.heap.size 0), (3, vP w1.heap.size 0), (4, .bool false), (6, vP w106.heap.size 0), (7, vP w100.heap.size 0), (32, vI 0)] ⟨rfl, rfl, rfl, rfl, rfl, rfl, trivial⟩ ?_
          refine DR.meet rfl ?_
          intro w112 m111
          exact ⟨bNr'4, bBr'4, b'9, c'9, d'9, c2'9, w106.heap.size, w100.heap.size, rfl, (((((((((r76.ext m103).ext m104).ext m105).ext m106).ext m107).mod m108 (nC (lE (lL (lL r76.lt (lT (lT m103.size m104.size) m105.size)) lR)) nN)).ext m109).mod m110 (nC (lG (lL (lL r75.lt m101.size) ge23)) nN)).ext m111), (((((((((r77.ext m103).ext m104).ext m105).ext m106).ext m107).mod m108 (nC (lE (lL (lL r77.lt (lT (lT m103.size m104.size) m105.size)) lR)) nN)).ext m109).mod m110 (nC (lG (lL (lL r75.lt m101.size) ge24)) nN)).ext m111), (((((((r78.ext m105).ext m106).ext m107).mod m108 (nC (lE (lL (lL r78.lt m105.size) lR)) nN)).ext m109).mod m110 (nC (lG (lL (lL r75.lt (lT (lT m101.size m102.size) m103.size)) ge25)) nN)).ext m111), (((((((r79.ext m105).ext m106).ext m107).mod m108 (nC (lE (lL (lL r79.lt m105.size) lR)) nN)).ext m109).mod m110 (nC (lG (lL (lL r75.lt (lT (lT m101.size m102.size) m103.size)) ge26)) nN)).ext m111), (((r82.ext m109).mod m110 (nC (lG (lL (lL r75.lt (lT (lT (lT (lT m101.size m102.size) m103.size) m104.size) m105.size)) lR)) nN)).ext m111), (r84.ext m111), (lT (lT (lT (lT md1.size m99.size) m100.size) m101.size) ge23), (lT (lT (lT (lT md1.size m99.size) m100.size) m101.size) ge24), (lT (lT (lT (lT (lT (lT md1.size m99.size) m100.size) m101.size) m102.size) m103.size) ge25), (lT (lT (lT (lT (lT (lT md1.size m99.size) m100.size) m101.size) m102.size) m103.size) ge26), (lT (lT (lT (lT (lT (lT (lT (lT md1.size m99.size) m100.size) m101.size) m102.size) m103.size) m104.size) m105.size) lR), (lT (lT md1.size m99.size) lR), ne12, (lE (lL (lL r76.lt m103.size) ge25)), (lE (lL (lL r76.lt m103.size) ge26)), (lE (lL (lL r76.lt (lT (lT m103.size m104.size) m105.size)) lR)), (lG (lL (lL r75.lt m101.size) ge23)), (lE (lL (lL r77.lt m103.size) ge25)), (lE (lL (lL r77.lt m103.size) ge26)), (lE (lL (lL r77.lt (lT (lT m103.size m104.size) m105.size)) lR)), (lG (lL (lL r75.lt m101.size) ge24)), ne13, (lE (lL (lL r78.lt m105.size) lR)), (lG (lL (lL r75.lt (lT (lT m101.size m102.size) m103.size)) ge25)), (lE (lL (lL r79.lt m105.size) lR)), (lG (lL (lL r75.lt (lT (lT m101.size m102.size) m103.size)) ge26)), (lG (lL (lL r75.lt (lT (lT (lT (lT m101.size m102.size) m103.size) m104.size) m105.size)) lR)), h25, h26, h27, (((((((((((((((Mod.refl [] w3).nt md1).nt m99).nt m100).nt m101).nt m102).nt m103).nt m104).nt m105).nt m106).nt m107).then m108 ((aC (.inr (lT (lT (lT (lT (lT (lT (lT (lT md1.size m99.size) m100.size) m101.size) m102.size) m103.size) m104.size) m105.size) lR)) aN))).nt m109).then m110 ((aC (.inr (lT (lT md1.size m99.size) lR)) aN))).nt m111)⟩
        · refine DP.op (i := 9) rfl rfl (.free rfl) rfl (ltb rfl) ?_
          intro w113 m112
          refine Op1.mono (op_alloc (cs := [.slice none 0 0, vI 0, .slice none 0 0, vI 0, vI 0, vF 0, vF 0, vF 0, vF 0, vF 0, vF 0, vF 0]) Try.zeroValue36 rfl) ?_
          rintro _ w114 ⟨rfl, r85, m113, z39⟩
          refine ⟨(((((((Mod.refl [] w4).nt m99).nt m100).nt m101).nt m102).nt m112).nt m113), ?_⟩
          refine DR.one (i := 4) rfl rfl (by kernel_rfl) (.free rfl) rfl (ltb rfl) (vs := [.func (.func 52) #[] #[], .agg #[vS bNr'4 0 nNr nNr, vI ((i : Nat) : Int), vS bBr'4 0 nBr nBr, vI ((h : Nat) : Int), vI Dk, vF Dc0, vF Dc1, vF Dc2, vF Ds0, vF Ds1, vF sl, vF lo], .agg (fl bs).toArray]) rfl ?_
          intro w115 m114
          refine ⟨oc_call (vs := [.agg #[vS bNr'4 0 nNr nNr, vI ((i : Nat) : Int), vS bBr'4 0 nBr nBr, vI ((h : Nat) : Int), vI Dk, vF Dc0, vF Dc1, vF Dc2, vF Ds0, vF Ds1, vF sl, vF lo], .agg (fl bs).toArray]) (cap := []) rfl rfl rfl Try.call52 (c_sBlockBow nNr nNr bNr'4 xNr nBr nBr bBr'4 xBr i h Dk Dc0 Dc1 Dc2 Ds0 Ds1 sl lo bs z ou lnNr lnBr (by omega) (by omega) (by omega) (by omega) (by first | assumption | exact W32.set (by assumption) (by first | assumption | exact wid_lt (by assumption)) | exact W32.zeros _ | exact W32.nil) (by first | assumption | exact W32.set (by assumption) (by first | assumption | exact wid_lt (by assumption)) | exact W32.zeros _ | exact W32.nil) (by first | assumption | exact W32.get (by assumption) _ | decide +kernel) (by first | assumption | exact W32.get (by assumption) _ | decide +kernel) lb (by first | assumption | exact W32.set (by assumption) (by first | assumption | exact wid_lt (by assumption)) | exact W32.zeros _ | exact W32.nil) (by assumption) (by assumption) (by assumption) w115 (((r76.ext m112).ext m113).ext m114).rng (((r77.ext m112).ext m113).ext m114).rng), ?_⟩
          rintro _ w116 ⟨b'10, c'10, d'10, c2'10, rfl, h28, h29, h30, r86, r87, ge27, ge28, ne14, m115⟩
          refine ⟨(((((((((Mod.refl [] w4).nt m99).nt m100).nt m101).nt m102).nt m112).nt m113).nt m114).nt m115), ?_⟩
          refine DR.det (i := 5) rfl rfl (by kernel_rfl) (.free rfl) rfl rfl (fun wD mD => op_move rfl) ?_
          refine DR.det (i := 6) rfl rfl (by kernel_rfl) (.free rfl) rfl rfl (fun wD mD => op_extract rfl rfl) ?_
          refine DR.det (i := 7) rfl rfl (by kernel_rfl) (.free rfl) rfl rfl (fun wD mD => op_extract rfl rfl) ?_
          refine DR.det (i := 8) rfl rfl (by kernel_rfl) (.free rfl) rfl rfl (fun wD mD => op_extract rfl rfl) ?_
          refine DR.st1 (i := 11) rfl rfl (by kernel_rfl) (.free rfl) rfl ?_
          intro w117 m116
          refine Op1.mono (op_store (i := 0) (cs := [vS b'10 0 nNr c'10, vI ((z.i : Nat) : Int), vS d'10 0 nBr c2'10, vI ((z.h : Nat) : Int), vI Dk, vF Dc0, vF Dc1, vF Dc2, vF z.s0, vF z.s1, vF sl, vF lo]) rfl rfl rfl Try.sizeOf36 rfl (((r85.ext m114).ext m115).ext m116) rfl (lB rfl) rfl) ?_
          rintro _ w118 ⟨r88, m117, z40⟩
          have r89 : Row w118 w113.heap.size 0 [vS b'10 0 nNr c'10, vI ((z.i : Nat) : Int), vS d'10 0 nBr c2'10, vI ((z.h : Nat) : Int), vI Dk, vF Dc0, vF Dc1, vF Dc2, vF z.s0, vF z.s1, vF sl, vF lo] := Row.congr r88 rfl
          refine ⟨(((((((((((Mod.refl [] w4).nt m99).nt m100).nt m101).nt m102).nt m112).nt m113).nt m114).nt m115).nt m116).then m117 ((aC (.inr (lT (lT (lT (lT (lT m99.size m100.size) m101.size) m102.size) m112.size) lR)) aN))), ?_⟩
          refine DR.st1 (i := 12) rfl rfl (by kernel_rfl) (.free rfl) rfl ?_
          intro w119 m118
          refine Op1.mono (op_store (i := 0) (cs := fl ou) rfl rfl rfl Try.sizeOf82 (fl_len h30) (((((((((r75.ext m101).ext m102).ext m112).ext m113).ext m114).ext m115).ext m116).mod m117 (nC (lE (lL (lL r75.lt (lT (lT m101.size m102.size) m112.size)) lR)) nN)).ext m118) rfl (by rw [fl_length, List.length_replicate]; decide) (fl_one _)) ?_
          rintro _ w120 ⟨r90, m119, z41⟩
          have r91 : Row w120 w100.heap.size 0 (fl ou) := Row.congr r90 (splice_all ((fl_len (List.length_replicate)).trans (fl_len (h30)).symm))
          refine ⟨(((((((((((((Mod.refl [] w4).nt m99).nt m100).nt m101).nt m102).nt m112).nt m113).nt m114).nt m115).nt m116).then m117 ((aC (.inr (lT (lT (lT (lT (lT m99.size m100.size) m101.size) m102.size) m112.size) lR)) aN))).nt m118).then m119 ((aC (.inr (lT m99.size lR)) aN))), ?_⟩
          refine DR.sub [(2, vP w.heap.size 0), (3, vP w1.heap.size 0), (4, .bool false), (6, vP w113.heap.size 0), (7, vP w100.heap.size 0), (32, vI 0)] ⟨rfl, rfl, rfl, rfl, rfl, rfl, trivial⟩ ?_
          refine DR.meet rfl ?_
          intro w121 m120
          exact ⟨bNr'4, bBr'4, b'10, c'10, d'10, c2'10, w113.heap.size, w100.heap.size, rfl, (((((((((r76.ext m112).ext m113).ext m114).ext m115).ext m116).mod m117 (nC (lE (lL (lL r76.lt m112.size) lR)) nN)).ext m118).mod m119 (nC (lG (lL (lL r75.lt m101.size) ge23)) nN)).ext m120), (((((((((r77.ext m112).ext m113).ext m114).ext m115).ext m116).mod m117 (nC (lE (lL (lL r77.lt m112.size) lR)) nN)).ext m118).mod m119 (nC (lG (lL (lL r75.lt m101.size) ge24)) nN)).ext m120), (((((r86.ext m116).mod m117 (nC (lG (lL (lL r85.lt m114.size) ge27)) nN)).ext m118).mod m119 (nC (lG (lL (lL r75.lt (lT (lT (lT (lT m101.size m102.size) m112.size) m113.size) m114.size)) ge27)) nN)).ext m120), (((((r87.ext m116).mod m117 (nC (lG (lL (lL r85.lt m114.size) ge28)) nN)).ext m118).mod m119 (nC (lG (lL (lL r75.lt (lT (lT (lT (lT m101.size m102.size) m112.size) m113.size) m114.size)) ge28)) nN)).ext m120), (((r89.ext m118).mod m119 (nC (lG (lL (lL r75.lt (lT (lT m101.size m102.size) m112.size)) lR)) nN)).ext m120), (r91.ext m120), (lT (lT (lT (lT md1.size m99.size) m100.size) m101.size) ge23), (lT (lT (lT (lT md1.size m99.size) m100.size) m101.size) ge24), (lT (lT (lT (lT (lT (lT (lT (lT md1.size m99.size) m100.size) m101.size) m102.size) m112.size) m113.size) m114.size) ge27), (lT (lT (lT (lT (lT (lT (lT (lT md1.size m99.size) m100.size) m101.size) m102.size) m112.size) m113.size) m114.size) ge28), (lT (lT (lT (lT (lT (lT md1.size m99.size) m100.size) m101.size) m102.size) m112.size) lR), (lT (lT md1.size m99.size) lR), ne12, (lE (lL (lL r76.lt (lT (lT m112.size m113.size) m114.size)) ge27)), (lE (lL (lL r76.lt (lT (lT m112.size m113.size) m114.size)) ge28)), (lE (lL (lL r76.lt m112.size) lR)), (lG (lL (lL r75.lt m101.size) ge23)), (lE (lL (lL r77.lt (lT (lT m112.size m113.size) m114.size)) ge27)), (lE (lL (lL r77.lt (lT (lT m112.size m113.size) m114.size)) ge28)), (lE (lL (lL r77.lt m112.size) lR)), (lG (lL (lL r75.lt m101.size) ge24)), ne14, (lG (lL (lL r85.lt m114.size) ge27)), (lG (lL (lL r75.lt (lT (lT (lT (lT m101.size m102.size) m112.size) m113.size) m114.size)) ge27)), (lG (lL (lL r85.lt m114.size) ge28)), (lG (lL (lL r75.lt (lT (lT (lT (lT m101.size m102.size) m112.size) m113.size) m114.size)) ge28)), (lG (lL (lL r75.lt (lT (lT m101.size m102.size) m112.size)) lR)), h28, h29, h30, (((((((((((((((Mod.refl [] w3).nt md1).nt m99).nt m100).nt m101).nt m102).nt m112).nt m113).nt m114).nt m115).nt m116).then m117 ((aC (.inr (lT (lT (lT (lT (lT (lT md1.size m99.size) m100.size) m101.size) m102.size) m112.size) lR)) aN))).nt m118).then m119 ((aC (.inr (lT (lT md1.size m99.size) lR)) aN))).nt m120)⟩
      · refine DP.op (i := 9) rfl rfl (.free rfl) rfl (ltb rfl) ?_
        intro w122 m121
        refine Op1.mono (op_alloc (cs := [.slice none 0 0, vI 0, .slice none 0 0, vI 0, vI 0, vF 0, vF 0, vF 0, vF 0, vF 0, vF 0, vF 0]) Try.zeroValue36 rfl) ?_
        rintro _ w123 ⟨rfl, r92, m122, z42⟩
        refine ⟨(((((Mod.refl [] w4).nt m99).nt m100).nt m121).nt m122), ?_⟩
        refine DR.one (i := 1) rfl rfl (by kernel_rfl) (.free rfl) rfl (ltb rfl) (vs := [.func (.func 14) #[] #[], .agg #[.slice ANr nNr cNr, vI ((i : Nat) : Int), .slice ABr nBr cBr, vI ((h : Nat) : Int), vI Dk, vF Dc0, vF Dc1, vF Dc2, vF Ds0, vF Ds1, vF sl, vF lo]]) rfl ?_
        intro w124 m123
        refine ⟨oc_call (vs := [.agg #[.slice ANr nNr cNr, vI ((i : Nat) : Int), .slice ABr nBr cBr, vI ((h : Nat) : Int), vI Dk, vF Dc0, vF Dc1, vF Dc2, vF Ds0, vF Ds1, vF sl, vF lo]]) (cap := []) rfl rfl rfl Try.call14 (c_toBow nNr cNr ANr bNr oNr xNr ((i : Nat) : Int) nBr cBr ABr bBr oBr xBr ((h : Nat) : Int) Dk Dc0 Dc1 Dc2 Ds0 Ds1 sl lo lnNr hANr lnBr hABr (by omega) (by omega) w124 (((((((((rNr.ext m1).ext m2).ext m3).ext md1).ext m99).ext m100).ext m121).ext m122).ext m123) (((((((((rBr.ext m1).ext m2).ext m3).ext md1).ext m99).ext m100).ext m121).ext m122).ext m123)), ?_⟩
        rintro _ w125 ⟨bNr'5, bBr'5, rfl, r93, r94, ge29, ge30, ne15, m124⟩
        refine ⟨(((((((Mod.refl [] w4).nt m99).nt m100).nt m121).nt m122).nt m123).nt m124), ?_⟩
        refine DR.call (i := 3) (fun uA => uA = .agg (fl bs).toArray) rfl rfl (by kernel_rfl) (.free rfl) rfl (ltb rfl) ⟨_, rfl⟩ (vs := [.func (.func 49) #[] #[], .agg (fl bs).toArray]) rfl (fun wD mD => oc_call (vs := [.agg (fl bs).toArray]) (cap := []) rfl rfl rfl Try.call49 (c_toBlock bs lb wD)) ?_ ?_
        · rintro w1 _ w2 m1 ⟨rfl, m2⟩; exact ⟨rfl, m2⟩
        rintro _ rfl
        refine DR.one (i := 4) rfl rfl (by kernel_rfl) (.free rfl) rfl (ltb rfl) (vs := [.func (.func 52) #[] #[], .agg #[vS bNr'5 0 nNr nNr, vI ((i : Nat) : Int), vS bBr'5 0 nBr nBr, vI ((h : Nat) : Int), vI Dk, vF Dc0, vF Dc1, vF Dc2, vF Ds0, vF Ds1, vF sl, vF lo], .agg (fl bs).toArray]) rfl ?_
        intro w126 m125
        refine ⟨oc_call (vs := [.agg #[vS bNr'5 0 nNr nNr, vI ((i : Nat) : Int), vS bBr'5 0 nBr nBr, vI ((h : Nat) : Int), vI Dk, vF Dc0, vF Dc1, vF Dc2, vF Ds0, vF Ds1, vF sl, vF lo], .agg (fl bs).toArray]) (cap := []) rfl rfl rfl Try.call52 (c_sBlockBow nNr nNr bNr'5 xNr nBr nBr bBr'5 xBr i h Dk Dc0 Dc1 Dc2 Ds0 Ds1 sl lo bs z ou lnNr lnBr (by omega) (by omega) (by omega) (by omega) (by first | assumption | exact W32.set (by assumption) (by first | assumption | exact wid_lt (by assumption)) | exact W32.zeros _ | exact W32.nil) (by first | assumption | exact W32.set (by assumption) (by first | assumption | exact wid_lt (by assumption)) | exact W32.zeros _ | exact W32.nil) (by first | assumption | exact W32.get (by assumption) _ | decide +kernel) (by first | assumption | exact W32.get (by assumption) _ | decide +kernel) lb (by first | assumption | exact W32.set (by assumption) (by first | assumption | exact wid_lt (by assumption)) | exact W32.zeros _ | exact W32.nil) (by assumption) (by assumption) (by assumption) w126 (r93.ext m125).rng (r94.ext m125).rng), ?_⟩
        rintro _ w127 ⟨b'11, c'11, d'11, c2'11, rfl, h31, h32, h33, r95, r96, ge31, ge32, ne16, m126⟩
        refine ⟨(((((((((Mod.refl [] w4).nt m99).nt m100).nt m121).nt m122).nt m123).nt m124).nt m125).nt m126), ?_⟩
        refine DR.det (i := 5) rfl rfl (by kernel_rfl) (.free rfl) rfl rfl (fun wD mD => op_move rfl) ?_
        refine DR.det (i := 6) rfl rfl (by kernel_rfl) (.free rfl) rfl rfl (fun wD mD => op_extract rfl rfl) ?_
        refine DR.det (i := 7) rfl rfl (by kernel_rfl) (.free rfl) rfl rfl (fun wD mD => op_extract rfl rfl) ?_
        refine DR.det (i := 8) rfl rfl (by kernel_rfl) (.free rfl) rfl rfl (fun wD mD => op_extract rfl rfl) ?_
        refine DR.st1 (i := 11) rfl rfl (by kernel_rfl) (.free rfl) rfl ?_
        intro w128 m127
        refine Op1.mono (op_store (i := 0) (cs := [vS b'11 0 nNr c'11, vI ((z.i : Nat) : Int), vS d'11 0 nBr c2'11, vI ((z.h : Nat) : Int), vI Dk, vF Dc0, vF Dc1, vF Dc2, vF z.s0, vF z.s1, vF sl, vF lo]) rfl rfl rfl Try.sizeOf36 rfl (((((r92.ext m123).ext m124).ext m125).ext m126).ext m127) rfl (lB rfl) rfl) ?_
        rintro _ w129 ⟨r97, m128, z43⟩
        have r98 : Row w129 w122.heap.size 0 [vS b'11 0 nNr c'11, vI ((z.i : Nat) : Int), vS d'11 0 nBr c2'11, vI ((z.h : Nat) : Int), vI Dk, vF Dc0, vF Dc1, vF Dc2, vF z.s0, vF z.s1, vF sl, vF lo] := Row.congr r97 rfl
        refine ⟨(((((((((((Mod.refl [] w4).nt m99).nt m100).nt m121).nt m122).nt m123).nt m124).nt m125).nt m126).nt m127).then m128 ((aC (.inr (lT (lT (lT m99.size m100.size) m121.size) lR)) aN))), ?_⟩
        refine DR.st1 (i := 12) rfl rfl (by kernel_rfl) (.free rfl) rfl ?_
        intro w130 m129
        refine Op1.mono (op_store (i := 0) (cs := fl ou) rfl rfl rfl Try.sizeOf82 (fl_len h33) (((((((((r75.ext m121).ext m122).ext m123).ext m124).ext m125).ext m126).ext m127).mod m128 (nC (lE (lL (lL r75.lt m121.size) lR)) nN)).ext m129) rfl (by rw [fl_length, List.length_replicate]; decide) (fl_one _)) ?_
        rintro _ w131 ⟨r99, m130, z44⟩
        have r100 : Row w131 w100.heap.size 0 (fl ou) := Row.congr r99 (splice_all ((fl_len (List.length_replicate)).trans (fl_len (h33)).symm))
        refine ⟨(((((((((((((Mod.refl [] w4).nt m99).nt m100).nt m121).nt m122).nt m123).nt m124).nt m125).nt m126).nt m127).then m128 ((aC (.inr (lT (lT (lT m99.size m100.size) m121.size) lR)) aN))).nt m129).then m130 ((aC (.inr (lT m99.size lR)) aN))), ?_⟩
        refine DR.sub [(2, vP w.heap.size 0), (3, vP w1.heap.size 0), (4, .bool false), (6, vP w122.heap.size 0), (7, vP w100.heap.size 0), (32, vI 0)] ⟨rfl, rfl, rfl, rfl, rfl, rfl, trivial⟩ ?_
        refine DR.meet rfl ?_
        intro w132 m131
        exact ⟨bNr'5, bBr'5, b'11, c'11, d'11, c2'11, w122.heap.size, w100.heap.size, rfl, (((((((r93.ext m125).ext m126).ext m127).mod m128 (nC (lG (lL (lL r92.lt m123.size) ge29)) nN)).ext m129).mod m130 (nC (lG (lL (lL r75.lt (lT (lT m121.size m122.size) m123.size)) ge29)) nN)).ext m131), (((((((r94.ext m125).ext m126).ext m127).mod m128 (nC (lG (lL (lL r92.lt m123.size) ge30)) nN)).ext m129).mod m130 (nC (lG (lL (lL r75.lt (lT (lT m121.size m122.size) m123.size)) ge30)) nN)).ext m131), (((((r95.ext m127).mod m128 (nC (lG (lL (lL r92.lt (lT (lT m123.size m124.size) m125.size)) ge31)) nN)).ext m129).mod m130 (nC (lG (lL (lL r75.lt (lT (lT (lT (lT m121.size m122.size) m123.size) m124.size) m125.size)) ge31)) nN)).ext m131), (((((r96.ext m127).mod m128 (nC (lG (lL (lL r92.lt (lT (lT m123.size m124.size) m125.size)) ge32)) nN)).ext m129).mod m130 (nC (lG (lL (lL r75.lt (lT (lT (lT (lT m121.size m122.size) m123.size) m124.size) m125.size)) ge32)) nN)).ext m131), (((r98.ext m129).mod m130 (nC (lG (lL (lL r75.lt m121.size) lR)) nN)).ext m131), (r100.ext m131), (lT (lT (lT (lT (lT (lT md1.size m99.size) m100.size) m121.size) m122.size) m123.size) ge29), (lT (lT (lT (lT (lT (lT md1.size m99.size) m100.size) m121.size) m122.size) m123.size) ge30), (lT (lT (lT (lT (lT (lT (lT (lT md1.size m99.size) m100.size) m121.size) m122.size) m123.size) m124.size) m125.size) ge31), (lT (lT (lT (lT (lT (lT (lT (lT md1.size m99.size) m100.size) m121.size) m122.size) m123.size) m124.size) m125.size) ge32), (lT (lT (lT (lT md1.size m99.size) m100.size) m121.size) lR), (lT (lT md1.size m99.size) lR), ne15, (lE (lL (lL r93.lt m125.size) ge31)), (lE (lL (lL r93.lt m125.size) ge32)), (lG (lL (lL r92.lt m123.size) ge29)), (lG (lL (lL r75.lt (lT (lT m121.size m122.size) m123.size)) ge29)), (lE (lL (lL r94.lt m125.size) ge31)), (lE (lL (lL r94.lt m125.size) ge32)), (lG (lL (lL r92.lt m123.size) ge30)), (lG (lL (lL r75.lt (lT (lT m121.size m122.size) m123.size)) ge30)), ne16, (lG (lL (lL r92.lt (lT (lT m123.size m124.size) m125.size)) ge31)), (lG (lL (lL r75.lt (lT (lT (lT (lT m121.size m122.size) m123.size) m124.size) m125.size)) ge31)), (lG (lL (lL r92.lt (lT (lT m123.size m124.size) m125.size)) ge32)), (lG (lL (lL r75.lt (lT (lT (lT (lT m121.size m122.size) m123.size) m124.size) m125.size)) ge32)), (lG (lL (lL r75.lt m121.size) lR)), h31, h32, h33, (((((((((((((((Mod.refl [] w3).nt md1).nt m99).nt m100).nt m121).nt m122).nt m123).nt m124).nt m125).nt m126).nt m127).then m128 ((aC (.inr (lT (lT (lT (lT md1.size m99.size) m100.size) m121.size) lR)) aN))).nt m129).then m130 ((aC (.inr (lT (lT md1.size m99.size) lR)) aN))).nt m131)⟩
  · rintro _ w133 ⟨e1_1_0, e1_1_1, e1_4_0, e1_4_1, e1_4_2, e1_4_3, e1_9_0, e1_10_0, rfl, rr1_0, rr1_1, rr1_2, rr1_3, rr1_4, rr1_5, ge33, ge34, ge35, ge36, ge37, ge38, ne17, ne18, ne19, ne20, ne21, ne22, ne23, ne24, ne25, ne26, ne27, ne28, ne29, ne30, ne31, hp1_4_0, hp1_4_1, hp1_4_2, m132⟩
    refine WO.det (op_assign rfl) rfl (.free rfl) rfl rfl ?_
    refine WO.end ?_
    refine NE.code ?_
    refine CE.seq ?_
    refine CE.region ?_
    refine WL.det (op_loadA (i := 0) (cs := [.slice ANr nNr cNr, vI ((i : Nat) : Int), .slice ABr nBr cBr, vI ((h : Nat) : Int), vI Dk, vF Dc0, vF Dc1, vF Dc2, vF Ds0, vF Ds1, vF sl, vF lo]) rfl Try.isAgg31 Try.sizeOf31 (((r1.ext m2).ext m3).ext m132).rng rfl rfl rfl) rfl rfl rfl ?_
    refine WL.call (oc_call (vs := [.agg #[.slice ANr nNr cNr, vI ((i : Nat) : Int), .slice ABr nBr cBr, vI ((h : Nat) : Int), vI Dk, vF Dc0, vF Dc1, vF Dc2, vF Ds0, vF Ds1, vF sl, vF lo]]) (cap := []) rfl rfl rfl Try.call14 (c_toBow nNr cNr ANr bNr oNr xNr ((i : Nat) : Int) nBr cBr ABr bBr oBr xBr ((h : Nat) : Int) Dk Dc0 Dc1 Dc2 Ds0 Ds1 sl lo lnNr hANr lnBr hABr (by omega) (by omega) w133 ((((rNr.ext m1).ext m2).ext m3).ext m132) ((((rBr.ext m1).ext m2).ext m3).ext m132))) rfl rfl (ltb rfl) ?_
    rintro _ w134 ⟨bNr'6, bBr'6, rfl, r101, r102, ge39, ge40, ne32, m133⟩
    refine WL.op (op_alloc (cs := [.slice none 0 0, vI 0, .slice none 0 0, vI 0, vI 0, vF 0, vF 0, vF 0, vF 0, vF 0, vF 0, vF 0]) Try.zeroValue36 rfl) rfl rfl (ltb rfl) ?_
    rintro _ w135 ⟨rfl, r103, m134, z45⟩
    refine WL.op0 (op_store (i := 0) (cs := [vS bNr'6 0 nNr nNr, vI ((i : Nat) : Int), vS bBr'6 0 nBr nBr, vI ((h : Nat) : Int), vI Dk, vF Dc0, vF Dc1, vF Dc2, vF Ds0, vF Ds1, vF sl, vF lo]) rfl rfl rfl Try.sizeOf36 rfl r103 rfl (lB rfl) rfl) rfl rfl ?_
    rintro _ w136 ⟨r104, m135, z46⟩
    have r105 : Row w136 w134.heap.size 0 [vS bNr'6 0 nNr nNr, vI ((i : Nat) : Int), vS bBr'6 0 nBr nBr, vI ((h : Nat) : Int), vI Dk, vF Dc0, vF Dc1, vF Dc2, vF Ds0, vF Ds1, vF sl, vF lo] := Row.congr r104 rfl
    refine WL.end ?_
    refine NE.code ?_
    refine CE.seq ?_
    refine CE.drawF (fun | 2 => some (fun _ wA uA wB => uA = .agg (fl bs).toArray ∧ Mod [] wA wB) | 3 => some (fun _ wA uA wB => ∃ (b' : Nat) (c' : Nat) (d' : Nat) (c2' : Nat), uA = .tuple #[.agg #[vS b' 0 nNr c', vI ((z.i : Nat) : Int), vS d' 0 nBr c2', vI ((z.h : Nat) : Int), vI Dk, vF Dc0, vF Dc1, vF Dc2, vF z.s0, vF z.s1, vF sl, vF lo], .agg (fl ou).toArray, vI 0] ∧ (z.xs.length = nNr) ∧ (z.ys.length = nBr) ∧ (ou.length = 16) ∧ Row wB b' 0 (fl z.xs) ∧ Row wB d' 0 (fl z.ys) ∧ wA.heap.size ≤ b' ∧ wA.heap.size ≤ d' ∧ b' ≠ d' ∧ Mod [] wA wB) | _ => none) [0, 1, 2, 3, 4, 5, 6, 7, 8, 9, 10, 11] [12] [] (fun ρ W => ∃ (e2_3_0 : Nat) (e2_3_1 : Nat) (e2_3_2 : Nat) (e2_3_3 : Nat) (e2_8_0 : Nat) (e2_9_0 : Nat), ρ = [(2, vP w.heap.size 0), (3, vP w1.heap.size 0), (4, .bool false), (6, vP e1_9_0 0), (7, vP e1_10_0 0), (8, vI 0), (9, vP w134.heap.size 0), (10, vP e2_8_0 0), (11, vP e2_9_0 0), (42, vI 0)] ∧ Row W e2_3_0 0 (fl z.xs) ∧ Row W e2_3_2 0 (fl z.ys) ∧ Row W e2_8_0 0 [vS e2_3_0 0 nNr e2_3_1, vI ((z.i : Nat) : Int), vS e2_3_2 0 nBr e2_3_3, vI ((z.h : Nat) : Int), vI Dk, vF Dc0, vF Dc1, vF Dc2, vF z.s0, vF z.s1, vF sl, vF lo] ∧ Row W e2_9_0 0 (fl ou) ∧ w136.heap.size ≤ e2_3_0 ∧ w136.heap.size ≤ e2_3_2 ∧ w136.heap.size ≤ e2_8_0 ∧ w136.heap.size ≤ e2_9_0 ∧ e2_3_0 ≠ e2_3_2 ∧ e2_3_0 ≠ e2_8_0 ∧ e2_3_0 ≠ e2_9_0 ∧ e2_3_2 ≠ e2_8_0 ∧ e2_3_2 ≠ e2_9_0 ∧ e2_8_0 ≠ e2_9_0 ∧ (z.xs.length = nNr) ∧ (z.ys.length = nBr) ∧ (ou.length = 16) ∧ Mod [] w136 W) (by kernel_rfl) (by kernel_rfl) ?_ ?_
    have md2 : Mod [] w136 w136.drew := (Mod.refl _ _).drew
    generalize w136.drew = w137 at md2 ⊢
    · refine DR.det (i := 0) rfl rfl (by kernel_rfl) (.free rfl) rfl rfl (fun wD mD => op_loadA (i := 0) (cs := [vS bNr'6 0 nNr nNr, vI ((i : Nat) : Int), vS bBr'6 0 nBr nBr, vI ((h : Nat) : Int), vI Dk, vF Dc0, vF Dc1, vF Dc2, vF Ds0, vF Ds1, vF sl, vF lo]) rfl Try.isAgg36 Try.sizeOf36 ((r105.ext md2).ext mD).rng rfl rfl rfl) ?_
      refine DR.det (i := 1) rfl rfl (by kernel_rfl) (.free rfl) rfl rfl (fun wD mD => op_loadA (i := 0) (cs := fl bs) rfl Try.isAgg81 Try.sizeOf81 (((((((r2.ext m3).ext m132).ext m133).ext m134).mod m135 (nC (lE (lL (lL r2.lt (lT (lT m3.size m132.size) m133.size)) lR)) nN)).ext md2).ext mD).rng rfl (fl_whole lb) (fl_len lb)) ?_
      refine DR.call (i := 2) (fun uA => uA = .agg (fl bs).toArray) rfl rfl (by kernel_rfl) (.free rfl) rfl (ltb rfl) ⟨_, rfl⟩ (vs := [.func (.func 49) #[] #[], .agg (fl bs).toArray]) rfl (fun wD mD => oc_call (vs := [.agg (fl bs).toArray]) (cap := []) rfl rfl rfl Try.call49 (c_toBlock bs lb wD)) ?_ ?_
      · rintro w1 _ w2 m1 ⟨rfl, m2⟩; exact ⟨rfl, m2⟩
      rintro _ rfl
      refine DR.fork (is := [3, 8, 9]) (by kernel_rfl) (by decide) (all3 ?_ ?_ ?_)
      · refine DP.call (i := 3) rfl rfl (.free rfl) rfl (ltb rfl) (vs := [.func (.func 53) #[] #[], .agg #[vS bNr'6 0 nNr nNr, vI ((i : Nat) : Int), vS bBr'6 0 nBr nBr, vI ((h : Nat) : Int), vI Dk, vF Dc0, vF Dc1, vF Dc2, vF Ds0, vF Ds1, vF sl, vF lo], .agg (fl bs).toArray]) rfl ?_
        intro w138 m136
        refine ⟨oc_call (vs := [.agg #[vS bNr'6 0 nNr nNr, vI ((i : Nat) : Int), vS bBr'6 0 nBr nBr, vI ((h : Nat) : Int), vI Dk, vF Dc0, vF Dc1, vF Dc2, vF Ds0, vF Ds1, vF sl, vF lo], .agg (fl bs).toArray]) (cap := []) rfl rfl rfl Try.call53 (c_iBlockBow nNr nNr bNr'6 xNr nBr nBr bBr'6 xBr i h Dk Dc0 Dc1 Dc2 Ds0 Ds1 sl lo bs z ou lnNr lnBr (by omega) (by omega) (by omega) (by omega) (by first | assumption | exact W32.set (by assumption) (by first | assumption | exact wid_lt (by assumption)) | exact W32.zeros _ | exact W32.nil) (by first | assumption | exact W32.set (by assumption) (by first | assumption | exact wid_lt (by assumption)) | exact W32.zeros _ | exact W32.nil) (by first | assumption | exact W32.get (by assumption) _ | decide +kernel) (by first | assumption | exact W32.get (by assumption) _ | decide +kernel) lb (by first | assumption | exact W32.set (by assumption) (by first | assumption | exact wid_lt (by assumption)) | exact W32.zeros _ | exact W32.nil) (by assumption) (by assumption) (by assumption) w138 ((((r101.ext m134).mod m135 (nC (lE (lL r101.lt lR)) nN)).ext md2).ext m136).rng ((((r102.ext m134).mod m135 (nC (lE (lL r102.lt lR)) nN)).ext md2).ext m136).rng), ?_⟩
        rintro _ w139 ⟨b'12, c'12, d'12, c2'12, rfl, h34, h35, h36, r106, r107, ge41, ge42, ne33, m137⟩
        refine ⟨(((Mod.refl [] w137).nt m136).nt m137), ?_⟩
        refine DR.det (i := 4) rfl rfl (by kernel_rfl) (.free rfl) rfl rfl (fun wD mD => op_move rfl) ?_
        refine DR.det (i := 5) rfl rfl (by kernel_rfl) (.free rfl) rfl rfl (fun wD mD => op_extract rfl rfl) ?_
        refine DR.det (i := 6) rfl rfl (by kernel_rfl) (.free rfl) rfl rfl (fun wD mD => op_extract rfl rfl) ?_
        refine DR.det (i := 7) rfl rfl (by kernel_rfl) (.free rfl) rfl rfl (fun wD mD => op_extract rfl rfl) ?_
        refine DR.fork (is := [8, 9]) (by kernel_rfl) (by decide) (all2 ?_ ?_)
        · refine DP.op (i := 8) rfl rfl (.free rfl) rfl (ltb rfl) ?_
          intro w140 m138
          refine Op1.mono (op_alloc (cs := [.slice none 0 0, vI 0, .slice none 0 0, vI 0, vI 0, vF 0, vF 0, vF 0, vF 0, vF 0, vF 0, vF 0]) Try.zeroValue36 rfl) ?_
          rintro _ w141 ⟨rfl, r108, m139, z47⟩
          refine ⟨(((((Mod.refl [] w137).nt m136).nt m137).nt m138).nt m139), ?_⟩
          refine DR.one1 (i := 9) rfl rfl (by kernel_rfl) (.free rfl) rfl (ltb rfl) ?_
          intro w142 m140
          refine Op1.mono (op_alloc (cs := fl (List.replicate 16 0)) Try.zeroValue82 rfl) ?_
          rintro _ w143 ⟨rfl, r109, m141, z48⟩
          refine ⟨(((((((Mod.refl [] w137).nt m136).nt m137).nt m138).nt m139).nt m140).nt m141), ?_⟩
          refine DR.st1 (i := 10) rfl rfl (by kernel_rfl) (.free rfl) rfl ?_
          intro w144 m142
          refine Op1.mono (op_store (i := 0) (cs := [vS b'12 0 nNr c'12, vI ((z.i : Nat) : Int), vS d'12 0 nBr c2'12, vI ((z.h : Nat) : Int), vI Dk, vF Dc0, vF Dc1, vF Dc2, vF z.s0, vF z.s1, vF sl, vF lo]) rfl rfl rfl Try.sizeOf36 rfl (((r108.ext m140).ext m141).ext m142) rfl (lB rfl) rfl) ?_
          rintro _ w145 ⟨r110, m143, z49⟩
          have r111 : Row w145 w140.heap.size 0 [vS b'12 0 nNr c'12, vI ((z.i : Nat) : Int), vS d'12 0 nBr c2'12, vI ((z.h : Nat) : Int), vI Dk, vF Dc0, vF Dc1, vF Dc2, vF z.s0, vF z.s1, vF sl, vF lo] := Row.congr r110 rfl
          refine ⟨(((((((((Mod.refl [] w137).nt m136).nt m137).nt m138).nt m139).nt m140).nt m141).nt m142).then m143 ((aC (.inr (lT (lT (lT m136.size m137.size) m138.size) lR)) aN))), ?_⟩
          refine DR.st1 (i := 11) rfl rfl (by kernel_rfl) (.free rfl) rfl ?_
          intro w146 m144
          refine Op1.mono (op_store (i := 0) (cs := fl ou) rfl rfl rfl Try.sizeOf82 (fl_len h36) (((r109.ext m142).mod m143 (nC (lG (lL (lL r108.lt m140.size) lR)) nN)).ext m144) rfl (by rw [fl_length, List.length_replicate]; decide) (fl_one _)) ?_
          rintro _ w147 ⟨r112, m145, z50⟩
          have r113 : Row w147 w142.heap.size 0 (fl ou) := Row.congr r112 (splice_all ((fl_len (List.length_replicate)).trans (fl_len (h36)).symm))
          refine ⟨(((((((((((Mod.refl [] w137).nt m136).nt m137).nt m138).nt m139).nt m140).nt m141).nt m142).then m143 ((aC (.inr (lT (lT (lT m136.size m137.size) m138.size) lR)) aN))).nt m144).then m145 ((aC (.inr (lT (lT (lT (lT (lT m136.size m137.size) m138.size) m139.size) m140.size) lR)) aN))), ?_⟩
          refine DR.sub [(2, vP w.heap.size 0), (3, vP w1.heap.size 0), (4, .bool false), (6, vP e1_9_0 0), (7, vP e1_10_0 0), (8, vI 0), (9, vP w134.heap.size 0), (10, vP w140.heap.size 0), (11, vP w142.heap.size 0), (42, vI 0)] ⟨rfl, rfl, rfl, rfl, rfl, rfl, rfl, rfl, rfl, rfl, trivial⟩ ?_
          refine DR.meet rfl ?_
          intro w148 m146
          exact ⟨b'12, c'12, d'12, c2'12, w140.heap.size, w142.heap.size, rfl, (((((((((r106.ext m138).ext m139).ext m140).ext m141).ext m142).mod m143 (nC (lE (lL (lL r106.lt m138.size) lR)) nN)).ext m144).mod m145 (nC (lE (lL (lL r106.lt (lT (lT m138.size m139.size) m140.size)) lR)) nN)).ext m146), (((((((((r107.ext m138).ext m139).ext m140).ext m141).ext m142).mod m143 (nC (lE (lL (lL r107.lt m138.size) lR)) nN)).ext m144).mod m145 (nC (lE (lL (lL r107.lt (lT (lT m138.size m139.size) m140.size)) lR)) nN)).ext m146), (((r111.ext m144).mod m145 (nC (lE (lL (lL r108.lt m140.size) lR)) nN)).ext m146), (r113.ext m146), (lT (lT md2.size m136.size) ge41), (lT (lT md2.size m136.size) ge42), (lT (lT (lT (lT md2.size m136.size) m137.size) m138.size) lR), (lT (lT (lT (lT (lT (lT md2.size m136.size) m137.size) m138.size) m139.size) m140.size) lR), ne33, (lE (lL (lL r106.lt m138.size) lR)), (lE (lL (lL r106.lt (lT (lT m138.size m139.size) m140.size)) lR)), (lE (lL (lL r107.lt m138.size) lR)), (lE (lL (lL r107.lt (lT (lT m138.size m139.size) m140.size)) lR)), (lE (lL (lL r108.lt m140.size) lR)), h34, h35, h36, (((((((((((((Mod.refl [] w136).nt md2).nt m136).nt m137).nt m138).nt m139).nt m140).nt m141).nt m142).then m143 ((aC (.inr (lT (lT (lT (lT md2.size m136.size) m137.size) m138.size) lR)) aN))).nt m144).then m145 ((aC (.inr (lT (lT (lT (lT (lT (lT md2.size m136.size) m137.size) m138.size) m139.size) m140.size) lR)) aN))).nt m146)⟩
        · refine DP.op (i := 9) rfl rfl (.free rfl) rfl (ltb rfl) ?_
          intro w149 m147
          refine Op1.mono (op_alloc (cs := fl (List.replicate 16 0)) Try.zeroValue82 rfl) ?_
          rintro _ w150 ⟨rfl, r114, m148, z51⟩
          refine ⟨(((((Mod.refl [] w137).nt m136).nt m137).nt m147).nt m148), ?_⟩
          refine DR.one1 (i := 8) rfl rfl (by kernel_rfl) (.free rfl) rfl (ltb rfl) ?_
          intro w151 m149
          refine Op1.mono (op_alloc (cs := [.slice none 0 0, vI 0, .slice none 0 0, vI 0, vI 0, vF 0, vF 0, vF 0, vF 0, vF 0, vF 0, vF 0]) Try.zeroValue36 rfl) ?_
          rintro _ w152 ⟨rfl, r115, m150, z52⟩
          refine ⟨(((((((Mod.refl [] w137).nt m136).nt m137).nt m147).nt m148).nt m149).nt m150), ?_⟩
          refine DR.st1 (i := 10) rfl rfl (by kernel_rfl) (.free rfl) rfl ?_
          intro w153 m151
          refine Op1.mono (op_store (i := 0) (cs := [vS b'12 0 nNr c'12, vI ((z.i : Nat) : Int), vS d'12 0 nBr c2'12, vI ((z.h : Nat) : Int), vI Dk, vF Dc0, vF Dc1, vF Dc2, vF z.s0, vF z.s1, vF sl, vF lo]) rfl rfl rfl Try.sizeOf36 rfl (r115.ext m151) rfl (lB rfl) rfl) ?_
          rintro _ w154 ⟨r116, m152, z53⟩
          have r117 : Row w154 w151.heap.size 0 [vS b'12 0 nNr c'12, vI ((z.i : Nat) : Int), vS d'12 0 nBr c2'12, vI ((z.h : Nat) : Int), vI Dk, vF Dc0, vF Dc1, vF Dc2, vF z.s0, vF z.s1, vF sl, vF lo] := Row.congr r116 rfl
          refine ⟨(((((((((Mod.refl [] w137).nt m136).nt m137).nt m147).nt m148).nt m149).nt m150).nt m151).then m152 ((aC (.inr (lT (lT (lT (lT (lT m136.size m137.size) m147.size) m148.size) m149.size) lR)) aN))), ?_⟩
          refine DR.st1 (i := 11) rfl rfl (by kernel_rfl) (.free rfl) rfl ?_
          intro w155 m153
          refine Op1.mono (op_store (i := 0) (cs := fl ou) rfl rfl rfl Try.sizeOf82 (fl_len h36) (((((r114.ext m149).ext m150).ext m151).mod m152 (nC (lE (lL (lL r114.lt m149.size) lR)) nN)).ext m153) rfl (by rw [fl_length, List.length_replicate]; decide) (fl_one _)) ?_
          rintro _ w156 ⟨r118, m154, z54⟩
          have r119 : Row w156 w149.heap.size 0 (fl ou) := Row.congr r118 (splice_all ((fl_len (List.length_replicate)).trans (fl_len (h36)).symm))
          refine ⟨(((((((((((Mod.refl [] w137).nt m136).nt m137).nt m147).nt m148).nt m149).nt m150).nt m151).then m152 ((aC (.inr (lT (lT (lT (lT (lT m136.size m137.size) m147.size) m148.size) m149.size) lR)) aN))).nt m153).then m154 ((aC (.inr (lT (lT (lT m136.size m137.size) m147.size) lR)) aN))), ?_⟩
          refine DR.sub [(2, vP w.heap.size 0), (3, vP w1.heap.size 0), (4, .bool false), (6, vP e1_9_0 0), (7, vP e1_10_0 0), (8, vI 0), (9, vP w134.heap.size 0), (10, vP w151.heap.size 0), (11, vP w149.heap.size 0), (42, vI 0)] ⟨rfl, rfl, rfl, rfl, rfl, rfl, rfl, rfl, rfl, rfl, trivial⟩ ?_
          refine DR.meet rfl ?_
          intro w157 m155
          exact ⟨b'12, c'12, d'12, c2'12, w151.heap.size, w149.heap.size, rfl, (((((((((r106.ext m147).ext m148).ext m149).ext m150).ext m151).mod m152 (nC (lE (lL (lL r106.lt (lT (lT m147.size m148.size) m149.size)) lR)) nN)).ext m153).mod m154 (nC (lE (lL (lL r106.lt m147.size) lR)) nN)).ext m155), (((((((((r107.ext m147).ext m148).ext m149).ext m150).ext m151).mod m152 (nC (lE (lL (lL r107.lt (lT (lT m147.size m148.size) m149.size)) lR)) nN)).ext m153).mod m154 (nC (lE (lL (lL r107.lt m147.size) lR)) nN)).ext m155), (((r117.ext m153).mod m154 (nC (lG (lL (lL r114.lt m149.size) lR)) nN)).ext m155), (r119.ext m155), (lT (lT md2.size m136.size) ge41), (lT (lT md2.size m136.size) ge42), (lT (lT (lT (lT (lT (lT md2.size m136.size) m137.size) m147.size) m148.size) m149.size) lR), (lT (lT (lT (lT md2.size m136.size) m137.size) m147.size) lR), ne33, (lE (lL (lL r106.lt (lT (lT m147.size m148.size) m149.size)) lR)), (lE (lL (lL r106.lt m147.size) lR)), (lE (lL (lL r107.lt (lT (lT m147.size m148.size) m149.size)) lR)), (lE (lL (lL r107.lt m147.size) lR)), (lG (lL (lL r114.lt m149.size) lR)), h34, h35, h36, (((((((((((((Mod.refl [] w136).nt md2).nt m136).nt m137).nt m147).nt m148).nt m149).nt m150).nt m151).then m152 ((aC (.inr (lT (lT (lT (lT (lT (lT md2.size m136.size) m137.size) m147.size) m148.size) m149.size) lR)) aN))).nt m153).then m154 ((aC (.inr (lT (lT (lT (lT md2.size m136.size) m137.size) m147.size) lR)) aN))).nt m155)⟩
      · refine DP.op (i := 8) rfl rfl (.free rfl) rfl (ltb rfl) ?_
        intro w158 m156
        refine Op1.mono (op_alloc (cs := [.slice none 0 0, vI 0, .slice none 0 0, vI 0, vI 0, vF 0, vF 0, vF 0, vF 0, vF 0, vF 0, vF 0]) Try.zeroValue36 rfl) ?_
        rintro _ w159 ⟨rfl, r120, m157, z55⟩
        refine ⟨(((Mod.refl [] w137).nt m156).nt m157), ?_⟩
        refine DR.fork (is := [3, 9]) (by kernel_rfl) (by decide) (all2 ?_ ?_)
        · refine DP.call (i := 3) rfl rfl (.free rfl) rfl (ltb rfl) (vs := [.func (.func 53) #[] #[], .agg #[vS bNr'6 0 nNr nNr, vI ((i : Nat) : Int), vS bBr'6 0 nBr nBr, vI ((h : Nat) : Int), vI Dk, vF Dc0, vF Dc1, vF Dc2, vF Ds0, vF Ds1, vF sl, vF lo], .agg (fl bs).toArray]) rfl ?_
          intro w160 m158
          refine ⟨oc_call (vs := [.agg #[vS bNr'6 0 nNr nNr, vI ((i : Nat) : Int), vS bBr'6 0 nBr nBr, vI ((h : Nat) : Int), vI Dk, vF Dc0, vF Dc1, vF Dc2, vF Ds0, vF Ds1, vF sl, vF lo], .agg (fl bs).toArray]) (cap := []) rfl rfl rfl Try.call53 (c_iBlockBow nNr nNr bNr'6 xNr nBr nBr bBr'6 xBr i h Dk Dc0 Dc1 Dc2 Ds0 Ds1 sl lo bs z ou lnNr lnBr (by omega) (by omega) (by omega) (by omega) (by first | assumption | exact W32.set (by assumption) (by first | assumption | exact wid_lt (by assumption)) | exact W32.zeros _ | exact W32.nil) (by first | assumption | exact W32.set (by assumption) (by first | assumption | exact wid_lt (by assumption)) | exact W32.zeros _ | exact W32.nil) (by first | assumption | exact W32.get (by assumption) _ | decide +kernel) (by first | assumption | exact W32.get (by assumption) _ | decide +kernel) lb (by first | assumption | exact W32.set (by assumption) (by first | assumption | exact wid_lt (by assumption)) | exact W32.zeros _ | exact W32.nil) (by assumption) (by assumption) (by assumption) w160 ((((((r101.ext m134).mod m135 (nC (lE (lL r101.lt lR)) nN)).ext md2).ext m156).ext m157).ext m158).rng ((((((r102.ext m134).mod m135 (nC (lE (lL r102.lt lR)) nN)).ext md2).ext m156).ext m157).ext m158).rng), ?_⟩
          rintro _ w161 ⟨b'13, c'13, d'13, c2'13, rfl, h37, h38, h39, r121, r122, ge43, ge44, ne34, m159⟩
          refine ⟨(((((Mod.refl [] w137).nt m156).nt m157).nt m158).nt m159), ?_⟩
          refine DR.det (i := 4) rfl rfl (by kernel_rfl) (.free rfl) rfl rfl (fun wD mD => op_move rfl) ?_
          refine DR.det (i := 5) rfl rfl (by kernel_rfl) (.free rfl) rfl rfl (fun wD mD => op_extract rfl rfl) ?_
          refine DR.det (i := 6) rfl rfl (by kernel_rfl) (.free rfl) rfl rfl (fun wD mD => op_extract rfl rfl) ?_
          refine DR.det (i := 7) rfl rfl (by kernel_rfl) (.free rfl) rfl rfl (fun wD mD => op_extract rfl rfl) ?_
          refine DR.one1 (i := 9) rfl rfl (by kernel_rfl) (.free rfl) rfl (ltb rfl) ?_
          intro w162 m160
          refine Op1.mono (op_alloc (cs := fl (List.replicate 16 0)) Try.zeroValue82 rfl) ?_
          rintro _ w163 ⟨rfl, r123, m161, z56⟩
          refine ⟨(((((((Mod.refl [] w137).nt m156).nt m157).nt m158).nt m159).nt m160).nt m161), ?_⟩
          refine DR.st1 (i := 10) rfl rfl (by kernel_rfl) (.free rfl) rfl ?_
          intro w164 m162
          refine Op1.mono (op_store (i := 0) (cs := [vS b'13 0 nNr c'13, vI ((z.i : Nat) : Int), vS d'13 0 nBr c2'13, vI ((z.h : Nat) : Int), vI Dk, vF Dc0, vF Dc1, vF Dc2, vF z.s0, vF z.s1, vF sl, vF lo]) rfl rfl rfl Try.sizeOf36 rfl (((((r120.ext m158).ext m159).ext m160).ext m161).ext m162) rfl (lB rfl) rfl) ?_
          rintro _ w165 ⟨r124, m163, z57⟩
          have r125 : Row w165 w158.heap.size 0 [vS b'13 0 nNr c'13, vI ((z.i : Nat) : Int), vS d'13 0 nBr c2'13, vI ((z.h : Nat) : Int), vI Dk, vF Dc0, vF Dc1, vF Dc2, vF z.s0, vF z.s1, vF sl, vF lo] := Row.congr r124 rfl
          refine ⟨(((((((((Mod.refl [] w137).nt m156).nt m157).nt m158).nt m159).nt m160).nt m161).nt m162).then m163 ((aC (.inr (lT m156.size lR)) aN))), ?_⟩
          refine DR.st1 (i := 11) rfl rfl (by kernel_rfl) (.free rfl) rfl ?_
          intro w166 m164
          refine Op1.mono (op_store (i := 0) (cs := fl ou) rfl rfl rfl Try.sizeOf82 (fl_len h39) (((r123.ext m162).mod m163 (nC (lG (lL (lL r120.lt (lT (lT m158.size m159.size) m160.size)) lR)) nN)).ext m164) rfl (by rw [fl_length, List.length_replicate]; decide) (fl_one _)) ?_
          rintro _ w167 ⟨r126, m165, z58⟩
          have r127 : Row w167 w162.heap.size 0 (fl ou) := Row.congr r126 (splice_all ((fl_len (List.length_replicate)).trans (fl_len (h39)).symm))
          refine ⟨(((((((((((Mod.refl [] w137).nt m156).nt m157).nt m158).nt m159).nt m160).nt m161).nt m162).then m163 ((aC (.inr (lT m156.size lR)) aN))).nt m164).then m165 ((aC (.inr (lT (lT (lT (lT (lT m156.size m157.size) m158.size) m159.size) m160.size) lR)) aN))), ?_⟩
          refine DR.sub [(2, vP w.heap.size 0), (3, vP w1.heap.size 0), (4, .bool false), (6, vP e1_9_0 0), (7, vP e1_10_0 0), (8, vI 0), (9, vP w134.heap.size 0), (10, vP w158.heap.size 0), (11, vP w162.heap.size 0), (42, vI 0)] ⟨rfl, rfl, rfl, rfl, rfl, rfl, rfl, rfl, rfl, rfl, trivial⟩ ?_
          refine DR.meet rfl ?_
          intro w168 m166
          exact ⟨b'13, c'13, d'13, c2'13, w158.heap.size, w162.heap.size, rfl, (((((((r121.ext m160).ext m161).ext m162).mod m163 (nC (lG (lL (lL r120.lt m158.size) ge43)) nN)).ext m164).mod m165 (nC (lE (lL (lL r121.lt m160.size) lR)) nN)).ext m166), (((((((r122.ext m160).ext m161).ext m162).mod m163 (nC (lG (lL (lL r120.lt m158.size) ge44)) nN)).ext m164).mod m165 (nC (lE (lL (lL r122.lt m160.size) lR)) nN)).ext m166), (((r125.ext m164).mod m165 (nC (lE (lL (lL r120.lt (lT (lT m158.size m159.size) m160.size)) lR)) nN)).ext m166), (r127.ext m166), (lT (lT (lT (lT md2.size m156.size) m157.size) m158.size) ge43), (lT (lT (lT (lT md2.size m156.size) m157.size) m158.size) ge44), (lT (lT md2.size m156.size) lR), (lT (lT (lT (lT (lT (lT md2.size m156.size) m157.size) m158.size) m159.size) m160.size) lR), ne34, (lG (lL (lL r120.lt m158.size) ge43)), (lE (lL (lL r121.lt m160.size) lR)), (lG (lL (lL r120.lt m158.size) ge44)), (lE (lL (lL r122.lt m160.size) lR)), (lE (lL (lL r120.lt (lT (lT m158.size m159.size) m160.size)) lR)), h37, h38, h39, (((((((((((((Mod.refl [] w136).nt md2).nt m156).nt m157).nt m158).nt m159).nt m160).nt m161).nt m162).then m163 ((aC (.inr (lT (lT md2.size m156.size) lR)) aN))).nt m164).then m165 ((aC (.inr (lT (lT (lT (lT (lT (lT md2.size m156.size) m157.size) m158.size) m159.size) m160.size) lR)) aN))).nt m166)⟩
        · refine DP.op (i := 9) rfl rfl (.free rfl) rfl (ltb rfl) ?_
          intro w169 m167
          refine Op1.mono (op_alloc (cs := fl (List.replicate 16 0)) Try.zeroValue82 rfl) ?_
          rintro _ w170 ⟨rfl, r128, m168, z59⟩
          refine ⟨(((((Mod.refl [] w137).nt m156).nt m157).nt m167).nt m168), ?_⟩
          refine DR.one (i := 3) rfl rfl (by kernel_rfl) (.free rfl) rfl (ltb rfl) (vs := [.func (.func 53) #[] #[], .agg #[vS bNr'6 0 nNr nNr, vI ((i : Nat) : Int), vS bBr'6 0 nBr nBr, vI ((h : Nat) : Int), vI Dk, vF Dc0, vF Dc1, vF Dc2, vF Ds0, vF Ds1, vF sl, vF lo], .agg (fl bs).toArray]) rfl ?_
          intro w171 m169
          refine ⟨oc_call (vs := [.agg #[vS bNr'6 0 nNr nNr, vI ((i : Nat) : Int), vS bBr'6 0 nBr nBr, vI ((h : Nat) : Int), vI Dk, vF Dc0, vF Dc1, vF Dc2, vF Ds0, vF Ds1, vF sl, vF lo], .agg (fl bs).toArray]) (cap := []) rfl rfl rfl Try.call53 (c_iBlockBow nNr nNr bNr'6 xNr nBr nBr bBr'6 xBr i h Dk Dc0 Dc1 Dc2 Ds0 Ds1 sl lo bs z ou lnNr lnBr (by omega) (by omega) (by omega) (by omega) (by first | assumption | exact W32.set (by assumption) (by first | assumption | exact wid_lt (by assumption)) | exact W32.zeros _ | exact W32.nil) (by first | assumption | exact W32.set (by assumption) (by first | assumption | exact wid_lt (by assumption)) | exact W32.zeros _ | exact W32.nil) (by first | assumption | exact W32.get (by assumption) _ | decide +kernel) (by first | assumption | exact W32.get (by assumption) _ | decide +kernel) lb (by first | assumption | exact W32.set (by assumption) (by first | assumption | exact wid_lt (by assumption)) | exact W32.zeros _ | exact W32.nil) (by assumption) (by assumption) (by assumption) w171 ((((((((r101.ext m134).mod m135 (nC (lE (lL r101.lt lR)) nN)).ext md2).ext m156).ext m157).ext m167).ext m168).ext m169).rng ((((((((r102.ext m134).mod m135 (nC (lE (lL r102.lt lR)) nN)).ext md2).ext m156).ext m157).ext m167).ext m168).ext m169).rng), ?_⟩
          rintro _ w172 ⟨b'14, c'14, d'14, c2'14, rfl, h40, h41, h42, r129, r130, ge45, ge46, ne35, m170⟩
          refine ⟨(((((((Mod.refl [] w137).nt m156).nt m157).nt m167).nt m168).nt m169).nt m170), ?_⟩
          refine DR.det (i := 4) rfl rfl (by kernel_rfl) (.free rfl) rfl rfl (fun wD mD => op_move rfl) ?_
          refine DR.det (i := 5) rfl rfl (by kernel_rfl) (.free rfl) rfl rfl (fun wD mD => op_extract rfl rfl) ?_
          refine DR.det (i := 6) rfl rfl (by kernel_rfl) (.free rfl) rfl rfl (fun wD mD => op_extract rfl rfl) ?_
          refine DR.det (i := 7) rfl rfl (by kernel_rfl) (.free rfl) rfl rfl (fun wD mD => op_extract rfl rfl) ?_
          refine DR.st1 (i := 10) rfl rfl (by kernel_rfl) (.free rfl) rfl ?_
          intro w173 m171
          refine Op1.mono (op_store (i := 0) (cs := [vS b'14 0 nNr c'14, vI ((z.i : Nat) : Int), vS d'14 0 nBr c2'14, vI ((z.h : Nat) : Int), vI Dk, vF Dc0, vF Dc1, vF Dc2, vF z.s0, vF z.s1, vF sl, vF lo]) rfl rfl rfl Try.sizeOf36 rfl (((((r120.ext m167).ext m168).ext m169).ext m170).ext m171) rfl (lB rfl) rfl) ?_
          rintro _ w174 ⟨r131, m172, z60⟩
          have r132 : Row w174 w158.heap.size 0 [vS b'14 0 nNr c'14, vI ((z.i : Nat) : Int), vS d'14 0 nBr c2'14, vI ((z.h : Nat) : Int), vI Dk, vF Dc0, vF Dc1, vF Dc2, vF z.s0, vF z.s1, vF sl, vF lo] := Row.congr r131 rfl
          refine ⟨(((((((((Mod.refl [] w137).nt m156).nt m157).nt m167).nt m168).nt m169).nt m170).nt m171).then m172 ((aC (.inr (lT m156.size lR)) aN))), ?_⟩
          refine DR.st1 (i := 11) rfl rfl (by kernel_rfl) (.free rfl) rfl ?_
          intro w175 m173
          refine Op1.mono (op_store (i := 0) (cs := fl ou) rfl rfl rfl Try.sizeOf82 (fl_len h42) (((((r128.ext m169).ext m170).ext m171).mod m172 (nC (lG (lL (lL r120.lt m167.size) lR)) nN)).ext m173) rfl (by rw [fl_length, List.length_replicate]; decide) (fl_one _)) ?_
          rintro _ w176 ⟨r133, m174, z61⟩
          have r134 : Row w176 w169.heap.size 0 (fl ou) := Row.congr r133 (splice_all ((fl_len (List.length_replicate)).trans (fl_len (h42)).symm))
          refine ⟨(((((((((((Mod.refl [] w137).nt m156).nt m157).nt m167).nt m168).nt m169).nt m170).nt m171).then m172 ((aC (.inr (lT m156.size lR)) aN))).nt m173).then m174 ((aC (.inr (lT (lT (lT m156.size m157.size) m167.size) lR)) aN))), ?_⟩
          refine DR.sub [(2, vP w.heap.size 0), (3, vP w1.heap.size 0), (4, .bool false), (6, vP e1_9_0 0), (7, vP e1_10_0 0), (8, vI 0), (9, vP w134.heap.size 0), (10, vP w158.heap.size 0), (11, vP w169.heap.size 0), (42, vI 0)] ⟨rfl, rfl, rfl, rfl, rfl, rfl, rfl, rfl, rfl, rfl, trivial⟩ ?_
          refine DR.meet rfl ?_
          intro w177 m175
          exact ⟨b'14, c'14, d'14, c2'14, w158.heap.size, w169.heap.size, rfl, (((((r129.ext m171).mod m172 (nC (lG (lL (lL r120.lt (lT (lT m167.size m168.size) m169.size)) ge45)) nN)).ext m173).mod m174 (nC (lG (lL (lL r128.lt m169.size) ge45)) nN)).ext m175), (((((r130.ext m171).mod m172 (nC (lG (lL (lL r120.lt (lT (lT m167.size m168.size) m169.size)) ge46)) nN)).ext m173).mod m174 (nC (lG (lL (lL r128.lt m169.size) ge46)) nN)).ext m175), (((r132.ext m173).mod m174 (nC (lE (lL (lL r120.lt m167.size) lR)) nN)).ext m175), (r134.ext m175), (lT (lT (lT (lT (lT (lT md2.size m156.size) m157.size) m167.size) m168.size) m169.size) ge45), (lT (lT (lT (lT (lT (lT md2.size m156.size) m157.size) m167.size) m168.size) m169.size) ge46), (lT (lT md2.size m156.size) lR), (lT (lT (lT (lT md2.size m156.size) m157.size) m167.size) lR), ne35, (lG (lL (lL r120.lt (lT (lT m167.size m168.size) m169.size)) ge45)), (lG (lL (lL r128.lt m169.size) ge45)), (lG (lL (lL r120.lt (lT (lT m167.size m168.size) m169.size)) ge46)), (lG (lL (lL r128.lt m169.size) ge46)), (lE (lL (lL r120.lt m167.size) lR)), h40, h41, h42, (((((((((((((Mod.refl [] w136).nt md2).nt m156).nt m157).nt m167).nt m168).nt m169).nt m170).nt m171).then m172 ((aC (.inr (lT (lT md2.size m156.size) lR)) aN))).nt m173).then m174 ((aC (.inr (lT (lT (lT (lT md2.size m156.size) m157.size) m167.size) lR)) aN))).nt m175)⟩
      · refine DP.op (i := 9) rfl rfl (.free rfl) rfl (ltb rfl) ?_
        intro w178 m176
        refine Op1.mono (op_alloc (cs := fl (List.replicate 16 0)) Try.zeroValue82 rfl) ?_
        rintro _ w179 ⟨rfl, r135, m177, z62⟩
        refine ⟨(((Mod.refl [] w137).nt m176).nt m177), ?_⟩
        refine DR.fork (is := [3, 8]) (by kernel_rfl) (by decide) (all2 ?_ ?_)
        · refine DP.call (i := 3) rfl rfl (.free rfl) rfl (ltb rfl) (vs := [.func (.func 53) #[] #[], .agg #[vS bNr'6 0 nNr nNr, vI ((i : Nat) : Int), vS bBr'6 0 nBr nBr, vI ((h : Nat) : Int), vI Dk, vF Dc0, vF Dc1, vF Dc2, vF Ds0, vF Ds1, vF sl, vF lo], .agg (fl bs).toArray]) rfl ?_
          intro w180 m178
          refine ⟨oc_call (vs := [.agg #[vS bNr'6 0 nNr nNr, vI ((i : Nat) : Int), vS bBr'6 0 nBr nBr, vI ((h : Nat) : Int), vI Dk, vF Dc0, vF Dc1, vF Dc2, vF Ds0, vF Ds1, vF sl, vF lo], .agg (fl bs).toArray]) (cap := []) rfl rfl rfl Try.call53 (c_iBlockBow nNr nNr bNr'6 xNr nBr nBr bBr'6 xBr i h Dk Dc0 Dc1 Dc2 Ds0 Ds1 sl lo bs z ou lnNr lnBr (by omega) (by omega) (by omega) (by omega) (by first | assumption | exact W32.set (by assumption) (by first | assumption | exact wid_lt (by assumption)) | exact W32.zeros _ | exact W32.nil) (by first | assumption | exact W32.set (by assumption) (by first | assumption | exact wid_lt (by assumption)) | exact W32.zeros _ | exact W32.nil) (by first | assumption | exact W32.get (by assumption) _ | decide +kernel) (by first | assumption | exact W32.get (by assumption) _ | decide +kernel) lb (by first | assumption | exact W32.set (by assumption) (by first | assumption | exact wid_lt (by assumption)) | exact W32.zeros _ | exact W32.nil) (by assumption) (by assumption) (by assumption) w180 ((((((r101.ext m134).mod m135 (nC (lE (lL r101.lt lR)) nN)).ext md2).ext m176).ext m177).ext m178).rng ((((((r102.ext m134).mod m135 (nC (lE (lL r102.lt lR)) nN)).ext md2).ext m176).ext m177).ext m178).rng), ?_⟩
          rintro _ w181 ⟨b'15, c'15, d'15, c2'15, rfl, h43, h44, h45, r136, r137, ge47, ge48, ne36, m179⟩
          refine ⟨(((((Mod.refl [] w137).nt m176).nt m177).nt m178).nt m179), ?_⟩
          refine DR.det (i := 4) rfl rfl (by kernel_rfl) (.free rfl) rfl rfl (fun wD mD => op_move rfl) ?_
          refine DR.det (i := 5) rfl rfl (by kernel_rfl) (.free rfl) rfl rfl (fun wD mD => op_extract rfl rfl) ?_
          refine DR.det (i := 6) rfl rfl (by kernel_rfl) (.free rfl) rfl rfl (fun wD mD => op_extract rfl rfl) ?_
          refine DR.det (i := 7) rfl rfl (by kernel_rfl) (.free rfl) rfl rfl (fun wD mD => op_extract rfl rfl) ?_
          refine DR.one1 (i := 8) rfl rfl (by kernel_rfl) (.free rfl) rfl (ltb rfl) ?_
          intro w182 m180
          refine Op1.mono (op_alloc (cs := [.slice none 0 0, vI 0, .slice none 0 0, vI 0, vI 0, vF 0, vF 0, vF 0, vF 0, vF 0, vF 0, vF 0]) Try.zeroValue36 rfl) ?_
          rintro _ w183 ⟨rfl, r138, m181, z63⟩
          refine ⟨(((((((Mod.refl [] w137).nt m176).nt m177).nt m178).nt m179).nt m180).nt m181), ?_⟩
          refine DR.st1 (i := 10) rfl rfl (by kernel_rfl) (.free rfl) rfl ?_
          intro w184 m182
          refine Op1.mono (op_store (i := 0) (cs := [vS b'15 0 nNr c'15, vI ((z.i : Nat) : Int), vS d'15 0 nBr c2'15, vI ((z.h : Nat) : Int), vI Dk, vF Dc0, vF Dc1, vF Dc2, vF z.s0, vF z.s1, vF sl, vF lo]) rfl rfl rfl Try.sizeOf36 rfl (r138.ext m182) rfl (lB rfl) rfl) ?_
          rintro _ w185 ⟨r139, m183, z64⟩
          have r140 : Row w185 w182.heap.size 0 [vS b'15 0 nNr c'15, vI ((z.i : Nat) : Int), vS d'15 0 nBr c2'15, vI ((z.h : Nat) : Int), vI Dk, vF Dc0, vF Dc1, vF Dc2, vF z.s0, vF z.s1, vF sl, vF lo] := Row.congr r139 rfl
          refine ⟨(((((((((Mod.refl [] w137).nt m176).nt m177).nt m178).nt m179).nt m180).nt m181).nt m182).then m183 ((aC (.inr (lT (lT (lT (lT (lT m176.size m177.size) m178.size) m179.size) m180.size) lR)) aN))), ?_⟩
          refine DR.st1 (i := 11) rfl rfl (by kernel_rfl) (.free rfl) rfl ?_
          intro w186 m184
          refine Op1.mono (op_store (i := 0) (cs := fl ou) rfl rfl rfl Try.sizeOf82 (fl_len h45) (((((((r135.ext m178).ext m179).ext m180).ext m181).ext m182).mod m183 (nC (lE (lL (lL r135.lt (lT (lT m178.size m179.size) m180.size)) lR)) nN)).ext m184) rfl (by rw [fl_length, List.length_replicate]; decide) (fl_one _)) ?_
          rintro _ w187 ⟨r141, m185, z65⟩
          have r142 : Row w187 w178.heap.size 0 (fl ou) := Row.congr r141 (splice_all ((fl_len (List.length_replicate)).trans (fl_len (h45)).symm))
          refine ⟨(((((((((((Mod.refl [] w137).nt m176).nt m177).nt m178).nt m179).nt m180).nt m181).nt m182).then m183 ((aC (.inr (lT (lT (lT (lT (lT m176.size m177.size) m178.size) m179.size) m180.size) lR)) aN))).nt m184).then m185 ((aC (.inr (lT m176.size lR)) aN))), ?_⟩
          refine DR.sub [(2, vP w.heap.size 0), (3, vP w1.heap.size 0), (4, .bool false), (6, vP e1_9_0 0), (7, vP e1_10_0 0), (8, vI 0), (9, vP w134.heap.size 0), (10, vP w182.heap.size 0), (11, vP w178.heap.size 0), (42, vI 0)] ⟨rfl, rfl, rfl, rfl, rfl, rfl, rfl, rfl, rfl, rfl, trivial⟩ ?_
          refine DR.meet rfl ?_
          intro w188 m186
          exact ⟨b'15, c'15, d'15, c2'15, w182.heap.size, w178.heap.size, rfl, (((((((r136.ext m180).ext m181).ext m182).mod m183 (nC (lE (lL (lL r136.lt m180.size) lR)) nN)).ext m184).mod m185 (nC (lG (lL (lL r135.lt m178.size) ge47)) nN)).ext m186), (((((((r137.ext m180).ext m181).ext m182).mod m183 (nC (lE (lL (lL r137.lt m180.size) lR)) nN)).ext m184).mod m185 (nC (lG (lL (lL r135.lt m178.size) ge48)) nN)).ext m186), (((r140.ext m184).mod m185 (nC (lG (lL (lL r135.lt (lT (lT m178.size m179.size) m180.size)) lR)) nN)).ext m186), (r142.ext m186), (lT (lT (lT (lT md2.size m176.size) m177.size) m178.size) ge47), (lT (lT (lT (lT md2.size m176.size) m177.size) m178.size) ge48), (lT (lT (lT (lT (lT (lT md2.size m176.size) m177.size) m178.size) m179.size) m180.size) lR), (lT (lT md2.size m176.size) lR), ne36, (lE (lL (lL r136.lt m180.size) lR)), (lG (lL (lL r135.lt m178.size) ge47)), (lE (lL (lL r137.lt m180.size) lR)), (lG (lL (lL r135.lt m178.size) ge48)), (lG (lL (lL r135.lt (lT (lT m178.size m179.size) m180.size)) lR)), h43, h44, h45, (((((((((((((Mod.refl [] w136).nt md2).nt m176).nt m177).nt m178).nt m179).nt m180).nt m181).nt m182).then m183 ((aC (.inr (lT (lT (lT (lT (lT (lT md2.size m176.size) m177.size) m178.size) m179.size) m180.size) lR)) aN))).nt m184).then m185 ((aC (.inr (lT (lT md2.size m176.size) lR)) aN))).nt m186)⟩
        · refine DP.op (i := 8) rfl rfl (.free rfl) rfl (ltb rfl) ?_
          intro w189 m187
          refine Op1.mono (op_alloc (cs := [.slice none 0 0, vI 0, .slice none 0 0, vI 0, vI 0, vF 0, vF 0, vF 0, vF 0, vF 0, vF 0, vF 0]) Try.zeroValue36 rfl) ?_
          rintro _ w190 ⟨rfl, r143, m188, z66⟩
          refine ⟨(((((Mod.refl [] w137).nt m176).nt m177).nt m187).nt m188), ?_⟩
          refine DR.one (i := 3) rfl rfl (by kernel_rfl) (.free rfl) rfl (ltb rfl) (vs := [.func (.func 53) #[] #[], .agg #[vS bNr'6 0 nNr nNr, vI ((i : Nat) : Int), vS bBr'6 0 nBr nBr, vI ((h : Nat) : Int), vI Dk, vF Dc0, vF Dc1, vF Dc2, vF Ds0, vF Ds1, vF sl, vF lo], .agg (fl bs).toArray]) rfl ?_
          intro w191 m189
          refine ⟨oc_call (vs := [.agg #[vS bNr'6 0 nNr nNr, vI ((i : Nat) : Int), vS bBr'6 0 nBr nBr, vI ((h : Nat) : Int), vI Dk, vF Dc0, vF Dc1, vF Dc2, vF Ds0, vF Ds1, vF sl, vF lo], .agg (fl bs).toArray]) (cap := []) rfl rfl rfl Try.call53 (c_iBlockBow nNr nNr bNr'6 xNr nBr nBr bBr'6 xBr i h Dk Dc0 Dc1 Dc2 Ds0 Ds1 sl lo bs z ou lnNr lnBr (by omega) (by omega) (by omega) (by omega) (by first | assumption | exact W32.set (by assumption) (by first | assumption | exact wid_lt (by assumption)) | exact W32.zeros _ | exact W32.nil) (by first | assumption | exact W32.set (by assumption) (by first | assumption | exact wid_lt (by assumption)) | exact W32.zeros _ | exact W32.nil) (by first | assumption | exact W32.get (by assumption) _ | decide +kernel) (by first | assumption | exact W32.get (by assumption) _ | decide +kernel) lb (by first | assumption | exact W32.set (by assumption) (by first | assumption | exact wid_lt (by assumption)) | exact W32.zeros _ | exact W32.nil) (by assumption) (by assumption) (by assumption) w191 ((((((((r101.ext m134).mod m135 (nC (lE (lL r101.lt lR)) nN)).ext md2).ext m176).ext m177).ext m187).ext m188).ext m189).rng ((((((((r102.ext m134).mod m135 (nC (lE (lL r102.lt lR)) nN)).ext md2).ext m176).ext m177).ext m187).ext m188).ext m189).rng), ?_⟩
          rintro _ w192 ⟨b'16, c'16, d'16, c2'16, rfl, h46, h47, h48, r144, r145, ge49, ge50, ne37, m190⟩
          refine ⟨(((((((Mod.refl [] w137).nt m176).nt m177).nt m187).nt m188).nt m189).nt m190), ?_⟩
          refine DR.det (i := 4) rfl rfl (by kernel_rfl) (.free rfl) rfl rfl (fun wD mD => op_move rfl) ?_
          refine DR.det (i := 5) rfl rfl (by kernel_rfl) (.free rfl) rfl rfl (fun wD mD => op_extract rfl rfl) ?_
          refine DR.det (i := 6) rfl rfl (by kernel_rfl) (.free rfl) rfl rfl (fun wD mD => op_extract rfl rfl) ?_
          refine DR.det (i := 7) rfl rfl (by kernel_rfl) (.free rfl) rfl rfl (fun wD mD => op_extract rfl rfl) ?_
          refine DR.st1 (i := 10) rfl rfl (by kernel_rfl) (.free rfl) rfl ?_
          intro w193 m191
          refine Op1.mono (op_store (i := 0) (cs := [vS b'16 0 nNr c'16, vI ((z.i : Nat) : Int), vS d'16 0 nBr c2'16, vI ((z.h : Nat) : Int), vI Dk, vF Dc0, vF Dc1, vF Dc2, vF z.s0, vF z.s1, vF sl, vF lo]) rfl rfl rfl Try.sizeOf36 rfl (((r143.ext m189).ext m190).ext m191) rfl (lB rfl) rfl) ?_
          rintro _ w194 ⟨r146, m192, z67⟩
          have r147 : Row w194 w189.heap.size 0 [vS b'16 0 nNr c'16, vI ((z.i : Nat) : Int), vS d'16 0 nBr c2'16, vI ((z.h : Nat) : Int), vI Dk, vF Dc0, vF Dc1, vF Dc2, vF z.s0, vF z.s1, vF sl, vF lo] := Row.congr r146 rfl
          refine ⟨(((((((((Mod.refl [] w137).nt m176).nt m177).nt m187).nt m188).nt m189).nt m190).nt m191).then m192 ((aC (.inr (lT (lT (lT m176.size m177.size) m187.size) lR)) aN))), ?_⟩
          refine DR.st1 (i := 11) rfl rfl (by kernel_rfl) (.free rfl) rfl ?_
          intro w195 m193
          refine Op1.mono (op_store (i := 0) (cs := fl ou) rfl rfl rfl Try.sizeOf82 (fl_len h48) (((((((r135.ext m187).ext m188).ext m189).ext m190).ext m191).mod m192 (nC (lE (lL (lL r135.lt m187.size) lR)) nN)).ext m193) rfl (by rw [fl_length, List.length_replicate]; decide) (fl_one _)) ?_
          rintro _ w196 ⟨r148, m194, z68⟩
          have r149 : Row w196 w178.heap.size 0 (fl ou) := Row.congr r148 (splice_all ((fl_len (List.length_replicate)).trans (fl_len (h48)).symm))
          refine ⟨(((((((((((Mod.refl [] w137).nt m176).nt m177).nt m187).nt m188).nt m189).nt m190).nt m191).then m192 ((aC (.inr (lT (lT (lT m176.size m177.size) m187.size) lR)) aN))).nt m193).then m194 ((aC (.inr (lT m176.size lR)) aN))), ?_⟩
          refine DR.sub [(2, vP w.heap.size 0), (3, vP w1.heap.size 0), (4, .bool false), (6, vP e1_9_0 0), (7, vP e1_10_0 0), (8, vI 0), (9, vP w134.heap.size 0), (10, vP w189.heap.size 0), (11, vP w178.heap.size 0), (42, vI 0)] ⟨rfl, rfl, rfl, rfl, rfl, rfl, rfl, rfl, rfl, rfl, trivial⟩ ?_
          refine DR.meet rfl ?_
          intro w197 m195
          exact ⟨b'16, c'16, d'16, c2'16, w189.heap.size, w178.heap.size, rfl, (((((r144.ext m191).mod m192 (nC (lG (lL (lL r143.lt m189.size) ge49)) nN)).ext m193).mod m194 (nC (lG (lL (lL r135.lt (lT (lT m187.size m188.size) m189.size)) ge49)) nN)).ext m195), (((((r145.ext m191).mod m192 (nC (lG (lL (lL r143.lt m189.size) ge50)) nN)).ext m193).mod m194 (nC (lG (lL (lL r135.lt (lT (lT m187.size m188.size) m189.size)) ge50)) nN)).ext m195), (((r147.ext m193).mod m194 (nC (lG (lL (lL r135.lt m187.size) lR)) nN)).ext m195), (r149.ext m195), (lT (lT (lT (lT (lT (lT md2.size m176.size) m177.size) m187.size) m188.size) m189.size) ge49), (lT (lT (lT (lT (lT (lT md2.size m176.size) m177.size) m187.size) m188.size) m189.size) ge50), (lT (lT (lT (lT md2.size m176.size) m177.size) m187.size) lR), (lT (lT md2.size m176.size) lR), ne37, (lG (lL (lL r143.lt m189.size) ge49)), (lG (lL (lL r135.lt (lT (lT m187.size m188.size) m189.size)) ge49)), (lG (lL (lL r143.lt m189.size) ge50)), (lG (lL (lL r135.lt (lT (lT m187.size m188.size) m189.size)) ge50)), (lG (lL (lL r135.lt m187.size) lR)), h46, h47, h48, (((((((((((((Mod.refl [] w136).nt md2).nt m176).nt m177).nt m187).nt m188).nt m189).nt m190).nt m191).then m192 ((aC (.inr (lT (lT (lT (lT md2.size m176.size) m177.size) m187.size) lR)) aN))).nt m193).then m194 ((aC (.inr (lT (lT md2.size m176.size) lR)) aN))).nt m195)⟩
    · rintro _ w198 ⟨e2_3_0, e2_3_1, e2_3_2, e2_3_3, e2_8_0, e2_9_0, rfl, rr2_0, rr2_1, rr2_2, rr2_3, ge51, ge52, ge53, ge54, ne38, ne39, ne40, ne41, ne42, ne43, hp2_3_0, hp2_3_1, hp2_3_2, m196⟩
      refine WO.det (op_assign rfl) rfl (.free rfl) rfl rfl ?_
      refine WO.end ?_
      refine NE.code ?_
      refine CE.seq ?_
      refine CE.seq ?_
      refine CE.region ?_
      refine WL.det (op_loadA (i := 0) (cs := [vS e2_3_0 0 nNr e2_3_1, vI ((z.i : Nat) : Int), vS e2_3_2 0 nBr e2_3_3, vI ((z.h : Nat) : Int), vI Dk, vF Dc0, vF Dc1, vF Dc2, vF z.s0, vF z.s1, vF sl, vF lo]) rfl Try.isAgg36 Try.sizeOf36 rr2_2.rng rfl rfl rfl) rfl rfl rfl ?_
      refine WL.det (op_loadA (i := 0) (cs := [vS e1_4_0 0 nNr e1_4_1, vI ((z.i : Nat) : Int), vS e1_4_2 0 nBr e1_4_3, vI ((z.h : Nat) : Int), vI Dk, vF Dc0, vF Dc1, vF Dc2, vF z.s0, vF z.s1, vF sl, vF lo]) rfl Try.isAgg36 Try.sizeOf36 ((((rr1_4.ext m133).ext m134).mod m135 (nC (lE (lL (lL rr1_4.lt m133.size) lR)) nN)).ext m196).rng rfl rfl rfl) rfl rfl rfl ?_
      refine WL.call (oc_call (vs := [.agg #[vS e2_3_0 0 nNr e2_3_1, vI ((z.i : Nat) : Int), vS e2_3_2 0 nBr e2_3_3, vI ((z.h : Nat) : Int), vI Dk, vF Dc0, vF Dc1, vF Dc2, vF z.s0, vF z.s1, vF sl, vF lo], .agg #[vS e1_4_0 0 nNr e1_4_1, vI ((z.i : Nat) : Int), vS e1_4_2 0 nBr e1_4_3, vI ((z.h : Nat) : Int), vI Dk, vF Dc0, vF Dc1, vF Dc2, vF z.s0, vF z.s1, vF sl, vF lo]]) (cap := []) rfl rfl rfl Try.call16 (c_eqBow nNr e2_3_1 (some ⟨e2_3_0, 0, none⟩) e2_3_0 0 z.xs ((z.i : Nat) : Int) nBr e2_3_3 (some ⟨e2_3_2, 0, none⟩) e2_3_2 0 z.ys ((z.h : Nat) : Int) Dk Dc0 Dc0 Dc1 Dc1 Dc2 Dc2 z.s0 z.s0 z.s1 z.s1 sl sl lo lo e1_4_1 (some ⟨e1_4_0, 0, none⟩) e1_4_0 0 e1_4_3 (some ⟨e1_4_2, 0, none⟩) e1_4_2 0 Dc0 Dc1 Dc2 z.s0 z.s1 sl lo hp1_4_0 (fun _ => rfl) hp1_4_1 (fun _ => rfl) (fun _ => rfl) (fun _ => rfl) rfl rfl rfl rfl rfl rfl rfl rfl rfl rfl rfl rfl rfl rfl (by omega) (by omega) w198 rr2_0.rng rr2_1.rng ((((rr1_2.ext m133).ext m134).mod m135 (nC (lE (lL (lL rr1_2.lt m133.size) lR)) nN)).ext m196).rng ((((rr1_3.ext m133).ext m134).mod m135 (nC (lE (lL (lL rr1_3.lt m133.size) lR)) nN)).ext m196).rng)) rfl rfl (ltb rfl) ?_
      rintro _ w199 ⟨rfl, m197⟩
      refine WL.det (op_not rfl) rfl rfl rfl ?_
      refine WL.det (op_move rfl) rfl rfl rfl ?_
      refine WL.yes rfl rfl rfl (ltb rfl) rfl rfl ?_
      refine WL.det (op_loadA (i := 0) (cs := fl ou) rfl Try.isAgg82 Try.sizeOf82 (rr2_3.ext m197).rng rfl (fl_whole hp2_3_2) (fl_len hp2_3_2)) rfl rfl rfl ?_
      refine WL.yes rfl rfl rfl (ltb rfl) rfl rfl ?_
      refine WL.det (op_loadA (i := 0) (cs := fl ou) rfl Try.isAgg82 Try.sizeOf82 (((((rr1_5.ext m133).ext m134).mod m135 (nC (lE (lL (lL rr1_5.lt m133.size) lR)) nN)).ext m196).ext m197).rng rfl (fl_whole hp1_4_2) (fl_len hp1_4_2)) rfl rfl rfl ?_
      refine WL.yes rfl rfl rfl (ltb rfl) rfl rfl ?_
      refine WL.call (oc_call (vs := [.agg (fl ou).toArray, .agg (fl ou).toArray]) (cap := []) rfl rfl rfl Try.call51 (c_eqBlock_same ou hp1_4_2 w199)) rfl rfl (ltb rfl) ?_
      rintro _ w200 ⟨rfl, m198⟩
      refine WL.yes rfl rfl rfl (ltb rfl) rfl rfl ?_
      refine WL.det (op_not rfl) rfl rfl rfl ?_
      refine WL.det (op_pick_f rfl rfl rfl) rfl rfl rfl ?_
      refine WL.det (op_move rfl) rfl rfl rfl ?_
      refine WL.yes rfl rfl rfl (ltb rfl) rfl rfl ?_
      refine WL.det (op_move rfl) rfl rfl rfl ?_
      refine WL.yes rfl rfl rfl (ltb rfl) rfl rfl ?_
      refine WL.det (op_move rfl) rfl rfl rfl ?_
      refine WL.yes rfl rfl rfl (ltb rfl) rfl rfl ?_
      refine WL.det (op_nei rfl rfl) rfl rfl rfl ?_
      refine WL.det (op_pick_f rfl rfl rfl) rfl rfl rfl ?_
      refine WL.end ?_
      refine NE.code ?_
      refine CE.cond_f rfl rfl ?_
      refine CE.skip' ?_
      refine NE.code ?_
      refine CE.seq ?_
      refine CE.seq ?_
      refine CE.draw (fun | 2 => some (fun _ wA uA wB => ∃ (bNr' : Nat) (bBr' : Nat), uA = .agg #[vS bNr' 0 nNr nNr, vI ((i : Nat) : Int), vS bBr' 0 nBr nBr, vI ((h : Nat) : Int), vI Dk, vF Dc0, vF Dc1, vF Dc2, vF Ds0, vF Ds1, vF sl, vF lo] ∧ Row wB bNr' 0 (fl xNr) ∧ Row wB bBr' 0 (fl xBr) ∧ wA.heap.size ≤ bNr' ∧ wA.heap.size ≤ bBr' ∧ bNr' ≠ bBr' ∧ Mod [] wA wB) | _ => none) [0, 1, 2] [3, 4] [] (by kernel_rfl) (by kernel_rfl) ?_
      have md3 : Mod [] w200 w200.drew := (Mod.refl _ _).drew
      generalize w200.drew = w201 at md3 ⊢
      refine DR.det (i := 0) rfl rfl (by kernel_rfl) (.free rfl) rfl rfl (fun wD mD => op_loadA (i := 0) (cs := [vS bNr'6 0 nNr nNr, vI ((i : Nat) : Int), vS bBr'6 0 nBr nBr, vI ((h : Nat) : Int), vI Dk, vF Dc0, vF Dc1, vF Dc2, vF Ds0, vF Ds1, vF sl, vF lo]) rfl Try.isAgg36 Try.sizeOf36 (((((r105.ext m196).ext m197).ext m198).ext md3).ext mD).rng rfl rfl rfl) ?_
      refine DR.det (i := 1) rfl rfl (by kernel_rfl) (.free rfl) rfl rfl (fun wD mD => op_loadA (i := 0) (cs := [.slice ANr nNr cNr, vI ((i : Nat) : Int), .slice ABr nBr cBr, vI ((h : Nat) : Int), vI Dk, vF Dc0, vF Dc1, vF Dc2, vF Ds0, vF Ds1, vF sl, vF lo]) rfl Try.isAgg31 Try.sizeOf31 (((((((((((r1.ext m2).ext m3).ext m132).ext m133).ext m134).mod m135 (nC (lE (lL (lL r1.lt (lT (lT (lT m2.size m3.size) m132.size) m133.size)) lR)) nN)).ext m196).ext m197).ext m198).ext md3).ext mD).rng rfl rfl rfl) ?_
      refine DR.one (i := 2) rfl rfl (by kernel_rfl) (.free rfl) rfl (ltb rfl) (vs := [.func (.func 14) #[] #[], .agg #[.slice ANr nNr cNr, vI ((i : Nat) : Int), .slice ABr nBr cBr, vI ((h : Nat) : Int), vI Dk, vF Dc0, vF Dc1, vF Dc2, vF Ds0, vF Ds1, vF sl, vF lo]]) rfl ?_
      intro w202 m199
      refine ⟨oc_call (vs := [.agg #[.slice ANr nNr cNr, vI ((i : Nat) : Int), .slice ABr nBr cBr, vI ((h : Nat) : Int), vI Dk, vF Dc0, vF Dc1, vF Dc2, vF Ds0, vF Ds1, vF sl, vF lo]]) (cap := []) rfl rfl rfl Try.call14 (c_toBow nNr cNr ANr bNr oNr xNr ((i : Nat) : Int) nBr cBr ABr bBr oBr xBr ((h : Nat) : Int) Dk Dc0 Dc1 Dc2 Ds0 Ds1 sl lo lnNr hANr lnBr hABr (by omega) (by omega) w202 ((((((Rng.youngS rNr ((((((rNr.ext m1).ext m2).ext m3).ext m132).ext m133).ext m134) m135 (allge_cons (lT (lT (lT (lT (lT m1.size m2.size) m3.size) m132.size) m133.size) lR) allge_nil)).ext m196).ext m197).ext m198).ext md3).ext m199) ((((((Rng.youngS rBr ((((((rBr.ext m1).ext m2).ext m3).ext m132).ext m133).ext m134) m135 (allge_cons (lT (lT (lT (lT (lT m1.size m2.size) m3.size) m132.size) m133.size) lR) allge_nil)).ext m196).ext m197).ext m198).ext md3).ext m199)), ?_⟩
      rintro _ w203 ⟨bNr'7, bBr'7, rfl, r150, r151, ge55, ge56, ne44, m200⟩
      refine ⟨(((Mod.refl [] w201).nt m199).nt m200), ?_⟩
      refine DR.done rfl ?_
      intro w204 m201
      refine WO.call rfl (.free rfl) rfl (ltb rfl) (oc_call (vs := [.agg #[vS bNr'6 0 nNr nNr, vI ((i : Nat) : Int), vS bBr'6 0 nBr nBr, vI ((h : Nat) : Int), vI Dk, vF Dc0, vF Dc1, vF Dc2, vF Ds0, vF Ds1, vF sl, vF lo], .agg #[vS bNr'7 0 nNr nNr, vI ((i : Nat) : Int), vS bBr'7 0 nBr nBr, vI ((h : Nat) : Int), vI Dk, vF Dc0, vF Dc1, vF Dc2, vF Ds0, vF Ds1, vF sl, vF lo]]) (cap := []) rfl rfl rfl Try.call16 (c_eqBow nNr nNr (some ⟨bNr'6, 0, none⟩) bNr'6 0 xNr ((i : Nat) : Int) nBr nBr (some ⟨bBr'6, 0, none⟩) bBr'6 0 xBr ((h : Nat) : Int) Dk Dc0 Dc0 Dc1 Dc1 Dc2 Dc2 Ds0 Ds0 Ds1 Ds1 sl sl lo lo nNr (some ⟨bNr'7, 0, none⟩) bNr'7 0 nBr (some ⟨bBr'7, 0, none⟩) bBr'7 0 Dc0 Dc1 Dc2 Ds0 Ds1 sl lo lnNr (fun _ => rfl) lnBr (fun _ => rfl) (fun _ => rfl) (fun _ => rfl) rfl rfl rfl rfl rfl rfl rfl rfl rfl rfl rfl rfl rfl rfl (by omega) (by omega) w204 (((((((((r101.ext m134).mod m135 (nC (lE (lL r101.lt lR)) nN)).ext m196).ext m197).ext m198).ext md3).ext m199).ext m200).ext m201).rng (((((((((r102.ext m134).mod m135 (nC (lE (lL r102.lt lR)) nN)).ext m196).ext m197).ext m198).ext md3).ext m199).ext m200).ext m201).rng (r150.ext m201).rng (r151.ext m201).rng)) ?_
      rintro _ w205 ⟨rfl, m202⟩
      refine WO.det (op_not rfl) rfl (.free rfl) rfl rfl ?_
      refine WO.end ?_
      refine NE.code ?_
      refine CE.cond_f rfl rfl ?_
      refine CE.skip' ?_
      refine NE.code ?_
      refine CE.seq ?_
      refine CE.region ?_
      refine WL.det (op_assign rfl) rfl rfl rfl ?_
      refine WL.end ?_
      refine NE.code ?_
      refine CE.seq ?_
      refine CE.region ?_
      refine WL.det (op_loadA (i := 0) (cs := [vS bNr'6 0 nNr nNr, vI ((i : Nat) : Int), vS bBr'6 0 nBr nBr, vI ((h : Nat) : Int), vI Dk, vF Dc0, vF Dc1, vF Dc2, vF Ds0, vF Ds1, vF sl, vF lo]) rfl Try.isAgg36 Try.sizeOf36 ((((((((r105.ext m196).ext m197).ext m198).ext md3).ext m199).ext m200).ext m201).ext m202).rng rfl rfl rfl) rfl rfl rfl ?_
      refine WL.det (op_move rfl) rfl rfl rfl ?_
      refine WL.call (oc_call (vs := [.agg #[vS bNr'6 0 nNr nNr, vI ((i : Nat) : Int), vS bBr'6 0 nBr nBr, vI ((h : Nat) : Int), vI Dk, vF Dc0, vF Dc1, vF Dc2, vF Ds0, vF Ds1, vF sl, vF lo], vI 1]) (cap := []) rfl rfl rfl Try.call17 (c_markBow nNr nNr bNr'6 xNr ((i : Nat) : Int) nBr nBr bBr'6 xBr ((h : Nat) : Int) Dk Dc0 Dc1 Dc2 Ds0 Ds1 sl lo 1 lnNr lnBr (by omega) (by omega) (by omega) w205 ((((((((((r101.ext m134).mod m135 (nC (lE (lL r101.lt lR)) nN)).ext m196).ext m197).ext m198).ext md3).ext m199).ext m200).ext m201).ext m202) ((((((((((r102.ext m134).mod m135 (nC (lE (lL r102.lt lR)) nN)).ext m196).ext m197).ext m198).ext md3).ext m199).ext m200).ext m201).ext m202) ne32)) rfl rfl (ltb rfl) ?_
      rintro _ w206 ⟨rfl, r152, r153, m203⟩
      refine WL.det (op_assign rfl) rfl rfl rfl ?_
      refine WL.end ?_
      refine NE.code ?_
      refine CE.seq ?_
      refine CE.seq ?_
      refine CE.region ?_
      refine WL.det (op_move rfl) rfl rfl rfl ?_
      refine WL.det (op_lti_f rfl rfl (by omega)) rfl rfl rfl ?_
      refine WL.det (op_move rfl) rfl rfl rfl ?_
      refine WL.yes rfl rfl rfl (ltb rfl) rfl rfl ?_
      refine WL.det (op_loadA (i := 0) (cs := [vS e2_3_0 0 nNr e2_3_1, vI ((z.i : Nat) : Int), vS e2_3_2 0 nBr e2_3_3, vI ((z.h : Nat) : Int), vI Dk, vF Dc0, vF Dc1, vF Dc2, vF z.s0, vF z.s1, vF sl, vF lo]) rfl Try.isAgg36 Try.sizeOf36 ((((((((rr2_2.ext m197).ext m198).ext md3).ext m199).ext m200).ext m201).ext m202).mod m203 (nC (lG (lL (lL r101.lt (lT m134.size m135.size)) ge53)) (nC (lG (lL (lL r102.lt (lT m134.size m135.size)) ge53)) nN))).rng rfl rfl rfl) rfl rfl rfl ?_
      refine WL.yes rfl rfl rfl (ltb rfl) rfl rfl ?_
      refine WL.det (op_loadA (i := 0) (cs := [vS e1_4_0 0 nNr e1_4_1, vI ((z.i : Nat) : Int), vS e1_4_2 0 nBr e1_4_3, vI ((z.h : Nat) : Int), vI Dk, vF Dc0, vF Dc1, vF Dc2, vF z.s0, vF z.s1, vF sl, vF lo]) rfl Try.isAgg36 Try.sizeOf36 ((((((((((((rr1_4.ext m133).ext m134).mod m135 (nC (lE (lL (lL rr1_4.lt m133.size) lR)) nN)).ext m196).ext m197).ext m198).ext md3).ext m199).ext m200).ext m201).ext m202).mod m203 (nC (lE (lL rr1_4.lt ge39)) (nC (lE (lL rr1_4.lt ge40)) nN))).rng rfl rfl rfl) rfl rfl rfl ?_
      refine WL.yes rfl rfl rfl (ltb rfl) rfl rfl ?_
      refine WL.call (oc_call (vs := [.agg #[vS e2_3_0 0 nNr e2_3_1, vI ((z.i : Nat) : Int), vS e2_3_2 0 nBr e2_3_3, vI ((z.h : Nat) : Int), vI Dk, vF Dc0, vF Dc1, vF Dc2, vF z.s0, vF z.s1, vF sl, vF lo], .agg #[vS e1_4_0 0 nNr e1_4_1, vI ((z.i : Nat) : Int), vS e1_4_2 0 nBr e1_4_3, vI ((z.h : Nat) : Int), vI Dk, vF Dc0, vF Dc1, vF Dc2, vF z.s0, vF z.s1, vF sl, vF lo]]) (cap := []) rfl rfl rfl Try.call16 (c_eqBow nNr e2_3_1 (some ⟨e2_3_0, 0, none⟩) e2_3_0 0 z.xs ((z.i : Nat) : Int) nBr e2_3_3 (some ⟨e2_3_2, 0, none⟩) e2_3_2 0 z.ys ((z.h : Nat) : Int) Dk Dc0 Dc0 Dc1 Dc1 Dc2 Dc2 z.s0 z.s0 z.s1 z.s1 sl sl lo lo e1_4_1 (some ⟨e1_4_0, 0, none⟩) e1_4_0 0 e1_4_3 (some ⟨e1_4_2, 0, none⟩) e1_4_2 0 Dc0 Dc1 Dc2 z.s0 z.s1 sl lo hp1_4_0 (fun _ => rfl) hp1_4_1 (fun _ => rfl) (fun _ => rfl) (fun _ => rfl) rfl rfl rfl rfl rfl rfl rfl rfl rfl rfl rfl rfl rfl rfl (by omega) (by omega) w206 ((((((((rr2_0.ext m197).ext m198).ext md3).ext m199).ext m200).ext m201).ext m202).mod m203 (nC (lG (lL (lL r101.lt (lT m134.size m135.size)) ge51)) (nC (lG (lL (lL r102.lt (lT m134.size m135.size)) ge51)) nN))).rng ((((((((rr2_1.ext m197).ext m198).ext md3).ext m199).ext m200).ext m201).ext m202).mod m203 (nC (lG (lL (lL r101.lt (lT m134.size m135.size)) ge52)) (nC (lG (lL (lL r102.lt (lT m134.size m135.size)) ge52)) nN))).rng ((((((((((((rr1_2.ext m133).ext m134).mod m135 (nC (lE (lL (lL rr1_2.lt m133.size) lR)) nN)).ext m196).ext m197).ext m198).ext md3).ext m199).ext m200).ext m201).ext m202).mod m203 (nC (lE (lL rr1_2.lt ge39)) (nC (lE (lL rr1_2.lt ge40)) nN))).rng ((((((((((((rr1_3.ext m133).ext m134).mod m135 (nC (lE (lL (lL rr1_3.lt m133.size) lR)) nN)).ext m196).ext m197).ext m198).ext md3).ext m199).ext m200).ext m201).ext m202).mod m203 (nC (lE (lL rr1_3.lt ge39)) (nC (lE (lL rr1_3.lt ge40)) nN))).rng)) rfl rfl (ltb rfl) ?_
      rintro _ w207 ⟨rfl, m204⟩
      refine WL.yes rfl rfl rfl (ltb rfl) rfl rfl ?_
      refine WL.det (op_not rfl) rfl rfl rfl ?_
      refine WL.det (op_pick_f rfl rfl rfl) rfl rfl rfl ?_
      refine WL.det (op_move rfl) rfl rfl rfl ?_
      refine WL.yes rfl rfl rfl (ltb rfl) rfl rfl ?_
      refine WL.det (op_loadA (i := 0) (cs := fl ou) rfl Try.isAgg82 Try.sizeOf82 (((((((((rr2_3.ext m197).ext m198).ext md3).ext m199).ext m200).ext m201).ext m202).mod m203 (nC (lG (lL (lL r101.lt (lT m134.size m135.size)) ge54)) (nC (lG (lL (lL r102.lt (lT m134.size m135.size)) ge54)) nN))).ext m204).rng rfl (fl_whole hp2_3_2) (fl_len hp2_3_2)) rfl rfl rfl ?_
      refine WL.yes rfl rfl rfl (ltb rfl) rfl rfl ?_
      refine WL.det (op_loadA (i := 0) (cs := fl ou) rfl Try.isAgg82 Try.sizeOf82 (((((((((((((rr1_5.ext m133).ext m134).mod m135 (nC (lE (lL (lL rr1_5.lt m133.size) lR)) nN)).ext m196).ext m197).ext m198).ext md3).ext m199).ext m200).ext m201).ext m202).mod m203 (nC (lE (lL rr1_5.lt ge39)) (nC (lE (lL rr1_5.lt ge40)) nN))).ext m204).rng rfl (fl_whole hp1_4_2) (fl_len hp1_4_2)) rfl rfl rfl ?_
      refine WL.yes rfl rfl rfl (ltb rfl) rfl rfl ?_
      refine WL.call (oc_call (vs := [.agg (fl ou).toArray, .agg (fl ou).toArray]) (cap := []) rfl rfl rfl Try.call51 (c_eqBlock_same ou hp1_4_2 w207)) rfl rfl (ltb rfl) ?_
      rintro _ w208 ⟨rfl, m205⟩
      refine WL.yes rfl rfl rfl (ltb rfl) rfl rfl ?_
      refine WL.det (op_not rfl) rfl rfl rfl ?_
      refine WL.det (op_pick_f rfl rfl rfl) rfl rfl rfl ?_
      refine WL.det (op_move rfl) rfl rfl rfl ?_
      refine WL.yes rfl rfl rfl (ltb rfl) rfl rfl ?_
      refine WL.det (op_move rfl) rfl rfl rfl ?_
      refine WL.yes rfl rfl rfl (ltb rfl) rfl rfl ?_
      refine WL.det (op_move rfl) rfl rfl rfl ?_
      refine WL.yes rfl rfl rfl (ltb rfl) rfl rfl ?_
      refine WL.det (op_nei rfl rfl) rfl rfl rfl ?_
      refine WL.det (op_pick_f rfl rfl rfl) rfl rfl rfl ?_
      refine WL.end ?_
      refine NE.code ?_
      refine CE.cond_f rfl rfl ?_
      refine CE.skip' ?_
      refine NE.code ?_
      refine CE.seq ?_
      refine CE.region ?_
      refine WL.det (op_assign rfl) rfl rfl rfl ?_
      refine WL.end ?_
      refine NE.code ?_
      refine CE.seq ?_
      refine CE.region ?_
      refine WL.det (op_loadA (i := 0) (cs := [vS e2_3_0 0 nNr e2_3_1, vI ((z.i : Nat) : Int), vS e2_3_2 0 nBr e2_3_3, vI ((z.h : Nat) : Int), vI Dk, vF Dc0, vF Dc1, vF Dc2, vF z.s0, vF z.s1, vF sl, vF lo]) rfl Try.isAgg36 Try.sizeOf36 ((((((((((rr2_2.ext m197).ext m198).ext md3).ext m199).ext m200).ext m201).ext m202).mod m203 (nC (lG (lL (lL r101.lt (lT m134.size m135.size)) ge53)) (nC (lG (lL (lL r102.lt (lT m134.size m135.size)) ge53)) nN))).ext m204).ext m205).rng rfl rfl rfl) rfl rfl rfl ?_
      refine WL.det (op_move rfl) rfl rfl rfl ?_
      refine WL.call (oc_call (vs := [.agg #[vS e2_3_0 0 nNr e2_3_1, vI ((z.i : Nat) : Int), vS e2_3_2 0 nBr e2_3_3, vI ((z.h : Nat) : Int), vI Dk, vF Dc0, vF Dc1, vF Dc2, vF z.s0, vF z.s1, vF sl, vF lo], vI 1]) (cap := []) rfl rfl rfl Try.call17 (c_markBow nNr e2_3_1 e2_3_0 z.xs ((z.i : Nat) : Int) nBr e2_3_3 e2_3_2 z.ys ((z.h : Nat) : Int) Dk Dc0 Dc1 Dc2 z.s0 z.s1 sl lo 1 hp2_3_0 hp2_3_1 (by omega) (by omega) (by omega) w208 ((((((((((rr2_0.ext m197).ext m198).ext md3).ext m199).ext m200).ext m201).ext m202).mod m203 (nC (lG (lL (lL r101.lt (lT m134.size m135.size)) ge51)) (nC (lG (lL (lL r102.lt (lT m134.size m135.size)) ge51)) nN))).ext m204).ext m205) ((((((((((rr2_1.ext m197).ext m198).ext md3).ext m199).ext m200).ext m201).ext m202).mod m203 (nC (lG (lL (lL r101.lt (lT m134.size m135.size)) ge52)) (nC (lG (lL (lL r102.lt (lT m134.size m135.size)) ge52)) nN))).ext m204).ext m205) ne38)) rfl rfl (ltb rfl) ?_
      rintro _ w209 ⟨rfl, r154, r155, m206⟩
      refine WL.det (op_assign rfl) rfl rfl rfl ?_
      refine WL.end ?_
      refine NE.code ?_
      refine CE.seq ?_
      refine CE.region ?_
      refine WL.det (op_assign rfl) rfl rfl rfl ?_
      refine WL.end ?_
      refine NE.code ?_
      refine CE.seq ?_
      refine CE.region ?_
      refine WL.det (op_loadA (i := 0) (cs := [vS e2_3_0 0 nNr e2_3_1, vI ((z.i : Nat) : Int), vS e2_3_2 0 nBr e2_3_3, vI ((z.h : Nat) : Int), vI Dk, vF Dc0, vF Dc1, vF Dc2, vF z.s0, vF z.s1, vF sl, vF lo]) rfl Try.isAgg36 Try.sizeOf36 (((((((((((rr2_2.ext m197).ext m198).ext md3).ext m199).ext m200).ext m201).ext m202).mod m203 (nC (lG (lL (lL r101.lt (lT m134.size m135.size)) ge53)) (nC (lG (lL (lL r102.lt (lT m134.size m135.size)) ge53)) nN))).ext m204).ext m205).mod m206 (nC (Ne.symm ne39) (nC (Ne.symm ne41) nN))).rng rfl rfl rfl) rfl rfl rfl ?_
      refine WL.det (op_move rfl) rfl rfl rfl ?_
      refine WL.call (oc_call (vs := [.agg #[vS e2_3_0 0 nNr e2_3_1, vI ((z.i : Nat) : Int), vS e2_3_2 0 nBr e2_3_3, vI ((z.h : Nat) : Int), vI Dk, vF Dc0, vF Dc1, vF Dc2, vF z.s0, vF z.s1, vF sl, vF lo], vI 1]) (cap := []) rfl rfl rfl Try.call18 (c_heldBow nNr e2_3_1 e2_3_0 (marks z.xs 1 nNr) ((z.i : Nat) : Int) nBr e2_3_3 e2_3_2 (marks z.ys (1 + nNr) nBr) ((z.h : Nat) : Int) Dk Dc0 Dc1 Dc2 z.s0 z.s1 sl lo 1 (marks_len hp2_3_0 (Nat.le_refl _)) (marks_len hp2_3_1 (Nat.le_refl _)) (by omega) (by omega) (by omega) (by first | assumption | exact marks_held _ _ _) (by first | assumption | exact marks_held _ _ _) w209 r154.rng r155.rng)) rfl rfl (ltb rfl) ?_
      rintro _ w210 ⟨rfl, m207⟩
      refine WL.det (op_assign rfl) rfl rfl rfl ?_
      refine WL.end ?_
      refine NE.code ?_
      refine CE.seq ?_
      refine CE.seq ?_
      refine CE.region ?_
      refine WL.det (op_move rfl) rfl rfl rfl ?_
      refine WL.det (op_lti_f rfl rfl (by omega)) rfl rfl rfl ?_
      refine WL.end ?_
      refine NE.code ?_
      refine CE.cond_f rfl rfl ?_
      refine CE.skip' ?_
      refine NE.code ?_
      refine CE.seq ?_
      refine CE.seq ?_
      refine CE.region ?_
      refine WL.det (op_move rfl) rfl rfl rfl ?_
      refine WL.det (op_move rfl) rfl rfl rfl ?_
      refine WL.det (op_nei_f rfl rfl rfl) rfl rfl rfl ?_
      refine WL.end ?_
      refine NE.code ?_
      refine CE.cond_f rfl rfl ?_
      refine CE.skip' ?_
      refine NE.code ?_
      refine CE.seq ?_
      refine CE.drawF (fun | 1 => some (fun _ wA uA wB => ∃ (bNr' : Nat) (bBr' : Nat), uA = .agg #[vS bNr' 0 nNr nNr, vI ((i : Nat) : Int), vS bBr' 0 nBr nBr, vI ((h : Nat) : Int), vI Dk, vF Dc0, vF Dc1, vF Dc2, vF Ds0, vF Ds1, vF sl, vF lo] ∧ Row wB bNr' 0 (fl xNr) ∧ Row wB bBr' 0 (fl xBr) ∧ wA.heap.size ≤ bNr' ∧ wA.heap.size ≤ bBr' ∧ bNr' ≠ bBr' ∧ Mod [] wA wB) | 3 => some (fun _ wA uA wB => uA = .agg (fl bs).toArray ∧ Mod [] wA wB) | 4 => some (fun _ wA uA wB => ∃ (b' : Nat) (c' : Nat) (d' : Nat) (c2' : Nat), uA = .tuple #[.agg #[vS b' 0 nNr c', vI ((z.i : Nat) : Int), vS d' 0 nBr c2', vI ((z.h : Nat) : Int), vI Dk, vF Dc0, vF Dc1, vF Dc2, vF z.s0, vF z.s1, vF sl, vF lo], .agg (fl ou).toArray, vI 0] ∧ (z.xs.length = nNr) ∧ (z.ys.length = nBr) ∧ (ou.length = 16) ∧ Row wB b' 0 (fl z.xs) ∧ Row wB d' 0 (fl z.ys) ∧ wA.heap.size ≤ b' ∧ wA.heap.size ≤ d' ∧ b' ≠ d' ∧ Mod [] wA wB) | _ => none) [0, 1, 2, 3, 4, 5, 6, 7, 8, 9, 10, 11, 12] [13] [] (fun ρ W => ∃ (e4_1_0 : Nat) (e4_1_1 : Nat) (e4_4_0 : Nat) (e4_4_1 : Nat) (e4_4_2 : Nat) (e4_4_3 : Nat) (e4_9_0 : Nat) (e4_10_0 : Nat), ρ = [(4, .bool false), (6, vP e1_9_0 0), (7, vP e1_10_0 0), (8, vI 0), (10, vP e2_8_0 0), (14, vI ((1 + nNr + nBr : Nat) : Int)), (15, vI ((1 + nNr + nBr : Nat) : Int)), (16, vP e4_9_0 0), (17, vP e4_10_0 0), (104, vI 0)] ∧ Row W e4_1_0 0 (fl xNr) ∧ Row W e4_1_1 0 (fl xBr) ∧ Row W e4_4_0 0 (fl z.xs) ∧ Row W e4_4_2 0 (fl z.ys) ∧ Row W e4_9_0 0 [vS e4_4_0 0 nNr e4_4_1, vI ((z.i : Nat) : Int), vS e4_4_2 0 nBr e4_4_3, vI ((z.h : Nat) : Int), vI Dk, vF Dc0, vF Dc1, vF Dc2, vF z.s0, vF z.s1, vF sl, vF lo] ∧ Row W e4_10_0 0 (fl ou) ∧ w210.heap.size ≤ e4_1_0 ∧ w210.heap.size ≤ e4_1_1 ∧ w210.heap.size ≤ e4_4_0 ∧ w210.heap.size ≤ e4_4_2 ∧ w210.heap.size ≤ e4_9_0 ∧ w210.heap.size ≤ e4_10_0 ∧ e4_1_0 ≠ e4_1_1 ∧ e4_1_0 ≠ e4_4_0 ∧ e4_1_0 ≠ e4_4_2 ∧ e4_1_0 ≠ e4_9_0 ∧ e4_1_0 ≠ e4_10_0 ∧ e4_1_1 ≠ e4_4_0 ∧ e4_1_1 ≠ e4_4_2 ∧ e4_1_1 ≠ e4_9_0 ∧ e4_1_1 ≠ e4_10_0 ∧ e4_4_0 ≠ e4_4_2 ∧ e4_4_0 ≠ e4_9_0 ∧ e4_4_0 ≠ e4_10_0 ∧ e4_4_2 ≠ e4_9_0 ∧ e4_4_2 ≠ e4_10_0 ∧ e4_9_0 ≠ e4_10_0 ∧ (z.xs.length = nNr) ∧ (z.ys.length = nBr) ∧ (ou.length = 16) ∧ Mod [] w210 W) (by kernel_rfl) (by kernel_rfl) ?_ ?_
      have md4 : Mod [] w210 w210.drew := (Mod.refl _ _).drew
      generalize w210.drew = w211 at md4 ⊢
      · refine DR.det (i := 0) rfl rfl (by kernel_rfl) (.free rfl) rfl rfl (fun wD mD => op_loadA (i := 0) (cs := [.slice ANr nNr cNr, vI ((i : Nat) : Int), .slice ABr nBr cBr, vI ((h : Nat) : Int), vI Dk, vF Dc0, vF Dc1, vF Dc2, vF Ds0, vF Ds1, vF sl, vF lo]) rfl Try.isAgg31 Try.sizeOf31 (((((((((((((((((((((r1.ext m2).ext m3).ext m132).ext m133).ext m134).mod m135 (nC (lE (lL (lL r1.lt (lT (lT (lT m2.size m3.size) m132.size) m133.size)) lR)) nN)).ext m196).ext m197).ext m198).ext md3).ext m199).ext m200).ext m201).ext m202).mod m203 (nC (lE (lL (lL r1.lt (lT (lT m2.size m3.size) m132.size)) ge39)) (nC (lE (lL (lL r1.lt (lT (lT m2.size m3.size) m132.size)) ge40)) nN))).ext m204).ext m205).mod m206 (nC (lE (lL (lL r1.lt (lT (lT (lT (lT (lT m2.size m3.size) m132.size) m133.size) m134.size) m135.size)) ge51)) (nC (lE (lL (lL r1.lt (lT (lT (lT (lT (lT m2.size m3.size) m132.size) m133.size) m134.size) m135.size)) ge52)) nN))).ext m207).ext md4).ext mD).rng rfl rfl rfl) ?_
        refine DR.det (i := 2) rfl rfl (by kernel_rfl) (.free rfl) rfl rfl (fun wD mD => op_loadA (i := 0) (cs := fl bs) rfl Try.isAgg81 Try.sizeOf81 ((((((((((((((((((((r2.ext m3).ext m132).ext m133).ext m134).mod m135 (nC (lE (lL (lL r2.lt (lT (lT m3.size m132.size) m133.size)) lR)) nN)).ext m196).ext m197).ext m198).ext md3).ext m199).ext m200).ext m201).ext m202).mod m203 (nC (lE (lL (lL r2.lt (lT m3.size m132.size)) ge39)) (nC (lE (lL (lL r2.lt (lT m3.size m132.size)) ge40)) nN))).ext m204).ext m205).mod m206 (nC (lE (lL (lL r2.lt (lT (lT (lT (lT m3.size m132.size) m133.size) m134.size) m135.size)) ge51)) (nC (lE (lL (lL r2.lt (lT (lT (lT (lT m3.size m132.size) m133.size) m134.size) m135.size)) ge52)) nN))).ext m207).ext md4).ext mD).rng rfl (fl_whole lb) (fl_len lb)) ?_
        refine DR.fork (is := [1, 9, 10]) (by kernel_rfl) (by decide) (all3 ?_ ?_ ?_)
        · refine DP.call (i := 1) rfl rfl (.free rfl) rfl (ltb rfl) (vs := [.func (.func 14) #[] #[], .agg #[.slice ANr nNr cNr, vI ((i : Nat) : Int), .slice ABr nBr cBr, vI ((h : Nat) : Int), vI Dk, vF Dc0, vF Dc1, vF Dc2, vF Ds0, vF Ds1, vF sl, vF lo]]) rfl ?_
          intro w212 m208
          refine ⟨oc_call (vs := [.agg #[.slice ANr nNr cNr, vI ((i : Nat) : Int), .slice ABr nBr cBr, vI ((h : Nat) : Int), vI Dk, vF Dc0, vF Dc1, vF Dc2, vF Ds0, vF Ds1, vF sl, vF lo]]) (cap := []) rfl rfl rfl Try.call14 (c_toBow nNr cNr ANr bNr oNr xNr ((i : Nat) : Int) nBr cBr ABr bBr oBr xBr ((h : Nat) : Int) Dk Dc0 Dc1 Dc2 Ds0 Ds1 sl lo lnNr hANr lnBr hABr (by omega) (by omega) w212 ((((Rng.youngS rNr (((Rng.youngS rNr (((((((((Rng.youngS rNr ((((((rNr.ext m1).ext m2).ext m3).ext m132).ext m133).ext m134) m135 (allge_cons (lT (lT (lT (lT (lT m1.size m2.size) m3.size) m132.size) m133.size) lR) allge_nil)).ext m196).ext m197).ext m198).ext md3).ext m199).ext m200).ext m201).ext m202) m203 (allge_cons (lT (lT (lT (lT m1.size m2.size) m3.size) m132.size) ge39) (allge_cons (lT (lT (lT (lT m1.size m2.size) m3.size) m132.size) ge40) allge_nil))).ext m204).ext m205) m206 (allge_cons (lT (lT (lT (lT (lT (lT (lT m1.size m2.size) m3.size) m132.size) m133.size) m134.size) m135.size) ge51) (allge_cons (lT (lT (lT (lT (lT (lT (lT m1.size m2.size) m3.size) m132.size) m133.size) m134.size) m135.size) ge52) allge_nil))).ext m207).ext md4).ext m208) ((((Rng.youngS rBr (((Rng.youngS rBr (((((((((Rng.youngS rBr ((((((rBr.ext m1).ext m2).ext m3).ext m132).ext m133).ext m134) m135 (allge_cons (lT (lT (lT (lT (lT m1.size m2.size) m3.size) m132.size) m133.size) lR) allge_nil)).ext m196).ext m197).ext m198).ext md3).ext m199).ext m200).ext m201).ext m202) m203 (allge_cons (lT (lT (lT (lT m1.size m2.size) m3.size) m132.size) ge39) (allge_cons (lT (lT (lT (lT m1.size m2.size) m3.size) m132.size) ge40) allge_nil))).ext m204).ext m205) m206 (allge_cons (lT (lT (lT (lT (lT (lT (lT m1.size m2.size) m3.size) m132.size) m133.size) m134.size) m135.size) ge51) (allge_cons (lT (lT (lT (lT (lT (lT (lT m1.size m2.size) m3.size) m132.size) m133.size) m134.size) m135.size) ge52) allge_nil))).ext m207).ext md4).ext m208)), ?_⟩
          rintro _ w213 ⟨bNr'8, bBr'8, rfl, r156, r157, ge57, ge58, ne45, m209⟩
          refine ⟨(((Mod.refl [] w211).nt m208).nt m209), ?_⟩
          refine DR.call (i := 3) (fun uA => uA = .agg (fl bs).toArray) rfl rfl (by kernel_rfl) (.free rfl) rfl (ltb rfl) ⟨_, rfl⟩ (vs := [.func (.func 49) #[] #[], .agg (fl bs).toArray]) rfl (fun wD mD => oc_call (vs := [.agg (fl bs).toArray]) (cap := []) rfl rfl rfl Try.call49 (c_toBlock bs lb wD)) ?_ ?_
          · rintro w1 _ w2 m1 ⟨rfl, m2⟩; exact ⟨rfl, m2⟩
          rintro _ rfl
          refine DR.fork (is := [4, 9, 10]) (by kernel_rfl) (by decide) (all3 ?_ ?_ ?_)
          · refine DP.call (i := 4) rfl rfl (.free rfl) rfl (ltb rfl) (vs := [.func (.func 53) #[] #[], .agg #[vS bNr'8 0 nNr nNr, vI ((i : Nat) : Int), vS bBr'8 0 nBr nBr, vI ((h : Nat) : Int), vI Dk, vF Dc0, vF Dc1, vF Dc2, vF Ds0, vF Ds1, vF sl, vF lo], .agg (fl bs).toArray]) rfl ?_
            intro w214 m210
            refine ⟨oc_call (vs := [.agg #[vS bNr'8 0 nNr nNr, vI ((i : Nat) : Int), vS bBr'8 0 nBr nBr, vI ((h : Nat) : Int), vI Dk, vF Dc0, vF Dc1, vF Dc2, vF Ds0, vF Ds1, vF sl, vF lo], .agg (fl bs).toArray]) (cap := []) rfl rfl rfl Try.call53 (c_iBlockBow nNr nNr bNr'8 xNr nBr nBr bBr'8 xBr i h Dk Dc0 Dc1 Dc2 Ds0 Ds1 sl lo bs z ou lnNr lnBr (by omega) (by omega) (by omega) (by omega) (by first | assumption | exact W32.set (by assumption) (by first | assumption | exact wid_lt (by assumption)) | exact W32.zeros _ | exact W32.nil) (by first | assumption | exact W32.set (by assumption) (by first | assumption | exact wid_lt (by assumption)) | exact W32.zeros _ | exact W32.nil) (by first | assumption | exact W32.get (by assumption) _ | decide +kernel) (by first | assumption | exact W32.get (by assumption) _ | decide +kernel) lb (by first | assumption | exact W32.set (by assumption) (by first | assumption | exact wid_lt (by assumption)) | exact W32.zeros _ | exact W32.nil) (by assumption) (by assumption) (by assumption) w214 (r156.ext m210).rng (r157.ext m210).rng), ?_⟩
            rintro _ w215 ⟨b'17, c'17, d'17, c2'17, rfl, h49, h50, h51, r158, r159, ge59, ge60, ne46, m211⟩
            refine ⟨(((((Mod.refl [] w211).nt m208).nt m209).nt m210).nt m211), ?_⟩
            refine DR.det (i := 5) rfl rfl (by kernel_rfl) (.free rfl) rfl rfl (fun wD mD => op_move rfl) ?_
            refine DR.det (i := 6) rfl rfl (by kernel_rfl) (.free rfl) rfl rfl (fun wD mD => op_extract rfl rfl) ?_
            refine DR.det (i := 7) rfl rfl (by kernel_rfl) (.free rfl) rfl rfl (fun wD mD => op_extract rfl rfl) ?_
            refine DR.det (i := 8) rfl rfl (by kernel_rfl) (.free rfl) rfl rfl (fun wD mD => op_extract rfl rfl) ?_
            refine DR.fork (is := [9, 10]) (by kernel_rfl) (by decide) (all2 ?_ ?_)
            · refine DP.op (i := 9) rfl rfl (.free rfl) rfl (ltb rfl) ?_
              intro w216 m212
              refine Op1.mono (op_alloc (cs := [.slice none 0 0, vI 0, .slice none 0 0, vI 0, vI 0, vF 0, vF 0, vF 0, vF 0, vF 0, vF 0, vF 0]) Try.zeroValue36 rfl) ?_
              rintro _ w217 ⟨rfl, r160, m213, z69⟩
              refine ⟨(((((((Mod.refl [] w211).nt m208).nt m209).nt m210).nt m211).nt m212).nt m213), ?_⟩
              refine DR.one1 (i := 10) rfl rfl (by kernel_rfl) (.free rfl) rfl (ltb rfl) ?_
              intro w218 m214
              refine Op1.mono (op_alloc (cs := fl (List.replicate 16 0)) Try.zeroValue82 rfl) ?_
              rintro _ w219 ⟨rfl, r161, m215, z70⟩
              refine ⟨(((((((((Mod.refl [] w211).nt m208).nt m209).nt m210).nt m211).nt m212).nt m213).nt m214).nt m215), ?_⟩
              refine DR.st1 (i := 11) rfl rfl (by kernel_rfl) (.free rfl) rfl ?_
              intro w220 m216
              refine Op1.mono (op_store (i := 0) (cs := [vS b'17 0 nNr c'17, vI ((z.i : Nat) : Int), vS d'17 0 nBr c2'17, vI ((z.h : Nat) : Int), vI Dk, vF Dc0, vF Dc1, vF Dc2, vF z.s0, vF z.s1, vF sl, vF lo]) rfl rfl rfl Try.sizeOf36 rfl (((r160.ext m214).ext m215).ext m216) rfl (lB rfl) rfl) ?_
              rintro _ w221 ⟨r162, m217, z71⟩
              have r163 : Row w221 w216.heap.size 0 [vS b'17 0 nNr c'17, vI ((z.i : Nat) : Int), vS d'17 0 nBr c2'17, vI ((z.h : Nat) : Int), vI Dk, vF Dc0, vF Dc1, vF Dc2, vF z.s0, vF z.s1, vF sl, vF lo] := Row.congr r162 rfl
              refine ⟨(((((((((((Mod.refl [] w211).nt m208).nt m209).nt m210).nt m211).nt m212).nt m213).nt m214).nt m215).nt m216).then m217 ((aC (.inr (lT (lT (lT (lT (lT m208.size m209.size) m210.size) m211.size) m212.size) lR)) aN))), ?_⟩
              refine DR.st1 (i := 12) rfl rfl (by kernel_rfl) (.free rfl) rfl ?_
              intro w222 m218
              refine Op1.mono (op_store (i := 0) (cs := fl ou) rfl rfl rfl Try.sizeOf82 (fl_len h51) (((r161.ext m216).mod m217 (nC (lG (lL (lL r160.lt m214.size) lR)) nN)).ext m218) rfl (by rw [fl_length, List.length_replicate]; decide) (fl_one _)) ?_
              rintro _ w223 ⟨r164, m219, z72⟩
              have r165 : Row w223 w218.heap.size 0 (fl ou) := Row.congr r164 (splice_all ((fl_len (List.length_replicate)).trans (fl_len (h51)).symm))
              refine ⟨(((((((((((((Mod.refl [] w211).nt m208).nt m209).nt m210).nt m211).nt m212).nt m213).nt m214).nt m215).nt m216).then m217 ((aC (.inr (lT (lT (lT (lT (lT m208.size m209.size) m210.size) m211.size) m212.size) lR)) aN))).nt m218).then m219 ((aC (.inr (lT (lT (lT (lT (lT (lT (lT m208.size m209.size) m210.size) m211.size) m212.size) m213.size) m214.size) lR)) aN))), ?_⟩
              refine DR.sub [(4, .bool false), (6, vP e1_9_0 0), (7, vP e1_10_0 0), (8, vI 0), (10, vP e2_8_0 0), (14, vI ((1 + nNr + nBr : Nat) : Int)), (15, vI ((1 + nNr + nBr : Nat) : Int)), (16, vP w216.heap.size 0), (17, vP w218.heap.size 0), (104, vI 0)] ⟨rfl, rfl, rfl, rfl, rfl, rfl, rfl, rfl, rfl, rfl, trivial⟩ ?_
              refine DR.meet rfl ?_
              intro w224 m220
              exact ⟨bNr'8, bBr'8, b'17, c'17, d'17, c2'17, w216.heap.size, w218.heap.size, rfl, (((((((((((r156.ext m210).ext m211).ext m212).ext m213).ext m214).ext m215).ext m216).mod m217 (nC (lE (lL (lL r156.lt (lT (lT m210.size m211.size) m212.size)) lR)) nN)).ext m218).mod m219 (nC (lE (lL (lL r156.lt (lT (lT (lT (lT m210.size m211.size) m212.size) m213.size) m214.size)) lR)) nN)).ext m220), (((((((((((r157.ext m210).ext m211).ext m212).ext m213).ext m214).ext m215).ext m216).mod m217 (nC (lE (lL (lL r157.lt (lT (lT m210.size m211.size) m212.size)) lR)) nN)).ext m218).mod m219 (nC (lE (lL (lL r157.lt (lT (lT (lT (lT m210.size m211.size) m212.size) m213.size) m214.size)) lR)) nN)).ext m220), (((((((((r158.ext m212).ext m213).ext m214).ext m215).ext m216).mod m217 (nC (lE (lL (lL r158.lt m212.size) lR)) nN)).ext m218).mod m219 (nC (lE (lL (lL r158.lt (lT (lT m212.size m213.size) m214.size)) lR)) nN)).ext m220), (((((((((r159.ext m212).ext m213).ext m214).ext m215).ext m216).mod m217 (nC (lE (lL (lL r159.lt m212.size) lR)) nN)).ext m218).mod m219 (nC (lE (lL (lL r159.lt (lT (lT m212.size m213.size) m214.size)) lR)) nN)).ext m220), (((r163.ext m218).mod m219 (nC (lE (lL (lL r160.lt m214.size) lR)) nN)).ext m220), (r165.ext m220), (lT (lT md4.size m208.size) ge57), (lT (lT md4.size m208.size) ge58), (lT (lT (lT (lT md4.size m208.size) m209.size) m210.size) ge59), (lT (lT (lT (lT md4.size m208.size) m209.size) m210.size) ge60), (lT (lT (lT (lT (lT (lT md4.size m208.size) m209.size) m210.size) m211.size) m212.size) lR), (lT (lT (lT (lT (lT (lT (lT (lT md4.size m208.size) m209.size) m210.size) m211.size) m212.size) m213.size) m214.size) lR), ne45, (lE (lL (lL r156.lt m210.size) ge59)), (lE (lL (lL r156.lt m210.size) ge60)), (lE (lL (lL r156.lt (lT (lT m210.size m211.size) m212.size)) lR)), (lE (lL (lL r156.lt (lT (lT (lT (lT m210.size m211.size) m212.size) m213.size) m214.size)) lR)), (lE (lL (lL r157.lt m210.size) ge59)), (lE (lL (lL r157.lt m210.size) ge60)), (lE (lL (lL r157.lt (lT (lT m210.size m211.size) m212.size)) lR)), (lE (lL (lL r157.lt (lT (lT (lT (lT m210.size m211.size) m212.size) m213.size) m214.size)) lR)), ne46, (lE (lL (lL r158.lt m212.size) lR)), (lE (lL (lL r158.lt (lT (lT m212.size m213.size) m214.size)) lR)), (lE (lL (lL r159.lt m212.size) lR)), (lE (lL (lL r159.lt (lT (lT m212.size m213.size) m214.size)) lR)), (lE (lL (lL r160.lt m214.size) lR)), h49, h50, h51, (((((((((((((((Mod.refl [] w210).nt md4).nt m208).nt m209).nt m210).nt m211).nt m212).nt m213).nt m214).nt m215).nt m216).then m217 ((aC (.inr (lT (lT (lT (lT (lT (lT md4.size m208.size) m209.size) m210.size) m211.size) m212.size) lR)) aN))).nt m218).then m219 ((aC (.inr (lT (lT (lT (lT (lT (lT (lT (lT md4.size m208.size) m209.size) m210.size) m211.size) m212.size) m213.size) m214.size) lR)) aN))).nt m220)⟩
            · refine DP.op (i := 10) rfl rfl (.free rfl) rfl (ltb rfl) ?_
              intro w225 m221
              refine Op1.mono (op_alloc (cs := fl (List.replicate 16 0)) Try.zeroValue82 rfl) ?_
              rintro _ w226 ⟨rfl, r166, m222, z73⟩
              refine ⟨(((((((Mod.refl [] w211).nt m208).nt m209).nt m210).nt m211).nt m221).nt m222), ?_⟩
              refine DR.one1 (i := 9) rfl rfl (by kernel_rfl) (.free rfl) rfl (ltb rfl) ?_
              intro w227 m223
              refine Op1.mono (op_alloc (cs := [.slice none 0 0, vI 0, .slice none 0 0, vI 0, vI 0, vF 0, vF 0, vF 0, vF 0, vF 0, vF 0, vF 0]) Try.zeroValue36 rfl) ?_
              rintro _ w228 ⟨rfl, r167, m224, z74⟩
              refine ⟨(((((((((Mod.refl [] w211).nt m208).nt m209).nt m210).nt m211).nt m221).nt m222).nt m223).nt m224), ?_⟩
              refine DR.st1 (i := 11) rfl rfl (by kernel_rfl) (.free rfl) rfl ?_
              intro w229 m225
              refine Op1.mono (op_store (i := 0) (cs := [vS b'17 0 nNr c'17, vI ((z.i : Nat) : Int), vS d'17 0 nBr c2'17, vI ((z.h : Nat) : Int), vI Dk, vF Dc0, vF Dc1, vF Dc2, vF z.s0, vF z.s1, vF sl, vF lo]) rfl rfl rfl Try.sizeOf36 rfl (r167.ext m225) rfl (lB rfl) rfl) ?_
              rintro _ w230 ⟨r168, m226, z75⟩
              have r169 : Row w230 w227.heap.size 0 [vS b'17 0 nNr c'17, vI ((z.i : Nat) : Int), vS d'17 0 nBr c2'17, vI ((z.h : Nat) : Int), vI Dk, vF Dc0, vF Dc1, vF Dc2, vF z.s0, vF z.s1, vF sl, vF lo] := Row.congr r168 rfl
              refine ⟨(((((((((((Mod.refl [] w211).nt m208).nt m209).nt m210).nt m211).nt m221).nt m222).nt m223).nt m224).nt m225).then m226 ((aC (.inr (lT (lT (lT (lT (lT (lT (lT m208.size m209.size) m210.size) m211.size) m221.size) m222.size) m223.size) lR)) aN))), ?_⟩
              refine DR.st1 (i := 12) rfl rfl (by kernel_rfl) (.free rfl) rfl ?_
              intro w231 m227
              refine Op1.mono (op_store (i := 0) (cs := fl ou) rfl rfl rfl Try.sizeOf82 (fl_len h51) (((((r166.ext m223).ext m224).ext m225).mod m226 (nC (lE (lL (lL r166.lt m223.size) lR)) nN)).ext m227) rfl (by rw [fl_length, List.length_replicate]; decide) (fl_one _)) ?_
              rintro _ w232 ⟨r170, m228, z76⟩
              have r171 : Row w232 w225.heap.size 0 (fl ou) := Row.congr r170 (splice_all ((fl_len (List.length_replicate)).trans (fl_len (h51)).symm))
              refine ⟨(((((((((((((Mod.refl [] w211).nt m208).nt m209).nt m210).nt m211).nt m221).nt m222).nt m223).nt m224).nt m225).then m226 ((aC (.inr (lT (lT (lT (lT (lT (lT (lT m208.size m209.size) m210.size) m211.size) m221.size) m222.size) m223.size) lR)) aN))).nt m227).then m228 ((aC (.inr (lT (lT (lT (lT (lT m208.size m209.size) m210.size) m211.size) m221.size) lR)) aN))), ?_⟩
              refine DR.sub [(4, .bool false), (6, vP e1_9_0 0), (7, vP e1_10_0 0), (8, vI 0), (10, vP e2_8_0 0), (14, vI ((1 + nNr + nBr : Nat) : Int)), (15, vI ((1 + nNr + nBr : Nat) : Int)), (16, vP w227.heap.size 0), (17, vP w225.heap.size 0), (104, vI 0)] ⟨rfl, rfl, rfl, rfl, rfl, rfl, rfl, rfl, rfl, rfl, trivial⟩ ?_
              refine DR.meet rfl ?_
              intro w233 m229
              exact ⟨bNr'8, bBr'8, b'17, c'17, d'17, c2'17, w227.heap.size, w225.heap.size, rfl, (((((((((((r156.ext m210).ext m211).ext m221).ext m222).ext m223).ext m224).ext m225).mod m226 (nC (lE (lL (lL r156.lt (lT (lT (lT (lT m210.size m211.size) m221.size) m222.size) m223.size)) lR)) nN)).ext m227).mod m228 (nC (lE (lL (lL r156.lt (lT (lT m210.size m211.size) m221.size)) lR)) nN)).ext m229), (((((((((((r157.ext m210).ext m211).ext m221).ext m222).ext m223).ext m224).ext m225).mod m226 (nC (lE (lL (lL r157.lt (lT (lT (lT (lT m210.size m211.size) m221.size) m222.size) m223.size)) lR)) nN)).ext m227).mod m228 (nC (lE (lL (lL r157.lt (lT (lT m210.size m211.size) m221.size)) lR)) nN)).ext m229), (((((((((r158.ext m221).ext m222).ext m223).ext m224).ext m225).mod m226 (nC (lE (lL (lL r158.lt (lT (lT m221.size m222.size) m223.size)) lR)) nN)).ext m227).mod m228 (nC (lE (lL (lL r158.lt m221.size) lR)) nN)).ext m229), (((((((((r159.ext m221).ext m222).ext m223).ext m224).ext m225).mod m226 (nC (lE (lL (lL r159.lt (lT (lT m221.size m222.size) m223.size)) lR)) nN)).ext m227).mod m228 (nC (lE (lL (lL r159.lt m221.size) lR)) nN)).ext m229), (((r169.ext m227).mod m228 (nC (lG (lL (lL r166.lt m223.size) lR)) nN)).ext m229), (r171.ext m229), (lT (lT md4.size m208.size) ge57), (lT (lT md4.size m208.size) ge58), (lT (lT (lT (lT md4.size m208.size) m209.size) m210.size) ge59), (lT (lT (lT (lT md4.size m208.size) m209.size) m210.size) ge60), (lT (lT (lT (lT (lT (lT (lT (lT md4.size m208.size) m209.size) m210.size) m211.size) m221.size) m222.size) m223.size) lR), (lT (lT (lT (lT (lT (lT md4.size m208.size) m209.size) m210.size) m211.size) m221.size) lR), ne45, (lE (lL (lL r156.lt m210.size) ge59)), (lE (lL (lL r156.lt m210.size) ge60)), (lE (lL (lL r156.lt (lT (lT (lT (lT m210.size m211.size) m221.size) m222.size) m223.size)) lR)), (lE (lL (lL r156.lt (lT (lT m210.size m211.size) m221.size)) lR)), (lE (lL (lL r157.lt m210.size) ge59)), (lE (lL (lL r157.lt m210.size) ge60)), (lE (lL (lL r157.lt (lT (lT (lT (lT m210.size m211.size) m221.size) m222.size) m223.size)) lR)), (lE (lL (lL r157.lt (lT (lT m210.size m211.size) m221.size)) lR)), ne46, (lE (lL (lL r158.lt (lT (lT m221.size m222.size) m223.size)) lR)), (lE (lL (lL r158.lt m221.size) lR)), (lE (lL (lL r159.lt (lT (lT m221.size m222.size) m223.size)) lR)), (lE (lL (lL r159.lt m221.size) lR)), (lG (lL (lL r166.lt m223.size) lR)), h49, h50, h51, (((((((((((((((Mod.refl [] w210).nt md4).nt m208).nt m209).nt m210).nt m211).nt m221).nt m222).nt m223).nt m224).nt m225).then m226 ((aC (.inr (lT (lT (lT (lT (lT (lT (lT (lT md4.size m208.size) m209.size) m210.size) m211.size) m221.size) m222.size) m223.size) lR)) aN))).nt m227).then m228 ((aC (.inr (lT (lT (lT (lT (lT (lT md4.size m208.size) m209.size) m210.size) m211.size) m221.size) lR)) aN))).nt m229)⟩
          · refine DP.op (i := 9) rfl rfl (.free rfl) rfl (ltb rfl) ?_
            intro w234 m230
            refine Op1.mono (op_alloc (cs := [.slice none 0 0, vI 0, .slice none 0 0, vI 0, vI 0, vF 0, vF 0, vF 0, vF 0, vF 0, vF 0, vF 0]) Try.zeroValue36 rfl) ?_
            rintro _ w235 ⟨rfl, r172, m231, z77⟩
            refine ⟨(((((Mod.refl [] w211).nt m208).nt m209).nt m230).nt m231), ?_⟩
            refine DR.fork (is := [4, 10]) (by kernel_rfl) (by decide) (all2 ?_ ?_)
            · refine DP.call (i := 4) rfl rfl (.free rfl) rfl (ltb rfl) (vs := [.func (.func 53) #[] #[], .agg #[vS bNr'8 0 nNr nNr, vI ((i : Nat) : Int), vS bBr'8 0 nBr nBr, vI ((h : Nat) : Int), vI Dk, vF Dc0, vF Dc1, vF Dc2, vF Ds0, vF Ds1, vF sl, vF lo], .agg (fl bs).toArray]) rfl ?_
              intro w236 m232
              refine ⟨oc_call (vs := [.agg #[vS bNr'8 0 nNr nNr, vI ((i : Nat) : Int), vS bBr'8 0 nBr nBr, vI ((h : Nat) : Int), vI Dk, vF Dc0, vF Dc1, vF Dc2, vF Ds0, vF Ds1, vF sl, vF lo], .agg (fl bs).toArray]) (cap := []) rfl rfl rfl Try.call53 (c_iBlockBow nNr nNr bNr'8 xNr nBr nBr bBr'8 xBr i h Dk Dc0 Dc1 Dc2 Ds0 Ds1 sl lo bs z ou lnNr lnBr (by omega) (by omega) (by omega) (by omega) (by first | assumption | exact W32.set (by assumption) (by first | assumption | exact wid_lt (by assumption)) | exact W32.zeros _ | exact W32.nil) (by first | assumption | exact W32.set (by assumption) (by first | assumption | exact wid_lt (by assumption)) | exact W32.zeros _ | exact W32.nil) (by first | assumption | exact W32.get (by assumption) _ | decide +kernel) (by first | assumption | exact W32.get (by assumption) _ | decide +kernel) lb (by first | assumption | exact W32.set (by assumption) (by first | assumption | exact wid_lt (by assumption)) | exact W32.zeros _ | exact W32.nil) (by assumption) (by assumption) (by assumption) w236 (((r156.ext m230).ext m231).ext m232).rng (((r157.ext m230).ext m231).ext m232).rng), ?_⟩
              rintro _ w237 ⟨b'18, c'18, d'18, c2'18, rfl, h52, h53, h54, r173, r174, ge61, ge62, ne47, m233⟩
              refine ⟨(((((((Mod.refl [] w211).nt m208).nt m209).nt m230).nt m231).nt m232).nt m233), ?_⟩
              refine DR.det (i := 5) rfl rfl (by kernel_rfl) (.free rfl) rfl rfl (fun wD mD => op_move rfl) ?_
              refine DR.det (i := 6) rfl rfl (by kernel_rfl) (.free rfl) rfl rfl (fun wD mD => op_extract rfl rfl) ?_
              refine DR.det (i := 7) rfl rfl (by kernel_rfl) (.free rfl) rfl rfl (fun wD mD => op_extract rfl rfl) ?_
              refine DR.det (i := 8) rfl rfl (by kernel_rfl) (.free rfl) rfl rfl (fun wD mD => op_extract rfl rfl) ?_
              refine DR.one1 (i := 10) rfl rfl (by kernel_rfl) (.free rfl) rfl (ltb rfl) ?_
              intro w238 m234
              refine Op1.mono (op_alloc (cs := fl (List.replicate 16 0)) Try.zeroValue82 rfl) ?_
              rintro _ w239 ⟨rfl, r175, m235, z78⟩
              refine ⟨(((((((((Mod.refl [] w211).nt m208).nt m209).nt m230).nt m231).nt m232).nt m233).nt m234).nt m235), ?_⟩
              refine DR.st1 (i := 11) rfl rfl (by kernel_rfl) (.free rfl) rfl ?_
              intro w240 m236
              refine Op1.mono (op_store (i := 0) (cs := [vS b'18 0 nNr c'18, vI ((z.i : Nat) : Int), vS d'18 0 nBr c2'18, vI ((z.h : Nat) : Int), vI Dk, vF Dc0, vF Dc1, vF Dc2, vF z.s0, vF z.s1, vF sl, vF lo]) rfl rfl rfl Try.sizeOf36 rfl (((((r172.ext m232).ext m233).ext m234).ext m235).ext m236) rfl (lB rfl) rfl) ?_
              rintro _ w241 ⟨r176, m237, z79⟩
              have r177 : Row w241 w234.heap.size 0 [vS b'18 0 nNr c'18, vI ((z.i : Nat) : Int), vS d'18 0 nBr c2'18, vI ((z.h : Nat) : Int), vI Dk, vF Dc0, vF Dc1, vF Dc2, vF z.s0, vF z.s1, vF sl, vF lo] := Row.congr r176 rfl
              refine ⟨(((((((((((Mod.refl [] w211).nt m208).nt m209).nt m230).nt m231).nt m232).nt m233).nt m234).nt m235).nt m236).then m237 ((aC (.inr (lT (lT (lT m208.size m209.size) m230.size) lR)) aN))), ?_⟩
              refine DR.st1 (i := 12) rfl rfl (by kernel_rfl) (.free rfl) rfl ?_
              intro w242 m238
              refine Op1.mono (op_store (i := 0) (cs := fl ou) rfl rfl rfl Try.sizeOf82 (fl_len h54) (((r175.ext m236).mod m237 (nC (lG (lL (lL r172.lt (lT (lT m232.size m233.size) m234.size)) lR)) nN)).ext m238) rfl (by rw [fl_length, List.length_replicate]; decide) (fl_one _)) ?_
              rintro _ w243 ⟨r178, m239, z80⟩
              have r179 : Row w243 w238.heap.size 0 (fl ou) := Row.congr r178 (splice_all ((fl_len (List.length_replicate)).trans (fl_len (h54)).symm))
              refine ⟨(((((((((((((Mod.refl [] w211).nt m208).nt m209).nt m230).nt m231).nt m232).nt m233).nt m234).nt m235).nt m236).then m237 ((aC (.inr (lT (lT (lT m208.size m209.size) m230.size) lR)) aN))).nt m238).then m239 ((aC (.inr (lT (lT (lT (lT (lT (lT (lT m208.size m209.size) m230.size) m231.size) m232.size) m233.size) m234.size) lR)) aN))), ?_⟩
              refine DR.sub [(4, .bool false), (6, vP e1_9_0 0), (7, vP e1_10_0 0), (8, vI 0), (10, vP e2_8_0 0), (14, vI ((1 + nNr + nBr : Nat) : Int)), (15, vI ((1 + nNr + nBr : Nat) : Int)), (16, vP w234.heap.size 0), (17, vP w238.heap.size 0), (104, vI 0)] ⟨rfl, rfl, rfl, rfl, rfl, rfl, rfl, rfl, rfl, rfl, trivial⟩ ?_
              refine DR.meet rfl ?_
              intro w244 m240
              exact ⟨bNr'8, bBr'8, b'18, c'18, d'18, c2'18, w234.heap.size, w238.heap.size, rfl, (((((((((((r156.ext m230).ext m231).ext m232).ext m233).ext m234).ext m235).ext m236).mod m237 (nC (lE (lL (lL r156.lt m230.size) lR)) nN)).ext m238).mod m239 (nC (lE (lL (lL r156.lt (lT (lT (lT (lT m230.size m231.size) m232.size) m233.size) m234.size)) lR)) nN)).ext m240), (((((((((((r157.ext m230).ext m231).ext m232).ext m233).ext m234).ext m235).ext m236).mod m237 (nC (lE (lL (lL r157.lt m230.size) lR)) nN)).ext m238).mod m239 (nC (lE (lL (lL r157.lt (lT (lT (lT (lT m230.size m231.size) m232.size) m233.size) m234.size)) lR)) nN)).ext m240), (((((((r173.ext m234).ext m235).ext m236).mod m237 (nC (lG (lL (lL r172.lt m232.size) ge61)) nN)).ext m238).mod m239 (nC (lE (lL (lL r173.lt m234.size) lR)) nN)).ext m240), (((((((r174.ext m234).ext m235).ext m236).mod m237 (nC (lG (lL (lL r172.lt m232.size) ge62)) nN)).ext m238).mod m239 (nC (lE (lL (lL r174.lt m234.size) lR)) nN)).ext m240), (((r177.ext m238).mod m239 (nC (lE (lL (lL r172.lt (lT (lT m232.size m233.size) m234.size)) lR)) nN)).ext m240), (r179.ext m240), (lT (lT md4.size m208.size) ge57), (lT (lT md4.size m208.size) ge58), (lT (lT (lT (lT (lT (lT md4.size m208.size) m209.size) m230.size) m231.size) m232.size) ge61), (lT (lT (lT (lT (lT (lT md4.size m208.size) m209.size) m230.size) m231.size) m232.size) ge62), (lT (lT (lT (lT md4.size m208.size) m209.size) m230.size) lR), (lT (lT (lT (lT (lT (lT (lT (lT md4.size m208.size) m209.size) m230.size) m231.size) m232.size) m233.size) m234.size) lR), ne45, (lE (lL (lL r156.lt (lT (lT m230.size m231.size) m232.size)) ge61)), (lE (lL (lL r156.lt (lT (lT m230.size m231.size) m232.size)) ge62)), (lE (lL (lL r156.lt m230.size) lR)), (lE (lL (lL r156.lt (lT (lT (lT (lT m230.size m231.size) m232.size) m233.size) m234.size)) lR)), (lE (lL (lL r157.lt (lT (lT m230.size m231.size) m232.size)) ge61)), (lE (lL (lL r157.lt (lT (lT m230.size m231.size) m232.size)) ge62)), (lE (lL (lL r157.lt m230.size) lR)), (lE (lL (lL r157.lt (lT (lT (lT (lT m230.size m231.size) m232.size) m233.size) m234.size)) lR)), ne47, (lG (lL (lL r172.lt m232.size) ge61)), (lE (lL (lL r173.lt m234.size) lR)), (lG (lL (lL r172.lt m232.size) ge62)), (lE (lL (lL r174.lt m234.size) lR)), (lE (lL (lL r172.lt (lT (lT m232.size m233.size) m234.size)) lR)), h52, h53, h54, (((((((((((((((Mod.refl [] w210).nt md4).nt m208).nt m209).nt m230).nt m231).nt m232).nt m233).nt m234).nt m235).nt m236).then m237 ((aC (.inr (lT (lT (lT (lT md4.size m208.size) m209.size) m230.size) lR)) aN))).nt m238).then m239 ((aC (.inr (lT (lT (lT (lT (lT (lT (lT (lT md4.size m208.size) m209.size) m230.size) m231.size) m232.size) m233.size) m234.size) lR)) aN))).nt m240)⟩
            · refine DP.op (i := 10) rfl rfl (.free rfl) rfl (ltb rfl) ?_
              intro w245 m241
              refine Op1.mono (op_alloc (cs := fl (List.replicate 16 0)) Try.zeroValue82 rfl) ?_
              rintro _ w246 ⟨rfl, r180, m242, z81⟩
              refine ⟨(((((((Mod.refl [] w211).nt m208).nt m209).nt m230).nt m231).nt m241).nt m242), ?_⟩
              refine DR.one (i := 4) rfl rfl (by kernel_rfl) (.free rfl) rfl (ltb rfl) (vs := [.func (.func 53) #[] #[], .agg #[vS bNr'8 0 nNr nNr, vI ((i : Nat) : Int), vS bBr'8 0 nBr nBr, vI ((h : Nat) : Int), vI Dk, vF Dc0, vF Dc1, vF Dc2, vF Ds0, vF Ds1, vF sl, vF lo], .agg (fl bs).toArray]) rfl ?_
              intro w247 m243
              refine ⟨oc_call (vs := [.agg #[vS bNr'8 0 nNr nNr, vI ((i : Nat) : Int), vS bBr'8 0 nBr nBr, vI ((h : Nat) : Int), vI Dk, vF Dc0, vF Dc1, vF Dc2, vF Ds0, vF Ds1, vF sl, vF lo], .agg (fl bs).toArray]) (cap := []) rfl rfl rfl Try.call53 (c_iBlockBow nNr nNr bNr'8 xNr nBr nBr bBr'8 xBr i h Dk Dc0 Dc1 Dc2 Ds0 Ds1 sl lo bs z ou lnNr lnBr (by omega) (by omega) (by omega) (by omega) (by first | assumption | exact W32.set (by assumption) (by first | assumption | exact wid_lt (by assumption)) | exact W32.zeros _ | exact W32.nil) (by first | assumption | exact W32.set (by assumption) (by first | assumption | exact wid_lt (by assumption)) | exact W32.zeros _ | exact W32.nil) (by first | assumption | exact W32.get (by assumption) _ | decide +kernel) (by first | assumption | exact W32.get (by assumption) _ | decide +kernel) lb (by first | assumption | exact W32.set (by assumption) (by first | assumption | exact wid_lt (by assumption)) | exact W32.zeros _ | exact W32.nil) (by assumption) (by assumption) (by assumption) w247 (((((r156.ext m230).ext m231).ext m241).ext m242).ext m243).rng (((((r157.ext m230).ext m231).ext m241).ext m242).ext m243).rng), ?_⟩
              rintro _ w248 ⟨b'19, c'19, d'19, c2'19, rfl, h55, h56, h57, r181, r182, ge63, ge64, ne48, m244⟩
              refine ⟨(((((((((Mod.refl [] w211).nt m208).nt m209).nt m230).nt m231).nt m241).nt m242).nt m243).nt m244), ?_⟩
              refine DR.det (i := 5) rfl rfl (by kernel_rfl) (.free rfl) rfl rfl (fun wD mD => op_move rfl) ?_
              refine DR.det (i := 6) rfl rfl (by kernel_rfl) (.free rfl) rfl rfl (fun wD mD => op_extract rfl rfl) ?_
              refine DR.det (i := 7) rfl rfl (by kernel_rfl) (.free rfl) rfl rfl (fun wD mD => op_extract rfl rfl) ?_
              refine DR.det (i := 8) rfl rfl (by kernel_rfl) (.free rfl) rfl rfl (fun wD mD => op_extract rfl rfl) ?_
              refine DR.st1 (i := 11) rfl rfl (by kernel_rfl) (.free rfl) rfl ?_
              intro w249 m245
              refine Op1.mono (op_store (i := 0) (cs := [vS b'19 0 nNr c'19, vI ((z.i : Nat) : Int), vS d'19 0 nBr c2'19, vI ((z.h : Nat) : Int), vI Dk, vF Dc0, vF Dc1, vF Dc2, vF z.s0, vF z.s1, vF sl, vF lo]) rfl rfl rfl Try.sizeOf36 rfl (((((r172.ext m241).ext m242).ext m243).ext m244).ext m245) rfl (lB rfl) rfl) ?_
              rintro _ w250 ⟨r183, m246, z82⟩
              have r184 : Row w250 w234.heap.size 0 [vS b'19 0 nNr c'19, vI ((z.i : Nat) : Int), vS d'19 0 nBr c2'19, vI ((z.h : Nat) : Int), vI Dk, vF Dc0, vF Dc1, vF Dc2, vF z.s0, vF z.s1, vF sl, vF lo] := Row.congr r183 rfl
              refine ⟨(((((((((((Mod.refl [] w211).nt m208).nt m209).nt m230).nt m231).nt m241).nt m242).nt m243).nt m244).nt m245).then m246 ((aC (.inr (lT (lT (lT m208.size m209.size) m230.size) lR)) aN))), ?_⟩
              refine DR.st1 (i := 12) rfl rfl (by kernel_rfl) (.free rfl) rfl ?_
              intro w251 m247
              refine Op1.mono (op_store (i := 0) (cs := fl ou) rfl rfl rfl Try.sizeOf82 (fl_len h57) (((((r180.ext m243).ext m244).ext m245).mod m246 (nC (lG (lL (lL r172.lt m241.size) lR)) nN)).ext m247) rfl (by rw [fl_length, List.length_replicate]; decide) (fl_one _)) ?_
              rintro _ w252 ⟨r185, m248, z83⟩
              have r186 : Row w252 w245.heap.size 0 (fl ou) := Row.congr r185 (splice_all ((fl_len (List.length_replicate)).trans (fl_len (h57)).symm))
              refine ⟨(((((((((((((Mod.refl [] w211).nt m208).nt m209).nt m230).nt m231).nt m241).nt m242).nt m243).nt m244).nt m245).then m246 ((aC (.inr (lT (lT (lT m208.size m209.size) m230.size) lR)) aN))).nt m247).then m248 ((aC (.inr (lT (lT (lT (lT (lT m208.size m209.size) m230.size) m231.size) m241.size) lR)) aN))), ?_⟩
              refine DR.sub [(4, .bool false), (6, vP e1_9_0 0), (7, vP e1_10_0 0), (8, vI 0), (10, vP e2_8_0 0), (14, vI ((1 + nNr + nBr : Nat) : Int)), (15, vI ((1 + nNr + nBr : Nat) : Int)), (16, vP w234.heap.size 0), (17, vP w245.heap.size 0), (104, vI 0)] ⟨rfl, rfl, rfl, rfl, rfl, rfl, rfl, rfl, rfl, rfl, trivial⟩ ?_
              refine DR.meet rfl ?_
              intro w253 m249
              exact ⟨bNr'8, bBr'8, b'19, c'19, d'19, c2'19, w234.heap.size, w245.heap.size, rfl, (((((((((((r156.ext m230).ext m231).ext m241).ext m242).ext m243).ext m244).ext m245).mod m246 (nC (lE (lL (lL r156.lt m230.size) lR)) nN)).ext m247).mod m248 (nC (lE (lL (lL r156.lt (lT (lT m230.size m231.size) m241.size)) lR)) nN)).ext m249), (((((((((((r157.ext m230).ext m231).ext m241).ext m242).ext m243).ext m244).ext m245).mod m246 (nC (lE (lL (lL r157.lt m230.size) lR)) nN)).ext m247).mod m248 (nC (lE (lL (lL r157.lt (lT (lT m230.size m231.size) m241.size)) lR)) nN)).ext m249), (((((r181.ext m245).mod m246 (nC (lG (lL (lL r172.lt (lT (lT m241.size m242.size) m243.size)) ge63)) nN)).ext m247).mod m248 (nC (lG (lL (lL r180.lt m243.size) ge63)) nN)).ext m249), (((((r182.ext m245).mod m246 (nC (lG (lL (lL r172.lt (lT (lT m241.size m242.size) m243.size)) ge64)) nN)).ext m247).mod m248 (nC (lG (lL (lL r180.lt m243.size) ge64)) nN)).ext m249), (((r184.ext m247).mod m248 (nC (lE (lL (lL r172.lt m241.size) lR)) nN)).ext m249), (r186.ext m249), (lT (lT md4.size m208.size) ge57), (lT (lT md4.size m208.size) ge58), (lT (lT (lT (lT (lT (lT (lT (lT md4.size m208.size) m209.size) m230.size) m231.size) m241.size) m242.size) m243.size) ge63), (lT (lT (lT (lT (lT (lT (lT (lT md4.size m208.size) m209.size) m230.size) m231.size) m241.size) m242.size) m243.size) ge64), (lT (lT (lT (lT md4.size m208.size) m209.size) m230.size) lR), (lT (lT (lT (lT (lT (lT md4.size m208.size) m209.size) m230.size) m231.size) m241.size) lR), ne45, (lE (lL (lL r156.lt (lT (lT (lT (lT m230.size m231.size) m241.size) m242.size) m243.size)) ge63)), (lE (lL (lL r156.lt (lT (lT (lT (lT m230.size m231.size) m241.size) m242.size) m243.size)) ge64)), (lE (lL (lL r156.lt m230.size) lR)), (lE (lL (lL r156.lt (lT (lT m230.size m231.size) m241.size)) lR)), (lE (lL (lL r157.lt (lT (lT (lT (lT m230.size m231.size) m241.size) m242.size) m243.size)) ge63)), (lE (lL (lL r157.lt (lT (lT (lT (lT m230.size m231.size) m241.size) m242.size) m243.size)) ge64)), (lE (lL (lL r157.lt m230.size) lR)), (lE (lL (lL r157.lt (lT (lT m230.size m231.size) m241.size)) lR)), ne48, (lG (lL (lL r172.lt (lT (lT m241.size m242.size) m243.size)) ge63)), (lG (lL (lL r180.lt m243.size) ge63)), (lG (lL (lL r172.lt (lT (lT m241.size m242.size) m243.size)) ge64)), (lG (lL (lL r180.lt m243.size) ge64)), (lE (lL (lL r172.lt m241.size) lR)), h55, h56, h57, (((((((((((((((Mod.refl [] w210).nt md4).nt m208).nt m209).nt m230).nt m231).nt m241).nt m242).nt m243).nt m244).nt m245).then m246 ((aC (.inr (lT (lT (lT (lT md4.size m208.size) m209.size) m230.size) lR)) aN))).nt m247).then m248 ((aC (.inr (lT (lT (lT (lT (lT (lT md4.size m208.size) m209.size) m230.size) m231.size) m241.size) lR)) aN))).nt m249)⟩
          · refine DP.op (i := 10) rfl rfl (.free rfl) rfl (ltb rfl) ?_
            intro w254 m250
            refine Op1.mono (op_alloc (cs := fl (List.replicate 16 0)) Try.zeroValue82 rfl) ?_
            rintro _ w255 ⟨rfl, r187, m251, z84⟩
            refine ⟨(((((Mod.refl [] w211).nt m208).nt m209).nt m250).nt m251), ?_⟩
            refine DR.fork (is := [4, 9]) (by kernel_rfl) (by decide) (all2 ?_ ?_)
            · refine DP.call (i := 4) rfl rfl (.free rfl) rfl (ltb rfl) (vs := [.func (.func 53) #[] #[], .agg #[vS bNr'8 0 nNr nNr, vI ((i : Nat) : Int), vS bBr'8 0 nBr nBr, vI ((h : Nat) : Int), vI Dk, vF Dc0, vF Dc1, vF Dc2, vF Ds0, vF Ds1, vF sl, vF lo], .agg (fl bs).toArray]) rfl ?_
              intro w256 m252
              refine ⟨oc_call (vs := [.agg #[vS bNr'8 0 nNr nNr, vI ((i : Nat) : Int), vS bBr'8 0 nBr nBr, vI ((h : Nat) : Int), vI Dk, vF Dc0, vF Dc1, vF Dc2, vF Ds0, vF Ds1, vF sl, vF lo], .agg (fl bs).toArray]) (cap := []) rfl rfl rfl Try.call53 (c_iBlockBow nNr nNr bNr'8 xNr nBr nBr bBr'8 xBr i h Dk Dc0 Dc1 Dc2 Ds0 Ds1 sl lo bs z ou lnNr lnBr (by omega) (by omega) (by omega) (by omega) (by first | assumption | exact W32.set (by assumption) (by first | assumption | exact wid_lt (by assumption)) | exact W32.zeros _ | exact W32.nil) (by first | assumption | exact W32.set (by assumption) (by first | assumption | exact wid_lt (by assumption)) | exact W32.zeros _ | exact W32.nil) (by first | assumption | exact W32.get (by assumption) _ | decide +kernel) (by first | assumption | exact W32.get (by assumption) _ | decide +kernel) lb (by first | assumption | exact W32.set (by assumption) (by first | assumption | exact wid_lt (by assumption)) | exact W32.zeros _ | exact W32.nil) (by assumption) (by assumption) (by assumption) w256 (((r156.ext m250).ext m251).ext m252).rng (((r157.ext m250).ext m251).ext m252).rng), ?_⟩
              rintro _ w257 ⟨b'20, c'20, d'20, c2'20, rfl, h58, h59, h60, r188, r189, ge65, ge66, ne49, m253⟩
              refine ⟨(((((((Mod.refl [] w211).nt m208).nt m209).nt m250).nt m251).nt m252).nt m253), ?_⟩
              refine DR.det (i := 5) rfl rfl (by kernel_rfl) (.free rfl) rfl rfl (fun wD mD => op_move rfl) ?_
              refine DR.det (i := 6) rfl rfl (by kernel_rfl) (.free rfl) rfl rfl (fun wD mD => op_extract rfl rfl) ?_
              refine DR.det (i := 7) rfl rfl (by kernel_rfl) (.free rfl) rfl rfl (fun wD mD => op_extract rfl rfl) ?_
              refine DR.det (i := 8) rfl rfl (by kernel_rfl) (.free rfl) rfl rfl (fun wD mD => op_extract rfl rfl) ?_
              refine DR.one1 (i := 9) rfl rfl (by kernel_rfl) (.free rfl) rfl (ltb rfl) ?_
              intro w258 m254
              refine Op1.mono (op_alloc (cs := [.slice none 0 0, vI 0, .slice none 0 0, vI 0, vI 0, vF 0, vF 0, vF 0, vF 0, vF 0, vF 0, vF 0]) Try.zeroValue36 rfl) ?_
              rintro _ w259 ⟨rfl, r190, m255, z85⟩
              refine ⟨(((((((((Mod.refl [] w211).nt m208).nt m209).nt m250).nt m251).nt m252).nt m253).nt m254).nt m255), ?_⟩
              refine DR.st1 (i := 11) rfl rfl (by kernel_rfl) (.free rfl) rfl ?_
              intro w260 m256
              refine Op1.mono (op_store (i := 0) (cs := [vS b'20 0 nNr c'20, vI ((z.i : Nat) : Int), vS d'20 0 nBr c2'20, vI ((z.h : Nat) : Int), vI Dk, vF Dc0, vF Dc1, vF Dc2, vF z.s0, vF z.s1, vF sl, vF lo]) rfl rfl rfl Try.sizeOf36 rfl (r190.ext m256) rfl (lB rfl) rfl) ?_
              rintro _ w261 ⟨r191, m257, z86⟩
              have r192 : Row w261 w258.heap.size 0 [vS b'20 0 nNr c'20, vI ((z.i : Nat) : Int), vS d'20 0 nBr c2'20, vI ((z.h : Nat) : Int), vI Dk, vF Dc0, vF Dc1, vF Dc2, vF z.s0, vF z.s1, vF sl, vF lo] := Row.congr r191 rfl
              refine ⟨(((((((((((Mod.refl [] w211).nt m208).nt m209).nt m250).nt m251).nt m252).nt m253).nt m254).nt m255).nt m256).then m257 ((aC (.inr (lT (lT (lT (lT (lT (lT (lT m208.size m209.size) m250.size) m251.size) m252.size) m253.size) m254.size) lR)) aN))), ?_⟩
              refine DR.st1 (i := 12) rfl rfl (by kernel_rfl) (.free rfl) rfl ?_
              intro w262 m258
              refine Op1.mono (op_store (i := 0) (cs := fl ou) rfl rfl rfl Try.sizeOf82 (fl_len h60) (((((((r187.ext m252).ext m253).ext m254).ext m255).ext m256).mod m257 (nC (lE (lL (lL r187.lt (lT (lT m252.size m253.size) m254.size)) lR)) nN)).ext m258) rfl (by rw [fl_length, List.length_replicate]; decide) (fl_one _)) ?_
              rintro _ w263 ⟨r193, m259, z87⟩
              have r194 : Row w263 w254.heap.size 0 (fl ou) := Row.congr r193 (splice_all ((fl_len (List.length_replicate)).trans (fl_len (h60)).symm))
              refine ⟨(((((((((((((Mod.refl [] w211).nt m208).nt m209).nt m250).nt m251).nt m252).nt m253).nt m254).nt m255).nt m256).then m257 ((aC (.inr (lT (lT (lT (lT (lT (lT (lT m208.size m209.size) m250.size) m251.size) m252.size) m253.size) m254.size) lR)) aN))).nt m258).then m259 ((aC (.inr (lT (lT (lT m208.size m209.size) m250.size) lR)) aN))), ?_⟩
              refine DR.sub [(4, .bool false), (6, vP e1_9_0 0), (7, vP e1_10_0 0), (8, vI 0), (10, vP e2_8_0 0), (14, vI ((1 + nNr + nBr : Nat) : Int)), (15, vI ((1 + nNr + nBr : Nat) : Int)), (16, vP w258.heap.size 0), (17, vP w254.heap.size 0), (104, vI 0)] ⟨rfl, rfl, rfl, rfl, rfl, rfl, rfl, rfl, rfl, rfl, trivial⟩ ?_
              refine DR.meet rfl ?_
              intro w264 m260
              exact ⟨bNr'8, bBr'8, b'20, c'20, d'20, c2'20, w258.heap.size, w254.heap.size, rfl, (((((((((((r156.ext m250).ext m251).ext m252).ext m253).ext m254).ext m255).ext m256).mod m257 (nC (lE (lL (lL r156.lt (lT (lT (lT (lT m250.size m251.size) m252.size) m253.size) m254.size)) lR)) nN)).ext m258).mod m259 (nC (lE (lL (lL r156.lt m250.size) lR)) nN)).ext m260), (((((((((((r157.ext m250).ext m251).ext m252).ext m253).ext m254).ext m255).ext m256).mod m257 (nC (lE (lL (lL r157.lt (lT (lT (lT (lT m250.size m251.size) m252.size) m253.size) m254.size)) lR)) nN)).ext m258).mod m259 (nC (lE (lL (lL r157.lt m250.size) lR)) nN)).ext m260), (((((((r188.ext m254).ext m255).ext m256).mod m257 (nC (lE (lL (lL r188.lt m254.size) lR)) nN)).ext m258).mod m259 (nC (lG (lL (lL r187.lt m252.size) ge65)) nN)).ext m260), (((((((r189.ext m254).ext m255).ext m256).mod m257 (nC (lE (lL (lL r189.lt m254.size) lR)) nN)).ext m258).mod m259 (nC (lG (lL (lL r187.lt m252.size) ge66)) nN)).ext m260), (((r192.ext m258).mod m259 (nC (lG (lL (lL r187.lt (lT (lT m252.size m253.size) m254.size)) lR)) nN)).ext m260), (r194.ext m260), (lT (lT md4.size m208.size) ge57), (lT (lT md4.size m208.size) ge58), (lT (lT (lT (lT (lT (lT md4.size m208.size) m209.size) m250.size) m251.size) m252.size) ge65), (lT (lT (lT (lT (lT (lT md4.size m208.size) m209.size) m250.size) m251.size) m252.size) ge66), (lT (lT (lT (lT (lT (lT (lT (lT md4.size m208.size) m209.size) m250.size) m251.size) m252.size) m253.size) m254.size) lR), (lT (lT (lT (lT md4.size m208.size) m209.size) m250.size) lR), ne45, (lE (lL (lL r156.lt (lT (lT m250.size m251.size) m252.size)) ge65)), (lE (lL (lL r156.lt (lT (lT m250.size m251.size) m252.size)) ge66)), (lE (lL (lL r156.lt (lT (lT (lT (lT m250.size m251.size) m252.size) m253.size) m254.size)) lR)), (lE (lL (lL r156.lt m250.size) lR)), (lE (lL (lL r157.lt (lT (lT m250.size m251.size) m252.size)) ge65)), (lE (lL (lL r157.lt (lT (lT m250.size m251.size) m252.size)) ge66)), (lE (lL (lL r157.lt (lT (lT (lT (lT m250.size m251.size) m252.size) m253.size) m254.size)) lR)), (lE (lL (lL r157.lt m250.size) lR)), ne49, (lE (lL (lL r188.lt m254.size) lR)), (lG (lL (lL r187.lt m252.size) ge65)), (lE (lL (lL r189.lt m254.size) lR)), (lG (lL (lL r187.lt m252.size) ge66)), (lG (lL (lL r187.lt (lT (lT m252.size m253.size) m254.size)) lR)), h58, h59, h60, (((((((((((((((Mod.refl [] w210).nt md4).nt m208).nt m209).nt m250).nt m251).nt m252).nt m253).nt m254).nt m255).nt m256).then m257 ((aC (.inr (lT (lT (lT (lT (lT (lT (lT (lT md4.size m208.size) m209.size) m250.size) m251.size) m252.size) m253.size) m254.size) lR)) aN))).nt m258).then m259 ((aC (.inr (lT (lT (lT (lT md4.size m208.size) m209.size) m250.size) lR)) aN))).nt m260)⟩
            · refine DP.op (i := 9) rfl rfl (.free rfl) rfl (ltb rfl) ?_
              intro w265 m261
              refine Op1.mono (op_alloc (cs := [.slice none 0 0, vI 0, .slice none 0 0, vI 0, vI 0, vF 0, vF 0, vF 0, vF 0, vF 0, vF 0, vF 0]) Try.zeroValue36 rfl) ?_
              rintro _ w266 ⟨rfl, r195, m262, z88⟩
              refine ⟨(((((((Mod.refl [] w211).nt m208).nt m209).nt m250).nt m251).nt m261).nt m262), ?_⟩
              refine DR.one (i := 4) rfl rfl (by kernel_rfl) (.free rfl) rfl (ltb rfl) (vs := [.func (.func 53) #[] #[], .agg #[vS bNr'8 0 nNr nNr, vI ((i : Nat) : Int), vS bBr'8 0 nBr nBr, vI ((h : Nat) : Int), vI Dk, vF Dc0, vF Dc1, vF Dc2, vF Ds0, vF Ds1, vF sl, vF lo], .agg (fl bs).toArray]) rfl ?_
              intro w267 m263
              refine ⟨oc_call (vs := [.agg #[vS bNr'8 0 nNr nNr, vI ((i : Nat) : Int), vS bBr'8 0 nBr nBr, vI ((h : Nat) : Int), vI Dk, vF Dc0, vF Dc1, vF Dc2, vF Ds0, vF Ds1, vF sl, vF lo], .agg (fl bs).toArray]) (cap := []) rfl rfl rfl Try.call53 (c_iBlockBow nNr nNr bNr'8 xNr nBr nBr bBr'8 xBr i h Dk Dc0 Dc1 Dc2 Ds0 Ds1 sl lo bs z ou lnNr lnBr (by omega) (by omega) (by omega) (by omega) (by first | assumption | exact W32.set (by assumption) (by first | assumption | exact wid_lt (by assumption)) | exact W32.zeros _ | exact W32.nil) (by first | assumption | exact W32.set (by assumption) (by first | assumption | exact wid_lt (by assumption)) | exact W32.zeros _ | exact W32.nil) (by first | assumption | exact W32.get (by assumption) _ | decide +kernel) (by first | assumption | exact W32.get (by assumption) _ | decide +kernel) lb (by first | assumption | exact W32.set (by assumption) (by first | assumption | exact wid_lt (by assumption)) | exact W32.zeros _ | exact W32.nil) (by assumption) (by assumption) (by assumption) w267 (((((r156.ext m250).ext m251).ext m261).ext m262).ext m263).rng (((((r157.ext m250).ext m251).ext m261).ext m262).ext m263).rng), ?_⟩
              rintro _ w268 ⟨b'21, c'21, d'21, c2'21, rfl, h61, h62, h63, r196, r197, ge67, ge68, ne50, m264⟩
              refine ⟨(((((((((Mod.refl [] w211).nt m208).nt m209).nt m250).nt m251).nt m261).nt m262).nt m263).nt m264), ?_⟩
              refine DR.det (i := 5) rfl rfl (by kernel_rfl) (.free rfl) rfl rfl (fun wD mD => op_move rfl) ?_
              refine DR.det (i := 6) rfl rfl (by kernel_rfl) (.free rfl) rfl rfl (fun wD mD => op_extract rfl rfl) ?_
              refine DR.det (i := 7) rfl rfl (by kernel_rfl) (.free rfl) rfl rfl (fun wD mD => op_extract rfl rfl) ?_
              refine DR.det (i := 8) rfl rfl (by kernel_rfl) (.free rfl) rfl rfl (fun wD mD => op_extract rfl rfl) ?_
              refine DR.st1 (i := 11) rfl rfl (by kernel_rfl) (.free rfl) rfl ?_
              intro w269 m265
              refine Op1.mono (op_store (i := 0) (cs := [vS b'21 0 nNr c'21, vI ((z.i : Nat) : Int), vS d'21 0 nBr c2'21, vI ((z.h : Nat) : Int), vI Dk, vF Dc0, vF Dc1, vF Dc2, vF z.s0, vF z.s1, vF sl, vF lo]) rfl rfl rfl Try.sizeOf36 rfl (((r195.ext m263).ext m264).ext m265) rfl (lB rfl) rfl) ?_
              rintro _ w270 ⟨r198, m266, z89⟩
              have r199 : Row w270 w265.heap.size 0 [vS b'21 0 nNr c'21, vI ((z.i : Nat) : Int), vS d'21 0 nBr c2'21, vI ((z.h : Nat) : Int), vI Dk, vF Dc0, vF Dc1, vF Dc2, vF z.s0, vF z.s1, vF sl, vF lo] := Row.congr r198 rfl
              refine ⟨(((((((((((Mod.refl [] w211).nt m208).nt m209).nt m250).nt m251).nt m261).nt m262).nt m263).nt m264).nt m265).then m266 ((aC (.inr (lT (lT (lT (lT (lT m208.size m209.size) m250.size) m251.size) m261.size) lR)) aN))), ?_⟩
              refine DR.st1 (i := 12) rfl rfl (by kernel_rfl) (.free rfl) rfl ?_
              intro w271 m267
              refine Op1.mono (op_store (i := 0) (cs := fl ou) rfl rfl rfl Try.sizeOf82 (fl_len h63) (((((((r187.ext m261).ext m262).ext m263).ext m264).ext m265).mod m266 (nC (lE (lL (lL r187.lt m261.size) lR)) nN)).ext m267) rfl (by rw [fl_length, List.length_replicate]; decide) (fl_one _)) ?_
              rintro _ w272 ⟨r200, m268, z90⟩
              have r201 : Row w272 w254.heap.size 0 (fl ou) := Row.congr r200 (splice_all ((fl_len (List.length_replicate)).trans (fl_len (h63)).symm))
              refine ⟨(((((((((((((Mod.refl [] w211).nt m208).nt m209).nt m250).nt m251).nt m261).nt m262).nt m263).nt m264).nt m265).then m266 ((aC (.inr (lT (lT (lT (lT (lT m208.size m209.size) m250.size) m251.size) m261.size) lR)) aN))).nt m267).then m268 ((aC (.inr (lT (lT (lT m208.size m209.size) m250.size) lR)) aN))), ?_⟩
              refine DR.sub [(4, .bool false), (6, vP e1_9_0 0), (7, vP e1_10_0 0), (8, vI 0), (10, vP e2_8_0 0), (14, vI ((1 + nNr + nBr : Nat) : Int)), (15, vI ((1 + nNr + nBr : Nat) : Int)), (16, vP w265.heap.size 0), (17, vP w254.heap.size 0), (104, vI 0)] ⟨rfl, rfl, rfl, rfl, rfl, rfl, rfl, rfl, rfl, rfl, trivial⟩ ?_
              refine DR.meet rfl ?_
              intro w273 m269
              exact ⟨bNr'8, bBr'8, b'21, c'21, d'21, c2'21, w265.heap.size, w254.heap.size, rfl, (((((((((((r156.ext m250).ext m251).ext m261).ext m262).ext m263).ext m264).ext m265).mod m266 (nC (lE (lL (lL r156.lt (lT (lT m250.size m251.size) m261.size)) lR)) nN)).ext m267).mod m268 (nC (lE (lL (lL r156.lt m250.size) lR)) nN)).ext m269), (((((((((((r157.ext m250).ext m251).ext m261).ext m262).ext m263).ext m264).ext m265).mod m266 (nC (lE (lL (lL r157.lt (lT (lT m250.size m251.size) m261.size)) lR)) nN)).ext m267).mod m268 (nC (lE (lL (lL r157.lt m250.size) lR)) nN)).ext m269), (((((r196.ext m265).mod m266 (nC (lG (lL (lL r195.lt m263.size) ge67)) nN)).ext m267).mod m268 (nC (lG (lL (lL r187.lt (lT (lT m261.size m262.size) m263.size)) ge67)) nN)).ext m269), (((((r197.ext m265).mod m266 (nC (lG (lL (lL r195.lt m263.size) ge68)) nN)).ext m267).mod m268 (nC (lG (lL (lL r187.lt (lT (lT m261.size m262.size) m263.size)) ge68)) nN)).ext m269), (((r199.ext m267).mod m268 (nC (lG (lL (lL r187.lt m261.size) lR)) nN)).ext m269), (r201.ext m269), (lT (lT md4.size m208.size) ge57), (lT (lT md4.size m208.size) ge58), (lT (lT (lT (lT (lT (lT (lT (lT md4.size m208.size) m209.size) m250.size) m251.size) m261.size) m262.size) m263.size) ge67), (lT (lT (lT (lT (lT (lT (lT (lT md4.size m208.size) m209.size) m250.size) m251.size) m261.size) m262.size) m263.size) ge68), (lT (lT (lT (lT (lT (lT md4.size m208.size) m209.size) m250.size) m251.size) m261.size) lR), (lT (lT (lT (lT md4.size m208.size) m209.size) m250.size) lR), ne45, (lE (lL (lL r156.lt (lT (lT (lT (lT m250.size m251.size) m261.size) m262.size) m263.size)) ge67)), (lE (lL (lL r156.lt (lT (lT (lT (lT m250.size m251.size) m261.size) m262.size) m263.size)) ge68)), (lE (lL (lL r156.lt (lT (lT m250.size m251.size) m261.size)) lR)), (lE (lL (lL r156.lt m250.size) lR)), (lE (lL (lL r157.lt (lT (lT (lT (lT m250.size m251.size) m261.size) m262.size) m263.size)) ge67)), (lE (lL (lL r157.lt (lT (lT (lT (lT m250.size m251.size) m261.size) m262.size) m263.size)) ge68)), (lE (lL (lL r157.lt (lT (lT m250.size m251.size) m261.size)) lR)), (lE (lL (lL r157.lt m250.size) lR)), ne50, (lG (lL (lL r195.lt m263.size) ge67)), (lG (lL (lL r187.lt (lT (lT m261.size m262.size) m263.size)) ge67)), (lG (lL (lL r195.lt m263.size) ge68)), (lG (lL (lL r187.lt (lT (lT m261.size m262.size) m263.size)) ge68)), (lG (lL (lL r187.lt m261.size) lR)), h61, h62, h63, (((((((((((((((Mod.refl [] w210).nt md4).nt m208).nt m209).nt m250).nt m251).nt m261).nt m262).nt m263).nt m264).nt m265).then m266 ((aC (.inr (lT (lT (lT (lT (lT (lT md4.size m208.size) m209.size) m250.size) m251.size) m261.size) lR)) aN))).nt m267).then m268 ((aC (.inr (lT (lT (lT (lT md4.size m208.size) m209.size) m250.size) lR)) aN))).nt m269)⟩
        · refine DP.op (i := 9) rfl rfl (.free rfl) rfl (ltb rfl) ?_
          intro w274 m270
          refine Op1.mono (op_alloc (cs := [.slice none 0 0, vI 0, .slice none 0 0, vI 0, vI 0, vF 0, vF 0, vF 0, vF 0, vF 0, vF 0, vF 0]) Try.zeroValue36 rfl) ?_
          rintro _ w275 ⟨rfl, r202, m271, z91⟩
          refine ⟨(((Mod.refl [] w211).nt m270).nt m271), ?_⟩
          refine DR.fork (is := [1, 10]) (by kernel_rfl) (by decide) (all2 ?_ ?_)
          · refine DP.call (i := 1) rfl rfl (.free rfl) rfl (ltb rfl) (vs := [.func (.func 14) #[] #[], .agg #[.slice ANr nNr cNr, vI ((i : Nat) : Int), .slice ABr nBr cBr, vI ((h : Nat) : Int), vI Dk, vF Dc0, vF Dc1, vF Dc2, vF Ds0, vF Ds1, vF sl, vF lo]]) rfl ?_
            intro w276 m272
            refine ⟨oc_call (vs := [.agg #[.slice ANr nNr cNr, vI ((i : Nat) : Int), .slice ABr nBr cBr, vI ((h : Nat) : Int), vI Dk, vF Dc0, vF Dc1, vF Dc2, vF Ds0, vF Ds1, vF sl, vF lo]]) (cap := []) rfl rfl rfl Try.call14 (c_toBow nNr cNr ANr bNr oNr xNr ((i : Nat) : Int) nBr cBr ABr bBr oBr xBr ((h : Nat) : Int) Dk Dc0 Dc1 Dc2 Ds0 Ds1 sl lo lnNr hANr lnBr hABr (by omega) (by omega) w276 ((((((Rng.youngS rNr (((Rng.youngS rNr (((((((((Rng.youngS rNr ((((((rNr.ext m1).ext m2).ext m3).ext m132).ext m133).ext m134) m135 (allge_cons (lT (lT (lT (lT (lT m1.size m2.size) m3.size) m132.size) m133.size) lR) allge_nil)).ext m196).ext m197).ext m198).ext md3).ext m199).ext m200).ext m201).ext m202) m203 (allge_cons (lT (lT (lT (lT m1.size m2.size) m3.size) m132.size) ge39) (allge_cons (lT (lT (lT (lT m1.size m2.size) m3.size) m132.size) ge40) allge_nil))).ext m204).ext m205) m206 (allge_cons (lT (lT (lT (lT (lT (lT (lT m1.size m2.size) m3.size) m132.size) m133.size) m134.size) m135.size) ge51) (allge_cons (lT (lT (lT (lT (lT (lT (lT m1.size m2.size) m3.size) m132.size) m133.size) m134.size) m135.size) ge52) allge_nil))).ext m207).ext md4).ext m270).ext m271).ext m272) ((((((Rng.youngS rBr (((Rng.youngS rBr (((((((((Rng.youngS rBr ((((((rBr.ext m1).ext m2).ext m3).ext m132).ext m133).ext m134) m135 (allge_cons (lT (lT (lT (lT (lT m1.size m2.size) m3.size) m132.size) m133.size) lR) allge_nil)).ext m196).ext m197).ext m198).ext md3).ext m199).ext m200).ext m201).ext m202) m203 (allge_cons (lT (lT (lT (lT m1.size m2.size) m3.size) m132.size) ge39) (allge_cons (lT (lT (lT (lT m1.size m2.size) m3.size) m132.size) ge40) allge_nil))).ext m204).ext m205) m206 (allge_cons (lT (lT (lT (lT (lT (lT (lT m1.size m2.size) m3.size) m132.size) m133.size) m134.size) m135.size) ge51) (allge_cons (lT (lT (lT (lT (lT (lT (lT m1.size m2.size) m3.size) m132.size) m133.size) m134.size) m135.size) ge52) allge_nil))).ext m207).ext md4).ext m270).ext m271).ext m272)), ?_⟩
            rintro _ w277 ⟨bNr'9, bBr'9, rfl, r203, r204, ge69, ge70, ne51, m273⟩
            refine ⟨(((((Mod.refl [] w211).nt m270).nt m271).nt m272).nt m273), ?_⟩
            refine DR.call (i := 3) (fun uA => uA = .agg (fl bs).toArray) rfl rfl (by kernel_rfl) (.free rfl) rfl (ltb rfl) ⟨_, rfl⟩ (vs := [.func (.func 49) #[] #[], .agg (fl bs).toArray]) rfl (fun wD mD => oc_call (vs := [.agg (fl bs).toArray]) (cap := []) rfl rfl rfl Try.call49 (c_toBlock bs lb wD)) ?_ ?_
            · rintro w1 _ w2 m1 ⟨rfl, m2⟩; exact ⟨rfl, m2⟩
            rintro _ rfl
            refine DR.fork (is := [4, 10]) (by kernel_rfl) (by decide) (all2 ?_ ?_)
            · refine DP.call (i := 4) rfl rfl (.free rfl) rfl (ltb rfl) (vs := [.func (.func 53) #[] #[], .agg #[vS bNr'9 0 nNr nNr, vI ((i : Nat) : Int), vS bBr'9 0 nBr nBr, vI ((h : Nat) : Int), vI Dk, vF Dc0, vF Dc1, vF Dc2, vF Ds0, vF Ds1, vF sl, vF lo], .agg (fl bs).toArray]) rfl ?_
              intro w278 m274
              refine ⟨oc_call (vs := [.agg #[vS bNr'9 0 nNr nNr, vI ((i : Nat) : Int), vS bBr'9 0 nBr nBr, vI ((h : Nat) : Int), vI Dk, vF Dc0, vF Dc1, vF Dc2, vF Ds0, vF Ds1, vF sl, vF lo], .agg (fl bs).toArray]) (cap := []) rfl rfl rfl Try.call53 (c_iBlockBow nNr nNr bNr'9 xNr nBr nBr bBr'9 xBr i h Dk Dc0 Dc1 Dc2 Ds0 Ds1 sl lo bs z ou lnNr lnBr (by omega) (by omega) (by omega) (by omega) (by first | assumption | exact W32.set (by assumption) (by first | assumption | exact wid_lt (by assumption)) | exact W32.zeros _ | exact W32.nil) (by first | assumption | exact W32.set (by assumption) (by first | assumption | exact wid_lt (by assumption)) | exact W32.zeros _ | exact W32.nil) (by first | assumption | exact W32.get (by assumption) _ | decide +kernel) (by first | assumption | exact W32.get (by assumption) _ | decide +kernel) lb (by first | assumption | exact W32.set (by assumption) (by first | assumption | exact wid_lt (by assumption)) | exact W32.zeros _ | exact W32.nil) (by assumption) (by assumption) (by assumption) w278 (r203.ext m274).rng (r204.ext m274).rng), ?_⟩
              rintro _ w279 ⟨b'22, c'22, d'22, c2'22, rfl, h64, h65, h66, r205, r206, ge71, ge72, ne52, m275⟩
              refine ⟨(((((((Mod.refl [] w211).nt m270).nt m271).nt m272).nt m273).nt m274).nt m275), ?_⟩
              refine DR.det (i := 5) rfl rfl (by kernel_rfl) (.free rfl) rfl rfl (fun wD mD => op_move rfl) ?_
              refine DR.det (i := 6) rfl rfl (by kernel_rfl) (.free rfl) rfl rfl (fun wD mD => op_extract rfl rfl) ?_
              refine DR.det (i := 7) rfl rfl (by kernel_rfl) (.free rfl) rfl rfl (fun wD mD => op_extract rfl rfl) ?_
              refine DR.det (i := 8) rfl rfl (by kernel_rfl) (.free rfl) rfl rfl (fun wD mD => op_extract rfl rfl) ?_
              refine DR.one1 (i := 10) rfl rfl (by kernel_rfl) (.free rfl) rfl (ltb rfl) ?_
              intro w280 m276
              refine Op1.mono (op_alloc (cs := fl (List.replicate 16 0)) Try.zeroValue82 rfl) ?_
              rintro _ w281 ⟨rfl, r207, m277, z92⟩
              refine ⟨(((((((((Mod.refl [] w211).nt m270).nt m271).nt m272).nt m273).nt m274).nt m275).nt m276).nt m277), ?_⟩
              refine DR.st1 (i := 11) rfl rfl (by kernel_rfl) (.free rfl) rfl ?_
              intro w282 m278
              refine Op1.mono (op_store (i := 0) (cs := [vS b'22 0 nNr c'22, vI ((z.i : Nat) : Int), vS d'22 0 nBr c2'22, vI ((z.h : Nat) : Int), vI Dk, vF Dc0, vF Dc1, vF Dc2, vF z.s0, vF z.s1, vF sl, vF lo]) rfl rfl rfl Try.sizeOf36 rfl (((((((r202.ext m272).ext m273).ext m274).ext m275).ext m276).ext m277).ext m278) rfl (lB rfl) rfl) ?_
              rintro _ w283 ⟨r208, m279, z93⟩
              have r209 : Row w283 w274.heap.size 0 [vS b'22 0 nNr c'22, vI ((z.i : Nat) : Int), vS d'22 0 nBr c2'22, vI ((z.h : Nat) : Int), vI Dk, vF Dc0, vF Dc1, vF Dc2, vF z.s0, vF z.s1, vF sl, vF lo] := Row.congr r208 rfl
              refine ⟨(((((((((((Mod.refl [] w211).nt m270).nt m271).nt m272).nt m273).nt m274).nt m275).nt m276).nt m277).nt m278).then m279 ((aC (.inr (lT m270.size lR)) aN))), ?_⟩
              refine DR.st1 (i := 12) rfl rfl (by kernel_rfl) (.free rfl) rfl ?_
              intro w284 m280
              refine Op1.mono (op_store (i := 0) (cs := fl ou) rfl rfl rfl Try.sizeOf82 (fl_len h66) (((r207.ext m278).mod m279 (nC (lG (lL (lL r202.lt (lT (lT (lT (lT m272.size m273.size) m274.size) m275.size) m276.size)) lR)) nN)).ext m280) rfl (by rw [fl_length, List.length_replicate]; decide) (fl_one _)) ?_
              rintro _ w285 ⟨r210, m281, z94⟩
              have r211 : Row w285 w280.heap.size 0 (fl ou) := Row.congr r210 (splice_all ((fl_len (List.length_replicate)).trans (fl_len (h66)).symm))
              refine ⟨(((((((((((((Mod.refl [] w211).nt m270).nt m271).nt m272).nt m273).nt m274).nt m275).nt m276).nt m277).nt m278).then m279 ((aC (.inr (lT m270.size lR)) aN))).nt m280).then m281 ((aC (.inr (lT (lT (lT (lT (lT (lT (lT m270.size m271.size) m272.size) m273.size) m274.size) m275.size) m276.size) lR)) aN))), ?_⟩
              refine DR.sub [(4, .bool false), (6, vP e1_9_0 0), (7, vP e1_10_0 0), (8, vI 0), (10, vP e2_8_0 0), (14, vI ((1 + nNr + nBr : Nat) : Int)), (15, vI ((1 + nNr + nBr : Nat) : Int)), (16, vP w274.heap.size 0), (17, vP w280.heap.size 0), (104, vI 0)] ⟨rfl, rfl, rfl, rfl, rfl, rfl, rfl, rfl, rfl, rfl, trivial⟩ ?_
              refine DR.meet rfl ?_
              intro w286 m282
              exact ⟨bNr'9, bBr'9, b'22, c'22, d'22, c2'22, w274.heap.size, w280.heap.size, rfl, (((((((((r203.ext m274).ext m275).ext m276).ext m277).ext m278).mod m279 (nC (lG (lL (lL r202.lt m272.size) ge69)) nN)).ext m280).mod m281 (nC (lE (lL (lL r203.lt (lT (lT m274.size m275.size) m276.size)) lR)) nN)).ext m282), (((((((((r204.ext m274).ext m275).ext m276).ext m277).ext m278).mod m279 (nC (lG (lL (lL r202.lt m272.size) ge70)) nN)).ext m280).mod m281 (nC (lE (lL (lL r204.lt (lT (lT m274.size m275.size) m276.size)) lR)) nN)).ext m282), (((((((r205.ext m276).ext m277).ext m278).mod m279 (nC (lG (lL (lL r202.lt (lT (lT m272.size m273.size) m274.size)) ge71)) nN)).ext m280).mod m281 (nC (lE (lL (lL r205.lt m276.size) lR)) nN)).ext m282), (((((((r206.ext m276).ext m277).ext m278).mod m279 (nC (lG (lL (lL r202.lt (lT (lT m272.size m273.size) m274.size)) ge72)) nN)).ext m280).mod m281 (nC (lE (lL (lL r206.lt m276.size) lR)) nN)).ext m282), (((r209.ext m280).mod m281 (nC (lE (lL (lL r202.lt (lT (lT (lT (lT m272.size m273.size) m274.size) m275.size) m276.size)) lR)) nN)).ext m282), (r211.ext m282), (lT (lT (lT (lT md4.size m270.size) m271.size) m272.size) ge69), (lT (lT (lT (lT md4.size m270.size) m271.size) m272.size) ge70), (lT (lT (lT (lT (lT (lT md4.size m270.size) m271.size) m272.size) m273.size) m274.size) ge71), (lT (lT (lT (lT (lT (lT md4.size m270.size) m271.size) m272.size) m273.size) m274.size) ge72), (lT (lT md4.size m270.size) lR), (lT (lT (lT (lT (lT (lT (lT (lT md4.size m270.size) m271.size) m272.size) m273.size) m274.size) m275.size) m276.size) lR), ne51, (lE (lL (lL r203.lt m274.size) ge71)), (lE (lL (lL r203.lt m274.size) ge72)), (lG (lL (lL r202.lt m272.size) ge69)), (lE (lL (lL r203.lt (lT (lT m274.size m275.size) m276.size)) lR)), (lE (lL (lL r204.lt m274.size) ge71)), (lE (lL (lL r204.lt m274.size) ge72)), (lG (lL (lL r202.lt m272.size) ge70)), (lE (lL (lL r204.lt (lT (lT m274.size m275.size) m276.size)) lR)), ne52, (lG (lL (lL r202.lt (lT (lT m272.size m273.size) m274.size)) ge71)), (lE (lL (lL r205.lt m276.size) lR)), (lG (lL (lL r202.lt (lT (lT m272.size m273.size) m274.size)) ge72)), (lE (lL (lL r206.lt m276.size) lR)), (lE (lL (lL r202.lt (lT (lT (lT (lT m272.size m273.size) m274.size) m275.size) m276.size)) lR)), h64, h65, h66, (((((((((((((((Mod.refl [] w210).nt md4).nt m270).nt m271).nt m272).nt m273).nt m274).nt m275).nt m276).nt m277).nt m278).then m279 ((aC (.inr (lT (lT md4.size m270.size) lR)) aN))).nt m280).then m281 ((aC (.inr (lT (lT (lT (lT (lT (lT (lT (lT md4.size m270.size) m271.size) m272.size) m273.size) m274.size) m275.size) m276.size) lR)) aN))).nt m282)⟩
            · refine DP.op (i := 10) rfl rfl (.free rfl) rfl (ltb rfl) ?_
              intro w287 m283
              refine Op1.mono (op_alloc (cs := fl (List.replicate 16 0)) Try.zeroValue82 rfl) ?_
              rintro _ w288 ⟨rfl, r212, m284, z95⟩
              refine ⟨(((((((Mod.refl [] w211).nt m270).nt m271).nt m272).nt m273).nt m283).nt m284), ?_⟩
              refine DR.one (i := 4) rfl rfl (by kernel_rfl) (.free rfl) rfl (ltb rfl) (vs := [.func (.func 53) #[] #[], .agg #[vS bNr'9 0 nNr nNr, vI ((i : Nat) : Int), vS bBr'9 0 nBr nBr, vI ((h : Nat) : Int), vI Dk, vF Dc0, vF Dc1, vF Dc2, vF Ds0, vF Ds1, vF sl, vF lo], .agg (fl bs).toArray]) rfl ?_
              intro w289 m285
              refine ⟨oc_call (vs := [.agg #[vS bNr'9 0 nNr nNr, vI ((i : Nat) : Int), vS bBr'9 0 nBr nBr, vI ((h : Nat) : Int), vI Dk, vF Dc0, vF Dc1, vF Dc2, vF Ds0, vF Ds1, vF sl, vF lo], .agg (fl bs).toArray]) (cap := []) rfl rfl rfl Try.call53 (c_iBlockBow nNr nNr bNr'9 xNr nBr nBr bBr'9 xBr i h Dk Dc0 Dc1 Dc2 Ds0 Ds1 sl lo bs z ou lnNr lnBr (by omega) (by omega) (by omega) (by omega) (by first | assumption | exact W32.set (by assumption) (by first | assumption | exact wid_lt (by assumption)) | exact W32.zeros _ | exact W32.nil) (by first | assumption | exact W32.set (by assumption) (by first | assumption | exact wid_lt (by assumption)) | exact W32.zeros _ | exact W32.nil) (by first | assumption | exact W32.get (by assumption) _ | decide +kernel) (by first | assumption | exact W32.get (by assumption) _ | decide +kernel) lb (by first | assumption | exact W32.set (by assumption) (by first | assumption | exact wid_lt (by assumption)) | exact W32.zeros _ | exact W32.nil) (by assumption) (by assumption) (by assumption) w289 (((r203.ext m283).ext m284).ext m285).rng (((r204.ext m283).ext m284).ext m285).rng), ?_⟩
              rintro _ w290 ⟨b'23, c'23, d'23, c2'23, rfl, h67, h68, h69, r213, r214, ge73, ge74, ne53, m286⟩
              refine ⟨(((((((((Mod.refl [] w211).nt m270).nt m271).nt m272).nt m273).nt m283).nt m284).nt m285).nt m286), ?_⟩
              refine DR.det (i := 5) rfl rfl (by kernel_rfl) (.free rfl) rfl rfl (fun wD mD => op_move rfl) ?_
              refine DR.det (i := 6) rfl rfl (by kernel_rfl) (.free rfl) rfl rfl (fun wD mD => op_extract rfl rfl) ?_
              refine DR.det (i := 7) rfl rfl (by kernel_rfl) (.free rfl) rfl rfl (fun wD mD => op_extract rfl rfl) ?_
              refine DR.det (i := 8) rfl rfl (by kernel_rfl) (.free rfl) rfl rfl (fun wD mD => op_extract rfl rfl) ?_
              refine DR.st1 (i := 11) rfl rfl (by kernel_rfl) (.free rfl) rfl ?_
              intro w291 m287
              refine Op1.mono (op_store (i := 0) (cs := [vS b'23 0 nNr c'23, vI ((z.i : Nat) : Int), vS d'23 0 nBr c2'23, vI ((z.h : Nat) : Int), vI Dk, vF Dc0, vF Dc1, vF Dc2, vF z.s0, vF z.s1, vF sl, vF lo]) rfl rfl rfl Try.sizeOf36 rfl (((((((r202.ext m272).ext m273).ext m283).ext m284).ext m285).ext m286).ext m287) rfl (lB rfl) rfl) ?_
              rintro _ w292 ⟨r215, m288, z96⟩
              have r216 : Row w292 w274.heap.size 0 [vS b'23 0 nNr c'23, vI ((z.i : Nat) : Int), vS d'23 0 nBr c2'23, vI ((z.h : Nat) : Int), vI Dk, vF Dc0, vF Dc1, vF Dc2, vF z.s0, vF z.s1, vF sl, vF lo] := Row.congr r215 rfl
              refine ⟨(((((((((((Mod.refl [] w211).nt m270).nt m271).nt m272).nt m273).nt m283).nt m284).nt m285).nt m286).nt m287).then m288 ((aC (.inr (lT m270.size lR)) aN))), ?_⟩
              refine DR.st1 (i := 12) rfl rfl (by kernel_rfl) (.free rfl) rfl ?_
              intro w293 m289
              refine Op1.mono (op_store (i := 0) (cs := fl ou) rfl rfl rfl Try.sizeOf82 (fl_len h69) (((((r212.ext m285).ext m286).ext m287).mod m288 (nC (lG (lL (lL r202.lt (lT (lT m272.size m273.size) m283.size)) lR)) nN)).ext m289) rfl (by rw [fl_length, List.length_replicate]; decide) (fl_one _)) ?_
              rintro _ w294 ⟨r217, m290, z97⟩
              have r218 : Row w294 w287.heap.size 0 (fl ou) := Row.congr r217 (splice_all ((fl_len (List.length_replicate)).trans (fl_len (h69)).symm))
              refine ⟨(((((((((((((Mod.refl [] w211).nt m270).nt m271).nt m272).nt m273).nt m283).nt m284).nt m285).nt m286).nt m287).then m288 ((aC (.inr (lT m270.size lR)) aN))).nt m289).then m290 ((aC (.inr (lT (lT (lT (lT (lT m270.size m271.size) m272.size) m273.size) m283.size) lR)) aN))), ?_⟩
              refine DR.sub [(4, .bool false), (6, vP e1_9_0 0), (7, vP e1_10_0 0), (8, vI 0), (10, vP e2_8_0 0), (14, vI ((1 + nNr + nBr : Nat) : Int)), (15, vI ((1 + nNr + nBr : Nat) : Int)), (16, vP w274.heap.size 0), (17, vP w287.heap.size 0), (104, vI 0)] ⟨rfl, rfl, rfl, rfl, rfl, rfl, rfl, rfl, rfl, rfl, trivial⟩ ?_
              refine DR.meet rfl ?_
              intro w295 m291
              exact ⟨bNr'9, bBr'9, b'23, c'23, d'23, c2'23, w274.heap.size, w287.heap.size, rfl, (((((((((r203.ext m283).ext m284).ext m285).ext m286).ext m287).mod m288 (nC (lG (lL (lL r202.lt m272.size) ge69)) nN)).ext m289).mod m290 (nC (lE (lL (lL r203.lt m283.size) lR)) nN)).ext m291), (((((((((r204.ext m283).ext m284).ext m285).ext m286).ext m287).mod m288 (nC (lG (lL (lL r202.lt m272.size) ge70)) nN)).ext m289).mod m290 (nC (lE (lL (lL r204.lt m283.size) lR)) nN)).ext m291), (((((r213.ext m287).mod m288 (nC (lG (lL (lL r202.lt (lT (lT (lT (lT m272.size m273.size) m283.size) m284.size) m285.size)) ge73)) nN)).ext m289).mod m290 (nC (lG (lL (lL r212.lt m285.size) ge73)) nN)).ext m291), (((((r214.ext m287).mod m288 (nC (lG (lL (lL r202.lt (lT (lT (lT (lT m272.size m273.size) m283.size) m284.size) m285.size)) ge74)) nN)).ext m289).mod m290 (nC (lG (lL (lL r212.lt m285.size) ge74)) nN)).ext m291), (((r216.ext m289).mod m290 (nC (lE (lL (lL r202.lt (lT (lT m272.size m273.size) m283.size)) lR)) nN)).ext m291), (r218.ext m291), (lT (lT (lT (lT md4.size m270.size) m271.size) m272.size) ge69), (lT (lT (lT (lT md4.size m270.size) m271.size) m272.size) ge70), (lT (lT (lT (lT (lT (lT (lT (lT md4.size m270.size) m271.size) m272.size) m273.size) m283.size) m284.size) m285.size) ge73), (lT (lT (lT (lT (lT (lT (lT (lT md4.size m270.size) m271.size) m272.size) m273.size) m283.size) m284.size) m285.size) ge74), (lT (lT md4.size m270.size) lR), (lT (lT (lT (lT (lT (lT md4.size m270.size) m271.size) m272.size) m273.size) m283.size) lR), ne51, (lE (lL (lL r203.lt (lT (lT m283.size m284.size) m285.size)) ge73)), (lE (lL (lL r203.lt (lT (lT m283.size m284.size) m285.size)) ge74)), (lG (lL (lL r202.lt m272.size) ge69)), (lE (lL (lL r203.lt m283.size) lR)), (lE (lL (lL r204.lt (lT (lT m283.size m284.size) m285.size)) ge73)), (lE (lL (lL r204.lt (lT (lT m283.size m284.size) m285.size)) ge74)), (lG (lL (lL r202.lt m272.size) ge70)), (lE (lL (lL r204.lt m283.size) lR)), ne53, (lG (lL (lL r202.lt (lT (lT (lT (lT m272.size m273.size) m283.size) m284.size) m285.size)) ge73)), (lG (lL (lL r212.lt m285.size) ge73)), (lG (lL (lL r202.lt (lT (lT (lT (lT m272.size m273.size) m283.size) m284.size) m285.size)) ge74)), (lG (lL (lL r212.lt m285.size) ge74)), (lE (lL (lL r202.lt (lT (lT m272.size m273.size) m283.size)) lR)), h67, h68, h69, (((((((((((((((Mod.refl [] w210).nt md4).nt m270).nt m271).nt m272).nt m273).nt m283).nt m284).nt m285).nt m286).nt m287).then m288 ((aC (.inr (lT (lT md4.size m270.size) lR)) aN))).nt m289).then m290 ((aC (.inr (lT (lT (lT (lT (lT (lT md4.size m270.size) m271.size) m272.size) m273.size) m283.size) lR)) aN))).nt m291)⟩
          · refine DP.op (i := 10) rfl rfl (.free rfl) rfl (ltb rfl) ?_
            intro w296 m292
            refine Op1.mono (op_alloc (cs := fl (List.replicate 16 0)) Try.zeroValue82 rfl) ?_
            rintro _ w297 ⟨rfl, r219, m293, z98⟩
            refine ⟨(((((Mod.refl [] w211).nt m270).nt m271).nt m292).nt m293), ?_⟩
            refine DR.one (i := 1) rfl rfl (by kernel_rfl) (.free rfl) rfl (ltb rfl) (vs := [.func (.func 14) #[] #[], .agg #[.slice ANr nNr cNr, vI ((i : Nat) : Int), .slice ABr nBr cBr, vI ((h : Nat) : Int), vI Dk, vF Dc0, vF Dc1, vF Dc2, vF Ds0, vF Ds1, vF sl, vF lo]]) rfl ?_
            intro w298 m294
            refine ⟨oc_call (vs := [.agg #[.slice ANr nNr cNr, vI ((i : Nat) : Int), .slice ABr nBr cBr, vI ((h : Nat) : Int), vI Dk, vF Dc0, vF Dc1, vF Dc2, vF Ds0, vF Ds1, vF sl, vF lo]]) (cap := []) rfl rfl rfl Try.call14 (c_toBow nNr cNr ANr bNr oNr xNr ((i : Nat) : Int) nBr cBr ABr bBr oBr xBr ((h : Nat) : Int) Dk Dc0 Dc1 Dc2 Ds0 Ds1 sl lo lnNr hANr lnBr hABr (by omega) (by omega) w298 ((((((((Rng.youngS rNr (((Rng.youngS rNr (((((((((Rng.youngS rNr ((((((rNr.ext m1).ext m2).ext m3).ext m132).ext m133).ext m134) m135 (allge_cons (lT (lT (lT (lT (lT m1.size m2.size) m3.size) m132.size) m133.size) lR) allge_nil)).ext m196).ext m197).ext m198).ext md3).ext m199).ext m200).ext m201).ext m202) m203 (allge_cons (lT (lT (lT (lT m1.size m2.size) m3.size) m132.size) ge39) (allge_cons (lT (lT (lT (lT m1.size m2.size) m3.size) m132.size) ge40) allge_nil))).ext m204).ext m205) m206 (allge_cons (lT (lT (lT (lT (lT (lT (lT m1.size m2.size) m3.size) m132.size) m133.size) m134.size) m135.size) ge51) (allge_cons (lT (lT (lT (lT (lT (lT (lT m1.size m2.size) m3.size) m132.size) m133.size) m134.size) m135.size) ge52) allge_nil))).ext m207).ext md4).ext m270).ext m271).ext m292).ext m293).ext m294) ((((((((Rng.youngS rBr (((Rng.youngS rBr (((((((((Rng.youngS rBr ((((((rBr.ext m1).ext m2).ext m3).ext m132).ext m133).ext m134) m135 (allge_cons (lT (lT (lT (lT (lT m1.size m2.size) m3.size) m132.size) m133.size) lR) allge_nil)).ext m196).ext m197).ext m198).ext md3).ext m199).ext m200).ext m201).ext m202) m203 (allge_cons (lT (lT (lT (lT m1.size m2.size) m3.size) m132.size) ge39) (allge_cons (lT (lT (lT (lT m1.size m2.size) m3.size) m132.size) ge40) allge_nil))).ext m204).ext m205) m206 (allge_cons (lT (lT (lT (lT (lT (lT (lT m1.size m2.size) m3.size) m132.size) m133.size) m134.size) m135.size) ge51) (allge_cons (lT (lT (lT (lT (lT (lT (lT m1.size m2.size) m3.size) m132.size) m133.size) m134.size) m135.size) ge52) allge_nil))).ext m207).ext md4).ext m270).ext m271).ext m292).ext m293).ext m294)), ?_⟩
            rintro _ w299 ⟨bNr'10, bBr'10, rfl, r220, r221, ge75, ge76, ne54, m295⟩
            refine ⟨(((((((Mod.refl [] w211).nt m270).nt m271).nt m292).nt m293).nt m294).nt m295), ?_⟩
            refine DR.call (i := 3) (fun uA => uA = .agg (fl bs).toArray) rfl rfl (by kernel_rfl) (.free rfl) rfl (ltb rfl) ⟨_, rfl⟩ (vs := [.func (.func 49) #[] #[], .agg (fl bs).toArray]) rfl (fun wD mD => oc_call (vs := [.agg (fl bs).toArray]) (cap := []) rfl rfl rfl Try.call49 (c_toBlock bs lb wD)) ?_ ?_
            · rintro w1 _ w2 m1 ⟨rfl, m2⟩; exact ⟨rfl, m2⟩
            rintro _ rfl
            refine DR.one (i := 4) rfl rfl (by kernel_rfl) (.free rfl) rfl (ltb rfl) (vs := [.func (.func 53) #[] #[], .agg #[vS bNr'10 0 nNr nNr, vI ((i : Nat) : Int), vS bBr'10 0 nBr nBr, vI ((h : Nat) : Int), vI Dk, vF Dc0, vF Dc1, vF Dc2, vF Ds0, vF Ds1, vF sl, vF lo], .agg (fl bs).toArray]) rfl ?_
            intro w300 m296
            refine ⟨oc_call (vs := [.agg #[vS bNr'10 0 nNr nNr, vI ((i : Nat) : Int), vS bBr'10 0 nBr nBr, vI ((h : Nat) : Int), vI Dk, vF Dc0, vF Dc1, vF Dc2, vF Ds0, vF Ds1, vF sl, vF lo], .agg (fl bs).toArray]) (cap := []) rfl rfl rfl Try.call53 (c_iBlockBow nNr nNr bNr'10 xNr nBr nBr bBr'10 xBr i h Dk Dc0 Dc1 Dc2 Ds0 Ds1 sl lo bs z ou lnNr lnBr (by omega) (by omega) (by omega) (by omega) (by first | assumption | exact W32.set (by assumption) (by first | assumption | exact wid_lt (by assumption)) | exact W32.zeros _ | exact W32.nil) (by first | assumption | exact W32.set (by assumption) (by first | assumption | exact wid_lt (by assumption)) | exact W32.zeros _ | exact W32.nil) (by first | assumption | exact W32.get (by assumption) _ | decide +kernel) (by first | assumption | exact W32.get (by assumption) _ | decide +kernel) lb (by first | assumption | exact W32.set (by assumption) (by first | assumption | exact wid_lt (by assumption)) | exact W32.zeros _ | exact W32.nil) (by assumption) (by assumption) (by assumption) w300 (r220.ext m296).rng (r221.ext m296).rng), ?_⟩
            rintro _ w301 ⟨b'24, c'24, d'24, c2'24, rfl, h70, h71, h72, r222, r223, ge77, ge78, ne55, m297⟩
            refine ⟨(((((((((Mod.refl [] w211).nt m270).nt m271).nt m292).nt m293).nt m294).nt m295).nt m296).nt m297), ?_⟩
            refine DR.det (i := 5) rfl rfl (by kernel_rfl) (.free rfl) rfl rfl (fun wD mD => op_move rfl) ?_
            refine DR.det (i := 6) rfl rfl (by kernel_rfl) (.free rfl) rfl rfl (fun wD mD => op_extract rfl rfl) ?_
            refine DR.det (i := 7) rfl rfl (by kernel_rfl) (.free rfl) rfl rfl (fun wD mD => op_extract rfl rfl) ?_
            refine DR.det (i := 8) rfl rfl (by kernel_rfl) (.free rfl) rfl rfl (fun wD mD => op_extract rfl rfl) ?_
            refine DR.st1 (i := 11) rfl rfl (by kernel_rfl) (.free rfl) rfl ?_
            intro w302 m298
            refine Op1.mono (op_store (i := 0) (cs := [vS b'24 0 nNr c'24, vI ((z.i : Nat) : Int), vS d'24 0 nBr c2'24, vI ((z.h : Nat) : Int), vI Dk, vF Dc0, vF Dc1, vF Dc2, vF z.s0, vF z.s1, vF sl, vF lo]) rfl rfl rfl Try.sizeOf36 rfl (((((((r202.ext m292).ext m293).ext m294).ext m295).ext m296).ext m297).ext m298) rfl (lB rfl) rfl) ?_
            rintro _ w303 ⟨r224, m299, z99⟩
            have r225 : Row w303 w274.heap.size 0 [vS b'24 0 nNr c'24, vI ((z.i : Nat) : Int), vS d'24 0 nBr c2'24, vI ((z.h : Nat) : Int), vI Dk, vF Dc0, vF Dc1, vF Dc2, vF z.s0, vF z.s1, vF sl, vF lo] := Row.congr r224 rfl
            refine ⟨(((((((((((Mod.refl [] w211).nt m270).nt m271).nt m292).nt m293).nt m294).nt m295).nt m296).nt m297).nt m298).then m299 ((aC (.inr (lT m270.size lR)) aN))), ?_⟩
            refine DR.st1 (i := 12) rfl rfl (by kernel_rfl) (.free rfl) rfl ?_
            intro w304 m300
            refine Op1.mono (op_store (i := 0) (cs := fl ou) rfl rfl rfl Try.sizeOf82 (fl_len h72) (((((((r219.ext m294).ext m295).ext m296).ext m297).ext m298).mod m299 (nC (lG (lL (lL r202.lt m292.size) lR)) nN)).ext m300) rfl (by rw [fl_length, List.length_replicate]; decide) (fl_one _)) ?_
            rintro _ w305 ⟨r226, m301, z100⟩
            have r227 : Row w305 w296.heap.size 0 (fl ou) := Row.congr r226 (splice_all ((fl_len (List.length_replicate)).trans (fl_len (h72)).symm))
            refine ⟨(((((((((((((Mod.refl [] w211).nt m270).nt m271).nt m292).nt m293).nt m294).nt m295).nt m296).nt m297).nt m298).then m299 ((aC (.inr (lT m270.size lR)) aN))).nt m300).then m301 ((aC (.inr (lT (lT (lT m270.size m271.size) m292.size) lR)) aN))), ?_⟩
            refine DR.sub [(4, .bool false), (6, vP e1_9_0 0), (7, vP e1_10_0 0), (8, vI 0), (10, vP e2_8_0 0), (14, vI ((1 + nNr + nBr : Nat) : Int)), (15, vI ((1 + nNr + nBr : Nat) : Int)), (16, vP w274.heap.size 0), (17, vP w296.heap.size 0), (104, vI 0)] ⟨rfl, rfl, rfl, rfl, rfl, rfl, rfl, rfl, rfl, rfl, trivial⟩ ?_
            refine DR.meet rfl ?_
            intro w306 m302
            exact ⟨bNr'10, bBr'10, b'24, c'24, d'24, c2'24, w274.heap.size, w296.heap.size, rfl, (((((((r220.ext m296).ext m297).ext m298).mod m299 (nC (lG (lL (lL r202.lt (lT (lT m292.size m293.size) m294.size)) ge75)) nN)).ext m300).mod m301 (nC (lG (lL (lL r219.lt m294.size) ge75)) nN)).ext m302), (((((((r221.ext m296).ext m297).ext m298).mod m299 (nC (lG (lL (lL r202.lt (lT (lT m292.size m293.size) m294.size)) ge76)) nN)).ext m300).mod m301 (nC (lG (lL (lL r219.lt m294.size) ge76)) nN)).ext m302), (((((r222.ext m298).mod m299 (nC (lG (lL (lL r202.lt (lT (lT (lT (lT m292.size m293.size) m294.size) m295.size) m296.size)) ge77)) nN)).ext m300).mod m301 (nC (lG (lL (lL r219.lt (lT (lT m294.size m295.size) m296.size)) ge77)) nN)).ext m302), (((((r223.ext m298).mod m299 (nC (lG (lL (lL r202.lt (lT (lT (lT (lT m292.size m293.size) m294.size) m295.size) m296.size)) ge78)) nN)).ext m300).mod m301 (nC (lG (lL (lL r219.lt (lT (lT m294.size m295.size) m296.size)) ge78)) nN)).ext m302), (((r225.ext m300).mod m301 (nC (lE (lL (lL r202.lt m292.size) lR)) nN)).ext m302), (r227.ext m302), (lT (lT (lT (lT (lT (lT md4.size m270.size) m271.size) m292.size) m293.size) m294.size) ge75), (lT (lT (lT (lT (lT (lT md4.size m270.size) m271.size) m292.size) m293.size) m294.size) ge76), (lT (lT (lT (lT (lT (lT (lT (lT md4.size m270.size) m271.size) m292.size) m293.size) m294.size) m295.size) m296.size) ge77), (lT (lT (lT (lT (lT (lT (lT (lT md4.size m270.size) m271.size) m292.size) m293.size) m294.size) m295.size) m296.size) ge78), (lT (lT md4.size m270.size) lR), (lT (lT (lT (lT md4.size m270.size) m271.size) m292.size) lR), ne54, (lE (lL (lL r220.lt m296.size) ge77)), (lE (lL (lL r220.lt m296.size) ge78)), (lG (lL (lL r202.lt (lT (lT m292.size m293.size) m294.size)) ge75)), (lG (lL (lL r219.lt m294.size) ge75)), (lE (lL (lL r221.lt m296.size) ge77)), (lE (lL (lL r221.lt m296.size) ge78)), (lG (lL (lL r202.lt (lT (lT m292.size m293.size) m294.size)) ge76)), (lG (lL (lL r219.lt m294.size) ge76)), ne55, (lG (lL (lL r202.lt (lT (lT (lT (lT m292.size m293.size) m294.size) m295.size) m296.size)) ge77)), (lG (lL (lL r219.lt (lT (lT m294.size m295.size) m296.size)) ge77)), (lG (lL (lL r202.lt (lT (lT (lT (lT m292.size m293.size) m294.size) m295.size) m296.size)) ge78)), (lG (lL (lL r219.lt (lT (lT m294.size m295.size) m296.size)) ge78)), (lE (lL (lL r202.lt m292.size) lR)), h70, h71, h72, (((((((((((((((Mod.refl [] w210).nt md4).nt m270).nt m271).nt m292).nt m293).nt m294).nt m295).nt m296).nt m297).nt m298).then m299 ((aC (.inr (lT (lT md4.size m270.size) lR)) aN))).nt m300).then m301 ((aC (.inr (lT (lT (lT (lT md4.size m270.size) m271.size) m292.size) lR)) aN))).nt m302)⟩
        · refine DP.op (i := 10) rfl rfl (.free rfl) rfl (ltb rfl) ?_
          intro w307 m303
          refine Op1.mono (op_alloc (cs := fl (List.replicate 16 0)) Try.zeroValue82 rfl) ?_
          rintro _ w308 ⟨rfl, r228, m304, z101⟩
          refine ⟨(((Mod.refl [] w211).nt m303).nt m304), ?_⟩
          refine DR.fork (is := [1, 9]) (by kernel_rfl) (by decide) (all2 ?_ ?_)
          · refine DP.call (i := 1) rfl rfl (.free rfl) rfl (ltb rfl) (vs := [.func (.func 14) #[] #[], .agg #[.slice ANr nNr cNr, vI ((i : Nat) : Int), .slice ABr nBr cBr, vI ((h : Nat) : Int), vI Dk, vF Dc0, vF Dc1, vF Dc2, vF Ds0, vF Ds1, vF sl, vF lo]]) rfl ?_
            intro w309 m305
            refine ⟨oc_call (vs := [.agg #[.slice ANr nNr cNr, vI ((i : Nat) : Int), .slice ABr nBr cBr, vI ((h : Nat) : Int), vI Dk, vF Dc0, vF Dc1, vF Dc2, vF Ds0, vF Ds1, vF sl, vF lo]]) (cap := []) rfl rfl rfl Try.call14 (c_toBow nNr cNr ANr bNr oNr xNr ((i : Nat) : Int) nBr cBr ABr bBr oBr xBr ((h : Nat) : Int) Dk Dc0 Dc1 Dc2 Ds0 Ds1 sl lo lnNr hANr lnBr hABr (by omega) (by omega) w309 ((((((Rng.youngS rNr (((Rng.youngS rNr (((((((((Rng.youngS rNr ((((((rNr.ext m1).ext m2).ext m3).ext m132).ext m133).ext m134) m135 (allge_cons (lT (lT (lT (lT (lT m1.size m2.size) m3.size) m132.size) m133.size) lR) allge_nil)).ext m196).ext m197).ext m198).ext md3).ext m199).ext m200).ext m201).ext m202) m203 (allge_cons (lT (lT (lT (lT m1.size m2.size) m3.size) m132.size) ge39) (allge_cons (lT (lT (lT (lT m1.size m2.size) m3.size) m132.size) ge40) allge_nil))).ext m204).ext m205) m206 (allge_cons (lT (lT (lT (lT (lT (lT (lT m1.size m2.size) m3.size) m132.size) m133.size) m134.size) m135.size) ge51) (allge_cons (lT (lT (lT (lT (lT (lT (lT m1.size m2.size) m3.size) m132.size) m133.size) m134.size) m135.size) ge52) allge_nil))).ext m207).ext md4).ext m303).ext m304).ext m305) ((((((Rng.youngS rBr (((Rng.youngS rBr (((((((((Rng.youngS rBr ((((((rBr.ext m1).ext m2).ext m3).ext m132).ext m133).ext m134) m135 (allge_cons (lT (lT (lT (lT (lT m1.size m2.size) m3.size) m132.size) m133.size) lR) allge_nil)).ext m196).ext m197).ext m198).ext md3).ext m199).ext m200).ext m201).ext m202) m203 (allge_cons (lT (lT (lT (lT m1.size m2.size) m3.size) m132.size) ge39) (allge_cons (lT (lT (lT (lT m1.size m2.size) m3.size) m132.size) ge40) allge_nil))).ext m204).ext m205) m206 (allge_cons (lT (lT (lT (lT (lT (lT (lT m1.size m2.size) m3.size) m132.size) m133.size) m134.size) m135.size) ge51) (allge_cons (lT (lT (lT (lT (lT (lT (lT m1.size m2.size) m3.size) m132.size) m133.size) m134.size) m135.size) ge52) allge_nil))).ext m207).ext md4).ext m303).ext m304).ext m305)), ?_⟩
            rintro _ w310 ⟨bNr'11, bBr'11, rfl, r229, r230, ge79, ge80, ne56, m306⟩
            refine ⟨(((((Mod.refl [] w211).nt m303).nt m304).nt m305).nt m306), ?_⟩
            refine DR.call (i := 3) (fun uA => uA = .agg (fl bs).toArray) rfl rfl (by kernel_rfl) (.free rfl) rfl (ltb rfl) ⟨_, rfl⟩ (vs := [.func (.func 49) #[] #[], .agg (fl bs).toArray]) rfl (fun wD mD => oc_call (vs := [.agg (fl bs).toArray]) (cap := []) rfl rfl rfl Try.call49 (c_toBlock bs lb wD)) ?_ ?_
            · rintro w1 _ w2 m1 ⟨rfl, m2⟩; exact ⟨rfl, m2⟩
            rintro _ rfl
            refine DR.fork (is := [4, 9]) (by kernel_rfl) (by decide) (all2 ?_ ?_)
            · refine DP.call (i := 4) rfl rfl (.free rfl) rfl (ltb rfl) (vs := [.func (.func 53) #[] #[], .agg #[vS bNr'11 0 nNr nNr, vI ((i : Nat) : Int), vS bBr'11 0 nBr nBr, vI ((h : Nat) : Int), vI Dk, vF Dc0, vF Dc1, vF Dc2, vF Ds0, vF Ds1, vF sl, vF lo], .agg (fl bs).toArray]) rfl ?_
              intro w311 m307
              refine ⟨oc_call (vs := [.agg #[vS bNr'11 0 nNr nNr, vI ((i : Nat) : Int), vS bBr'11 0 nBr nBr, vI ((h : Nat) : Int), vI Dk, vF Dc0, vF Dc1, vF Dc2, vF Ds0, vF Ds1, vF sl, vF lo], .agg (fl bs).toArray]) (cap := []) rfl rfl rfl Try.call53 (c_iBlockBow nNr nNr bNr'11 xNr nBr nBr bBr'11 xBr i h Dk Dc0 Dc1 Dc2 Ds0 Ds1 sl lo bs z ou lnNr lnBr (by omega) (by omega) (by omega) (by omega) (by first | assumption | exact W32.set (by assumption) (by first | assumption | exact wid_lt (by assumption)) | exact W32.zeros _ | exact W32.nil) (by first | assumption | exact W32.set (by assumption) (by first | assumption | exact wid_lt (by assumption)) | exact W32.zeros _ | exact W32.nil) (by first | assumption | exact W32.get (by assumption) _ | decide +kernel) (by first | assumption | exact W32.get (by assumption) _ | decide +kernel) lb (by first | assumption | exact W32.set (by assumption) (by first | assumption | exact wid_lt (by assumption)) | exact W32.zeros _ | exact W32.nil) (by assumption) (by assumption) (by assumption) w311 (r229.ext m307).rng (r230.ext m307).rng), ?_⟩
              rintro _ w312 ⟨b'25, c'25, d'25, c2'25, rfl, h73, h74, h75, r231, r232, ge81, ge82, ne57, m308⟩
              refine ⟨(((((((Mod.refl [] w211).nt m303).nt m304).nt m305).nt m306).nt m307).nt m308), ?_⟩
              refine DR.det (i := 5) rfl rfl (by kernel_rfl) (.free rfl) rfl rfl (fun wD mD => op_move rfl) ?_
              refine DR.det (i := 6) rfl rfl (by kernel_rfl) (.free rfl) rfl rfl (fun wD mD => op_extract rfl rfl) ?_
              refine DR.det (i := 7) rfl rfl (by kernel_rfl) (.free rfl) rfl rfl (fun wD mD => op_extract rfl rfl) ?_
              refine DR.det (i := 8) rfl rfl (by kernel_rfl) (.free rfl) rfl rfl (fun wD mD => op_extract rfl rfl) ?_
              refine DR.one1 (i := 9) rfl rfl (by kernel_rfl) (.free rfl) rfl (ltb rfl) ?_
              intro w313 m309
              refine Op1.mono (op_alloc (cs := [.slice none 0 0, vI 0, .slice none 0 0, vI 0, vI 0, vF 0, vF 0, vF 0, vF 0, vF 0, vF 0, vF 0]) Try.zeroValue36 rfl) ?_
              rintro _ w314 ⟨rfl, r233, m310, z102⟩
              refine ⟨(((((((((Mod.refl [] w211).nt m303).nt m304).nt m305).nt m306).nt m307).nt m308).nt m309).nt m310), ?_⟩
              refine DR.st1 (i := 11) rfl rfl (by kernel_rfl) (.free rfl) rfl ?_
              intro w315 m311
              refine Op1.mono (op_store (i := 0) (cs := [vS b'25 0 nNr c'25, vI ((z.i : Nat) : Int), vS d'25 0 nBr c2'25, vI ((z.h : Nat) : Int), vI Dk, vF Dc0, vF Dc1, vF Dc2, vF z.s0, vF z.s1, vF sl, vF lo]) rfl rfl rfl Try.sizeOf36 rfl (r233.ext m311) rfl (lB rfl) rfl) ?_
              rintro _ w316 ⟨r234, m312, z103⟩
              have r235 : Row w316 w313.heap.size 0 [vS b'25 0 nNr c'25, vI ((z.i : Nat) : Int), vS d'25 0 nBr c2'25, vI ((z.h : Nat) : Int), vI Dk, vF Dc0, vF Dc1, vF Dc2, vF z.s0, vF z.s1, vF sl, vF lo] := Row.congr r234 rfl
              refine ⟨(((((((((((Mod.refl [] w211).nt m303).nt m304).nt m305).nt m306).nt m307).nt m308).nt m309).nt m310).nt m311).then m312 ((aC (.inr (lT (lT (lT (lT (lT (lT (lT m303.size m304.size) m305.size) m306.size) m307.size) m308.size) m309.size) lR)) aN))), ?_⟩
              refine DR.st1 (i := 12) rfl rfl (by kernel_rfl) (.free rfl) rfl ?_
              intro w317 m313
              refine Op1.mono (op_store (i := 0) (cs := fl ou) rfl rfl rfl Try.sizeOf82 (fl_len h75) (((((((((r228.ext m305).ext m306).ext m307).ext m308).ext m309).ext m310).ext m311).mod m312 (nC (lE (lL (lL r228.lt (lT (lT (lT (lT m305.size m306.size) m307.size) m308.size) m309.size)) lR)) nN)).ext m313) rfl (by rw [fl_length, List.length_replicate]; decide) (fl_one _)) ?_
              rintro _ w318 ⟨r236, m314, z104⟩
              have r237 : Row w318 w307.heap.size 0 (fl ou) := Row.congr r236 (splice_all ((fl_len (List.length_replicate)).trans (fl_len (h75)).symm))
              refine ⟨(((((((((((((Mod.refl [] w211).nt m303).nt m304).nt m305).nt m306).nt m307).nt m308).nt m309).nt m310).nt m311).then m312 ((aC (.inr (lT (lT (lT (lT (lT (lT (lT m303.size m304.size) m305.size) m306.size) m307.size) m308.size) m309.size) lR)) aN))).nt m313).then m314 ((aC (.inr (lT m303.size lR)) aN))), ?_⟩
              refine DR.sub [(4, .bool false), (6, vP e1_9_0 0), (7, vP e1_10_0 0), (8, vI 0), (10, vP e2_8_0 0), (14, vI ((1 + nNr + nBr : Nat) : Int)), (15, vI ((1 + nNr + nBr : Nat) : Int)), (16, vP w313.heap.size 0), (17, vP w307.heap.size 0), (104, vI 0)] ⟨rfl, rfl, rfl, rfl, rfl, rfl, rfl, rfl, rfl, rfl, trivial⟩ ?_
              refine DR.meet rfl ?_
              intro w319 m315
              exact ⟨bNr'11, bBr'11, b'25, c'25, d'25, c2'25, w313.heap.size, w307.heap.size, rfl, (((((((((r229.ext m307).ext m308).ext m309).ext m310).ext m311).mod m312 (nC (lE (lL (lL r229.lt (lT (lT m307.size m308.size) m309.size)) lR)) nN)).ext m313).mod m314 (nC (lG (lL (lL r228.lt m305.size) ge79)) nN)).ext m315), (((((((((r230.ext m307).ext m308).ext m309).ext m310).ext m311).mod m312 (nC (lE (lL (lL r230.lt (lT (lT m307.size m308.size) m309.size)) lR)) nN)).ext m313).mod m314 (nC (lG (lL (lL r228.lt m305.size) ge80)) nN)).ext m315), (((((((r231.ext m309).ext m310).ext m311).mod m312 (nC (lE (lL (lL r231.lt m309.size) lR)) nN)).ext m313).mod m314 (nC (lG (lL (lL r228.lt (lT (lT m305.size m306.size) m307.size)) ge81)) nN)).ext m315), (((((((r232.ext m309).ext m310).ext m311).mod m312 (nC (lE (lL (lL r232.lt m309.size) lR)) nN)).ext m313).mod m314 (nC (lG (lL (lL r228.lt (lT (lT m305.size m306.size) m307.size)) ge82)) nN)).ext m315), (((r235.ext m313).mod m314 (nC (lG (lL (lL r228.lt (lT (lT (lT (lT m305.size m306.size) m307.size) m308.size) m309.size)) lR)) nN)).ext m315), (r237.ext m315), (lT (lT (lT (lT md4.size m303.size) m304.size) m305.size) ge79), (lT (lT (lT (lT md4.size m303.size) m304.size) m305.size) ge80), (lT (lT (lT (lT (lT (lT md4.size m303.size) m304.size) m305.size) m306.size) m307.size) ge81), (lT (lT (lT (lT (lT (lT md4.size m303.size) m304.size) m305.size) m306.size) m307.size) ge82), (lT (lT (lT (lT (lT (lT (lT (lT md4.size m303.size) m304.size) m305.size) m306.size) m307.size) m308.size) m309.size) lR), (lT (lT md4.size m303.size) lR), ne56, (lE (lL (lL r229.lt m307.size) ge81)), (lE (lL (lL r229.lt m307.size) ge82)), (lE (lL (lL r229.lt (lT (lT m307.size m308.size) m309.size)) lR)), (lG (lL (lL r228.lt m305.size) ge79)), (lE (lL (lL r230.lt m307.size) ge81)), (lE (lL (lL r230.lt m307.size) ge82)), (lE (lL (lL r230.lt (lT (lT m307.size m308.size) m309.size)) lR)), (lG (lL (lL r228.lt m305.size) ge80)), ne57, (lE (lL (lL r231.lt m309.size) lR)), (lG (lL (lL r228.lt (lT (lT m305.size m306.size) m307.size)) ge81)), (lE (lL (lL r232.lt m309.size) lR)), (lG (lL (lL r228.lt (lT (lT m305.size m306.size) m307.size)) ge82)), (lG (lL (lL r228.lt (lT (lT (lT (lT m305.size m306.size) m307.size) m308.size) m309.size)) lR)), h73, h74, h75, (((((((((((((((Mod.refl [] w210).nt md4).nt m303).nt m304).nt m305).nt m306).nt m307).nt m308).nt m309).nt m310).nt m311).then m312 ((aC (.inr (lT (lT (lT (lT (lT (lT (lT (lT md4.size m303.size) m304.size) m305.size) m306.size) m307.size) m308.size) m309.size) lR)) aN))).nt m313).then m314 ((aC (.inr (lT (lT md4.size m303.size) lR)) aN))).nt m315)⟩
            · refine DP.op (i := 9) rfl rfl (.free rfl) rfl (ltb rfl) ?_
              intro w320 m316
              refine Op1.mono (op_alloc (cs := [.slice none 0 0, vI 0, .slice none 0 0, vI 0, vI 0, vF 0, vF 0, vF 0, vF 0, vF 0, vF 0, vF 0]) Try.zeroValue36 rfl) ?_
              rintro _ w321 ⟨rfl, r238, m317, z105⟩
              refine ⟨(((((((Mod.refl [] w211).nt m303).nt m304).nt m305).nt m306).nt m316).nt m317), ?_⟩
              refine DR.one (i := 4) rfl rfl (by kernel_rfl) (.free rfl) rfl (ltb rfl) (vs := [.func (.func 53) #[] #[], .agg #[vS bNr'11 0 nNr nNr, vI ((i : Nat) : Int), vS bBr'11 0 nBr nBr, vI ((h : Nat) : Int), vI Dk, vF Dc0, vF Dc1, vF Dc2, vF Ds0, vF Ds1, vF sl, vF lo], .agg (fl bs).toArray]) rfl ?_
              intro w322 m318
              refine ⟨oc_call (vs := [.agg #[vS bNr'11 0 nNr nNr, vI ((i : Nat) : Int), vS bBr'11 0 nBr nBr, vI ((h : Nat) : Int), vI Dk, vF Dc0, vF Dc1, vF Dc2, vF Ds0, vF Ds1, vF sl, vF lo], .agg (fl bs).toArray]) (cap := []) rfl rfl rfl Try.call53 (c_iBlockBow nNr nNr bNr'11 xNr nBr nBr bBr'11 xBr i h Dk Dc0 Dc1 Dc2 Ds0 Ds1 sl lo bs z ou lnNr lnBr (by omega) (by omega) (by omega) (by omega) (by first | assumption | exact W32.set (by assumption) (by first | assumption | exact wid_lt (by assumption)) | exact W32.zeros _ | exact W32.nil) (by first | assumption | exact W32.set (by assumption) (by first | assumption | exact wid_lt (by assumption)) | exact W32.zeros _ | exact W32.nil) (by first | assumption | exact W32.get (by assumption) _ | decide +kernel) (by first | assumption | exact W32.get (by assumption) _ | decide +kernel) lb (by first | assumption | exact W32.set (by assumption) (by first | assumption | exact wid_lt (by assumption)) | exact W32.zeros _ | exact W32.nil) (by assumption) (by assumption) (by assumption) w322 (((r229.ext m316).ext m317).ext m318).rng (((r230.ext m316).ext m317).ext m318).rng), ?_⟩
              rintro _ w323 ⟨b'26, c'26, d'26, c2'26, rfl, h76, h77, h78, r239, r240, ge83, ge84, ne58, m319⟩
              refine ⟨(((((((((Mod.refl [] w211).nt m303).nt m304).nt m305).nt m306).nt m316).nt m317).nt m318).nt m319), ?_⟩
              refine DR.det (i := 5) rfl rfl (by kernel_rfl) (.free rfl) rfl rfl (fun wD mD => op_move rfl) ?_
              refine DR.det (i := 6) rfl rfl (by kernel_rfl) (.free rfl) rfl rfl (fun wD mD => op_extract rfl rfl) ?_
              refine DR.det (i := 7) rfl rfl (by kernel_rfl) (.free rfl) rfl rfl (fun wD mD => op_extract rfl rfl) ?_
              refine DR.det (i := 8) rfl rfl (by kernel_rfl) (.free rfl) rfl rfl (fun wD mD => op_extract rfl rfl) ?_
              refine DR.st1 (i := 11) rfl rfl (by kernel_rfl) (.free rfl) rfl ?_
              intro w324 m320
              refine Op1.mono (op_store (i := 0) (cs := [vS b'26 0 nNr c'26, vI ((z.i : Nat) : Int), vS d'26 0 nBr c2'26, vI ((z.h : Nat) : Int), vI Dk, vF Dc0, vF Dc1, vF Dc2, vF z.s0, vF z.s1, vF sl, vF lo]) rfl rfl rfl Try.sizeOf36 rfl (((r238.ext m318).ext m319).ext m320) rfl (lB rfl) rfl) ?_
              rintro _ w325 ⟨r241, m321, z106⟩
              have r242 : Row w325 w320.heap.size 0 [vS b'26 0 nNr c'26, vI ((z.i : Nat) : Int), vS d'26 0 nBr c2'26, vI ((z.h : Nat) : Int), vI Dk, vF Dc0, vF Dc1, vF Dc2, vF z.s0, vF z.s1, vF sl, vF lo] := Row.congr r241 rfl
              refine ⟨(((((((((((Mod.refl [] w211).nt m303).nt m304).nt m305).nt m306).nt m316).nt m317).nt m318).nt m319).nt m320).then m321 ((aC (.inr (lT (lT (lT (lT (lT m303.size m304.size) m305.size) m306.size) m316.size) lR)) aN))), ?_⟩
              refine DR.st1 (i := 12) rfl rfl (by kernel_rfl) (.free rfl) rfl ?_
              intro w326 m322
              refine Op1.mono (op_store (i := 0) (cs := fl ou) rfl rfl rfl Try.sizeOf82 (fl_len h78) (((((((((r228.ext m305).ext m306).ext m316).ext m317).ext m318).ext m319).ext m320).mod m321 (nC (lE (lL (lL r228.lt (lT (lT m305.size m306.size) m316.size)) lR)) nN)).ext m322) rfl (by rw [fl_length, List.length_replicate]; decide) (fl_one _)) ?_
              rintro _ w327 ⟨r243, m323, z107⟩
              have r244 : Row w327 w307.heap.size 0 (fl ou) := Row.congr r243 (splice_all ((fl_len (List.length_replicate)).trans (fl_len (h78)).symm))
              refine ⟨(((((((((((((Mod.refl [] w211).nt m303).nt m304).nt m305).nt m306).nt m316).nt m317).nt m318).nt m319).nt m320).then m321 ((aC (.inr (lT (lT (lT (lT (lT m303.size m304.size) m305.size) m306.size) m316.size) lR)) aN))).nt m322).then m323 ((aC (.inr (lT m303.size lR)) aN))), ?_⟩
              refine DR.sub [(4, .bool false), (6, vP e1_9_0 0), (7, vP e1_10_0 0), (8, vI 0), (10, vP e2_8_0 0), (14, vI ((1 + nNr + nBr : Nat) : Int)), (15, vI ((1 + nNr + nBr : Nat) : Int)), (16, vP w320.heap.size 0), (17, vP w307.heap.size 0), (104, vI 0)] ⟨rfl, rfl, rfl, rfl, rfl, rfl, rfl, rfl, rfl, rfl, trivial⟩ ?_
              refine DR.meet rfl ?_
              intro w328 m324
              exact ⟨bNr'11, bBr'11, b'26, c'26, d'26, c2'26, w320.heap.size, w307.heap.size, rfl, (((((((((r229.ext m316).ext m317).ext m318).ext m319).ext m320).mod m321 (nC (lE (lL (lL r229.lt m316.size) lR)) nN)).ext m322).mod m323 (nC (lG (lL (lL r228.lt m305.size) ge79)) nN)).ext m324), (((((((((r230.ext m316).ext m317).ext m318).ext m319).ext m320).mod m321 (nC (lE (lL (lL r230.lt m316.size) lR)) nN)).ext m322).mod m323 (nC (lG (lL (lL r228.lt m305.size) ge80)) nN)).ext m324), (((((r239.ext m320).mod m321 (nC (lG (lL (lL r238.lt m318.size) ge83)) nN)).ext m322).mod m323 (nC (lG (lL (lL r228.lt (lT (lT (lT (lT m305.size m306.size) m316.size) m317.size) m318.size)) ge83)) nN)).ext m324), (((((r240.ext m320).mod m321 (nC (lG (lL (lL r238.lt m318.size) ge84)) nN)).ext m322).mod m323 (nC (lG (lL (lL r228.lt (lT (lT (lT (lT m305.size m306.size) m316.size) m317.size) m318.size)) ge84)) nN)).ext m324), (((r242.ext m322).mod m323 (nC (lG (lL (lL r228.lt (lT (lT m305.size m306.size) m316.size)) lR)) nN)).ext m324), (r244.ext m324), (lT (lT (lT (lT md4.size m303.size) m304.size) m305.size) ge79), (lT (lT (lT (lT md4.size m303.size) m304.size) m305.size) ge80), (lT (lT (lT (lT (lT (lT (lT (lT md4.size m303.size) m304.size) m305.size) m306.size) m316.size) m317.size) m318.size) ge83), (lT (lT (lT (lT (lT (lT (lT (lT md4.size m303.size) m304.size) m305.size) m306.size) m316.size) m317.size) m318.size) ge84), (lT (lT (lT (lT (lT (lT md4.size m303.size) m304.size) m305.size) m306.size) m316.size) lR), (lT (lT md4.size m303.size) lR), ne56, (lE (lL (lL r229.lt (lT (lT m316.size m317.size) m318.size)) ge83)), (lE (lL (lL r229.lt (lT (lT m316.size m317.size) m318.size)) ge84)), (lE (lL (lL r229.lt m316.size) lR)), (lG (lL (lL r228.lt m305.size) ge79)), (lE (lL (lL r230.lt (lT (lT m316.size m317.size) m318.size)) ge83)), (lE (lL (lL r230.lt (lT (lT m316.size m317.size) m318.size)) ge84)), (lE (lL (lL r230.lt m316.size) lR)), (lG (lL (lL r228.lt m305.size) ge80)), ne58, (lG (lL (lL r238.lt m318.size) ge83)), (lG (lL (lL r228.lt (lT (lT (lT (lT m305.size m306.size) m316.size) m317.size) m318.size)) ge83)), (lG (lL (lL r238.lt m318.size) ge84)), (lG (lL (lL r228.lt (lT (lT (lT (lT m305.size m306.size) m316.size) m317.size) m318.size)) ge84)), (lG (lL (lL r228.lt (lT (lT m305.size m306.size) m316.size)) lR)), h76, h77, h78, (((((((((((((((Mod.refl [] w210).nt md4).nt m303).nt m304).nt m305).nt m306).nt m316).nt m317).nt m318).nt m319).nt m320).then m321 ((aC (.inr (lT (lT (lT (lT (lT (lT md4.size m303.size) m304.size) m305.size) m306.size) m316.size) lR)) aN))).nt m322).then m323 ((aC (.inr (lT (lT md4.size m303.size) lR)) aN))).nt m324)⟩
          · refine DP.op (i := 9) rfl rfl (.free rfl) rfl (ltb rfl) ?_
            intro w329 m325
            refine Op1.mono (op_alloc (cs := [.slice none 0 0, vI 0, .slice none 0 0, vI 0, vI 0, vF 0, vF 0, vF 0, vF 0, vF 0, vF 0, vF 0]) Try.zeroValue36 rfl) ?_
            rintro _ w330 ⟨rfl, r245, m326, z108⟩
            refine ⟨(((((Mod.refl [] w211).nt m303).nt m304).nt m325).nt m326), ?_⟩
            refine DR.one (i := 1) rfl rfl (by kernel_rfl) (.free rfl) rfl (ltb rfl) (vs := [.func (.func 14) #[] #[], .agg #[.slice ANr nNr cNr, vI ((i : Nat) : Int), .slice ABr nBr cBr, vI ((h : Nat) : Int), vI Dk, vF Dc0, vF Dc1, vF Dc2, vF Ds0, vF Ds1, vF sl, vF lo]]) rfl ?_
            intro w331 m327
            refine ⟨oc_call (vs := [.agg #[.slice ANr nNr cNr, vI ((i : Nat) : Int), .slice ABr nBr cBr, vI ((h : Nat) : Int), vI Dk, vF Dc0, vF Dc1, vF Dc2, vF Ds0, vF Ds1, vF sl, vF lo]]) (cap := []) rfl rfl rfl Try.call14 (c_toBow nNr cNr ANr bNr oNr xNr ((i : Nat) : Int) nBr cBr ABr bBr oBr xBr ((h : Nat) : Int) Dk Dc0 Dc1 Dc2 Ds0 Ds1 sl lo lnNr hANr lnBr hABr (by omega) (by omega) w331 ((((((((Rng.youngS rNr (((Rng.youngS rNr (((((((((Rng.youngS rNr ((((((rNr.ext m1).ext m2).ext m3).ext m132).ext m133).ext m134) m135 (allge_cons (lT (lT (lT (lT (lT m1.size m2.size) m3.size) m132.size) m133.size) lR) allge_nil)).ext m196).ext m197).ext m198).ext md3).ext m199).ext m200).ext m201).ext m202) m203 (allge_cons (lT (lT (lT (lT m1.size m2.size) m3.size) m132.size) ge39) (allge_cons (lT (lT (lT (lT m1.size m2.size) m3.size) m132.size) ge40) allge_nil))).ext m204).ext m205) m206 (allge_cons (lT (lT (lT (lT (lT (lT (lT m1.size m2.size) m3.size) m132.size) m133.size) m134.size) m135.size) ge51) (allge_cons (lT (lT (lT (lT (lT (lT (lT m1.size m2.size) m3.size) m132.size) m133.size) m134.size) m135.size) ge52) allge_nil))).ext m207).ext md4).ext m303).ext m304).ext m325).ext m326).ext m327) ((((((((Rng.youngS rBr (((Rng.youngS rBr (((((((((Rng.youngS rBr ((((((rBr.ext m1).ext m2).ext m3).ext m132).ext m133).ext m134) m135 (allge_cons (lT (lT (lT (lT (lT m1.size m2.size) m3.size) m132.size) m133.size) lR) allge_nil)).ext m196).ext m197).ext m198).ext md3).ext m199).ext m200).ext m201).ext m202) m203 (allge_cons (lT (lT (lT (lT m1.size m2.size) m3.size) m132.size) ge39) (allge_cons (lT (lT (lT (lT m1.size m2.size) m3.size) m132.size) ge40) allge_nil))).ext m204).ext m205) m206 (allge_cons (lT (lT (lT (lT (lT (lT (lT m1.size m2.size) m3.size) m132.size) m133.size) m134.size) m135.size) ge51) (allge_cons (lT (lT (lT (lT (lT (lT (lT m1.size m2.size) m3.size) m132.size) m133.size) m134.size) m135.size) ge52) allge_nil))).ext m207).ext md4).ext m303).ext m304).ext m325).ext m326).ext m327)), ?_⟩
            rintro _ w332 ⟨bNr'12, bBr'12, rfl, r246, r247, ge85, ge86, ne59, m328⟩
            refine ⟨(((((((Mod.refl [] w211).nt m303).nt m304).nt m325).nt m326).nt m327).nt m328), ?_⟩
            refine DR.call (i := 3) (fun uA => uA = .agg (fl bs).toArray) rfl rfl (by kernel_rfl) (.free rfl) rfl (ltb rfl) ⟨_, rfl⟩ (vs := [.func (.func 49) #[] #[], .agg (fl bs).toArray]) rfl (fun wD mD => oc_call (vs := [.agg (fl bs).toArray]) (cap := []) rfl rfl rfl Try.call49 (c_toBlock bs lb wD)) ?_ ?_
            · rintro w1 _ w2 m1 ⟨rfl, m2⟩; exact ⟨rfl, m2⟩
            rintro _ rfl
            refine DR.one (i := 4) rfl rfl (by kernel_rfl) (.free rfl) rfl (ltb rfl) (vs := [.func (.func 53) #[] #[], .agg #[vS bNr'12 0 nNr nNr, vI ((i : Nat) : Int), vS bBr'12 0 nBr nBr, vI ((h : Nat) : Int), vI Dk, vF Dc0, vF Dc1, vF Dc2, vF Ds0, vF Ds1, vF sl, vF lo], .agg (fl bs).toArray]) rfl ?_
            intro w333 m329
            refine ⟨oc_call (vs := [.agg #[vS bNr'12 0 nNr nNr, vI ((i : Nat) : Int), vS bBr'12 0 nBr nBr, vI ((h : Nat) : Int), vI Dk, vF Dc0, vF Dc1, vF Dc2, vF Ds0, vF Ds1, vF sl, vF lo], .agg (fl bs).toArray]) (cap := []) rfl rfl rfl Try.call53 (c_iBlockBow nNr nNr bNr'12 xNr nBr nBr bBr'12 xBr i h Dk Dc0 Dc1 Dc2 Ds0 Ds1 sl lo bs z ou lnNr lnBr (by omega) (by omega) (by omega) (by omega) (by first | assumption | exact W32.set (by assumption) (by first | assumption | exact wid_lt (by assumption)) | exact W32.zeros _ | exact W32.nil) (by first | assumption | exact W32.set (by assumption) (by first | assumption | exact wid_lt (by assumption)) | exact W32.zeros _ | exact W32.nil) (by first | assumption | exact W32.get (by assumption) _ | decide +kernel) (by first | assumption | exact W32.get (by assumption) _ | decide +kernel) lb (by first | assumption | exact W32.set (by assumption) (by first | assumption | exact wid_lt (by assumption)) | exact W32.zeros _ | exact W32.nil) (by assumption) (by assumption) (by assumption) w333 (r246.ext m329).rng (r247.ext m329).rng), ?_⟩
            rintro _ w334 ⟨b'27, c'27, d'27, c2'27, rfl, h79, h80, h81, r248, r249, ge87, ge88, ne60, m330⟩
            refine ⟨(((((((((Mod.refl [] w211).nt m303).nt m304).nt m325).nt m326).nt m327).nt m328).nt m329).nt m330), ?_⟩
            refine DR.det (i := 5) rfl rfl (by kernel_rfl) (.free rfl) rfl rfl (fun wD mD => op_move rfl) ?_
            refine DR.det (i := 6) rfl rfl (by kernel_rfl) (.free rfl) rfl rfl (fun wD mD => op_extract rfl rfl) ?_
            refine DR.det (i := 7) rfl rfl (by kernel_rfl) (.free rfl) rfl rfl (fun wD mD => op_extract rfl rfl) ?_
            refine DR.det (i := 8) rfl rfl (by kernel_rfl) (.free rfl) rfl rfl (fun wD mD => op_extract rfl rfl) ?_
            refine DR.st1 (i := 11) rfl rfl (by kernel_rfl) (.free rfl) rfl ?_
            intro w335 m331
            refine Op1.mono (op_store (i := 0) (cs := [vS b'27 0 nNr c'27, vI ((z.i : Nat) : Int), vS d'27 0 nBr c2'27, vI ((z.h : Nat) : Int), vI Dk, vF Dc0, vF Dc1, vF Dc2, vF z.s0, vF z.s1, vF sl, vF lo]) rfl rfl rfl Try.sizeOf36 rfl (((((r245.ext m327).ext m328).ext m329).ext m330).ext m331) rfl (lB rfl) rfl) ?_
            rintro _ w336 ⟨r250, m332, z109⟩
            have r251 : Row w336 w329.heap.size 0 [vS b'27 0 nNr c'27, vI ((z.i : Nat) : Int), vS d'27 0 nBr c2'27, vI ((z.h : Nat) : Int), vI Dk, vF Dc0, vF Dc1, vF Dc2, vF z.s0, vF z.s1, vF sl, vF lo] := Row.congr r250 rfl
            refine ⟨(((((((((((Mod.refl [] w211).nt m303).nt m304).nt m325).nt m326).nt m327).nt m328).nt m329).nt m330).nt m331).then m332 ((aC (.inr (lT (lT (lT m303.size m304.size) m325.size) lR)) aN))), ?_⟩
            refine DR.st1 (i := 12) rfl rfl (by kernel_rfl) (.free rfl) rfl ?_
            intro w337 m333
            refine Op1.mono (op_store (i := 0) (cs := fl ou) rfl rfl rfl Try.sizeOf82 (fl_len h81) (((((((((r228.ext m325).ext m326).ext m327).ext m328).ext m329).ext m330).ext m331).mod m332 (nC (lE (lL (lL r228.lt m325.size) lR)) nN)).ext m333) rfl (by rw [fl_length, List.length_replicate]; decide) (fl_one _)) ?_
            rintro _ w338 ⟨r252, m334, z110⟩
            have r253 : Row w338 w307.heap.size 0 (fl ou) := Row.congr r252 (splice_all ((fl_len (List.length_replicate)).trans (fl_len (h81)).symm))
            refine ⟨(((((((((((((Mod.refl [] w211).nt m303).nt m304).nt m325).nt m326).nt m327).nt m328).nt m329).nt m330).nt m331).then m332 ((aC (.inr (lT (lT (lT m303.size m304.size) m325.size) lR)) aN))).nt m333).then m334 ((aC (.inr (lT m303.size lR)) aN))), ?_⟩
            refine DR.sub [(4, .bool false), (6, vP e1_9_0 0), (7, vP e1_10_0 0), (8, vI 0), (10, vP e2_8_0 0), (14, vI ((1 + nNr + nBr : Nat) : Int)), (15, vI ((1 + nNr + nBr : Nat) : Int)), (16, vP w329.heap.size 0), (17, vP w307.heap.size 0), (104, vI 0)] ⟨rfl, rfl, rfl, rfl, rfl, rfl, rfl, rfl, rfl, rfl, trivial⟩ ?_
            refine DR.meet rfl ?_
            intro w339 m335
            exact ⟨bNr'12, bBr'12, b'27, c'27, d'27, c2'27, w329.heap.size, w307.heap.size, rfl, (((((((r246.ext m329).ext m330).ext m331).mod m332 (nC (lG (lL (lL r245.lt m327.size) ge85)) nN)).ext m333).mod m334 (nC (lG (lL (lL r228.lt (lT (lT m325.size m326.size) m327.size)) ge85)) nN)).ext m335), (((((((r247.ext m329).ext m330).ext m331).mod m332 (nC (lG (lL (lL r245.lt m327.size) ge86)) nN)).ext m333).mod m334 (nC (lG (lL (lL r228.lt (lT (lT m325.size m326.size) m327.size)) ge86)) nN)).ext m335), (((((r248.ext m331).mod m332 (nC (lG (lL (lL r245.lt (lT (lT m327.size m328.size) m329.size)) ge87)) nN)).ext m333).mod m334 (nC (lG (lL (lL r228.lt (lT (lT (lT (lT m325.size m326.size) m327.size) m328.size) m329.size)) ge87)) nN)).ext m335), (((((r249.ext m331).mod m332 (nC (lG (lL (lL r245.lt (lT (lT m327.size m328.size) m329.size)) ge88)) nN)).ext m333).mod m334 (nC (lG (lL (lL r228.lt (lT (lT (lT (lT m325.size m326.size) m327.size) m328.size) m329.size)) ge88)) nN)).ext m335), (((r251.ext m333).mod m334 (nC (lG (lL (lL r228.lt m325.size) lR)) nN)).ext m335), (r253.ext m335), (lT (lT (lT (lT (lT (lT md4.size m303.size) m304.size) m325.size) m326.size) m327.size) ge85), (lT (lT (lT (lT (lT (lT md4.size m303.size) m304.size) m325.size) m326.size) m327.size) ge86), (lT (lT (lT (lT (lT (lT (lT (lT md4.size m303.size) m304.size) m325.size) m326.size) m327.size) m328.size) m329.size) ge87), (lT (lT (lT (lT (lT (lT (lT (lT md4.size m303.size) m304.size) m325.size) m326.size) m327.size) m328.size) m329.size) ge88), (lT (lT (lT (lT md4.size m303.size) m304.size) m325.size) lR), (lT (lT md4.size m303.size) lR), ne59, (lE (lL (lL r246.lt m329.size) ge87)), (lE (lL (lL r246.lt m329.size) ge88)), (lG (lL (lL r245.lt m327.size) ge85)), (lG (lL (lL r228.lt (lT (lT m325.size m326.size) m327.size)) ge85)), (lE (lL (lL r247.lt m329.size) ge87)), (lE (lL (lL r247.lt m329.size) ge88)), (lG (lL (lL r245.lt m327.size) ge86)), (lG (lL (lL r228.lt (lT (lT m325.size m326.size) m327.size)) ge86)), ne60, (lG (lL (lL r245.lt (lT (lT m327.size m328.size) m329.size)) ge87)), (lG (lL (lL r228.lt (lT (lT (lT (lT m325.size m326.size) m327.size) m328.size) m329.size)) ge87)), (lG (lL (lL r245.lt (lT (lT m327.size m328.size) m329.size)) ge88)), (lG (lL (lL r228.lt (lT (lT (lT (lT m325.size m326.size) m327.size) m328.size) m329.size)) ge88)), (lG (lL (lL r228.lt m325.size) lR)), h79, h80, h81, (((((((((((((((Mod.refl [] w210).nt md4).nt m303).nt m304).nt m325).nt m326).nt m327).nt m328).nt m329).nt m330).nt m331).then m332 ((aC (.inr (lT (lT (lT (lT md4.size m303.size) m304.size) m325.size) lR)) aN))).nt m333).then m334 ((aC (.inr (lT (lT md4.size m303.size) lR)) aN))).nt m335)⟩
      · rintro _ w340 ⟨e4_1_0, e4_1_1, e4_4_0, e4_4_1, e4_4_2, e4_4_3, e4_9_0, e4_10_0, rfl, rr4_0, rr4_1, rr4_2, rr4_3, rr4_4, rr4_5, ge89, ge90, ge91, ge92, ge93, ge94, ne61, ne62, ne63, ne64, ne65, ne66, ne67, ne68, ne69, ne70, ne71, ne72, ne73, ne74, ne75, hp4_4_0, hp4_4_1, hp4_4_2, m336⟩
        refine WO.det (op_assign rfl) rfl (.free rfl) rfl rfl ?_
        refine WO.end ?_
        refine NE.code ?_
        refine CE.seq ?_
        refine CE.seq ?_
        refine CE.region ?_
        refine WL.det (op_loadA (i := 0) (cs := [vS e4_4_0 0 nNr e4_4_1, vI ((z.i : Nat) : Int), vS e4_4_2 0 nBr e4_4_3, vI ((z.h : Nat) : Int), vI Dk, vF Dc0, vF Dc1, vF Dc2, vF z.s0, vF z.s1, vF sl, vF lo]) rfl Try.isAgg36 Try.sizeOf36 rr4_4.rng rfl rfl rfl) rfl rfl rfl ?_
        refine WL.det (op_loadA (i := 0) (cs := [vS e1_4_0 0 nNr e1_4_1, vI ((z.i : Nat) : Int), vS e1_4_2 0 nBr e1_4_3, vI ((z.h : Nat) : Int), vI Dk, vF Dc0, vF Dc1, vF Dc2, vF z.s0, vF z.s1, vF sl, vF lo]) rfl Try.isAgg36 Try.sizeOf36 (((((((((((((((((rr1_4.ext m133).ext m134).mod m135 (nC (lE (lL (lL rr1_4.lt m133.size) lR)) nN)).ext m196).ext m197).ext m198).ext md3).ext m199).ext m200).ext m201).ext m202).mod m203 (nC (lE (lL rr1_4.lt ge39)) (nC (lE (lL rr1_4.lt ge40)) nN))).ext m204).ext m205).mod m206 (nC (lE (lL (lL rr1_4.lt (lT (lT m133.size m134.size) m135.size)) ge51)) (nC (lE (lL (lL rr1_4.lt (lT (lT m133.size m134.size) m135.size)) ge52)) nN))).ext m207).ext m336).rng rfl rfl rfl) rfl rfl rfl ?_
        refine WL.call (oc_call (vs := [.agg #[vS e4_4_0 0 nNr e4_4_1, vI ((z.i : Nat) : Int), vS e4_4_2 0 nBr e4_4_3, vI ((z.h : Nat) : Int), vI Dk, vF Dc0, vF Dc1, vF Dc2, vF z.s0, vF z.s1, vF sl, vF lo], .agg #[vS e1_4_0 0 nNr e1_4_1, vI ((z.i : Nat) : Int), vS e1_4_2 0 nBr e1_4_3, vI ((z.h : Nat) : Int), vI Dk, vF Dc0, vF Dc1, vF Dc2, vF z.s0, vF z.s1, vF sl, vF lo]]) (cap := []) rfl rfl rfl Try.call16 (c_eqBow nNr e4_4_1 (some ⟨e4_4_0, 0, none⟩) e4_4_0 0 z.xs ((z.i : Nat) : Int) nBr e4_4_3 (some ⟨e4_4_2, 0, none⟩) e4_4_2 0 z.ys ((z.h : Nat) : Int) Dk Dc0 Dc0 Dc1 Dc1 Dc2 Dc2 z.s0 z.s0 z.s1 z.s1 sl sl lo lo e1_4_1 (some ⟨e1_4_0, 0, none⟩) e1_4_0 0 e1_4_3 (some ⟨e1_4_2, 0, none⟩) e1_4_2 0 Dc0 Dc1 Dc2 z.s0 z.s1 sl lo hp1_4_0 (fun _ => rfl) hp1_4_1 (fun _ => rfl) (fun _ => rfl) (fun _ => rfl) rfl rfl rfl rfl rfl rfl rfl rfl rfl rfl rfl rfl rfl rfl (by omega) (by omega) w340 rr4_2.rng rr4_3.rng (((((((((((((((((rr1_2.ext m133).ext m134).mod m135 (nC (lE (lL (lL rr1_2.lt m133.size) lR)) nN)).ext m196).ext m197).ext m198).ext md3).ext m199).ext m200).ext m201).ext m202).mod m203 (nC (lE (lL rr1_2.lt ge39)) (nC (lE (lL rr1_2.lt ge40)) nN))).ext m204).ext m205).mod m206 (nC (lE (lL (lL rr1_2.lt (lT (lT m133.size m134.size) m135.size)) ge51)) (nC (lE (lL (lL rr1_2.lt (lT (lT m133.size m134.size) m135.size)) ge52)) nN))).ext m207).ext m336).rng (((((((((((((((((rr1_3.ext m133).ext m134).mod m135 (nC (lE (lL (lL rr1_3.lt m133.size) lR)) nN)).ext m196).ext m197).ext m198).ext md3).ext m199).ext m200).ext m201).ext m202).mod m203 (nC (lE (lL rr1_3.lt ge39)) (nC (lE (lL rr1_3.lt ge40)) nN))).ext m204).ext m205).mod m206 (nC (lE (lL (lL rr1_3.lt (lT (lT m133.size m134.size) m135.size)) ge51)) (nC (lE (lL (lL rr1_3.lt (lT (lT m133.size m134.size) m135.size)) ge52)) nN))).ext m207).ext m336).rng)) rfl rfl (ltb rfl) ?_
        rintro _ w341 ⟨rfl, m337⟩
        refine WL.det (op_not rfl) rfl rfl rfl ?_
        refine WL.det (op_move rfl) rfl rfl rfl ?_
        refine WL.yes rfl rfl rfl (ltb rfl) rfl rfl ?_
        refine WL.det (op_loadA (i := 0) (cs := fl ou) rfl Try.isAgg82 Try.sizeOf82 (rr4_5.ext m337).rng rfl (fl_whole hp4_4_2) (fl_len hp4_4_2)) rfl rfl rfl ?_
        refine WL.yes rfl rfl rfl (ltb rfl) rfl rfl ?_
        refine WL.det (op_loadA (i := 0) (cs := fl ou) rfl Try.isAgg82 Try.sizeOf82 ((((((((((((((((((rr1_5.ext m133).ext m134).mod m135 (nC (lE (lL (lL rr1_5.lt m133.size) lR)) nN)).ext m196).ext m197).ext m198).ext md3).ext m199).ext m200).ext m201).ext m202).mod m203 (nC (lE (lL rr1_5.lt ge39)) (nC (lE (lL rr1_5.lt ge40)) nN))).ext m204).ext m205).mod m206 (nC (lE (lL (lL rr1_5.lt (lT (lT m133.size m134.size) m135.size)) ge51)) (nC (lE (lL (lL rr1_5.lt (lT (lT m133.size m134.size) m135.size)) ge52)) nN))).ext m207).ext m336).ext m337).rng rfl (fl_whole hp1_4_2) (fl_len hp1_4_2)) rfl rfl rfl ?_
        refine WL.yes rfl rfl rfl (ltb rfl) rfl rfl ?_
        refine WL.call (oc_call (vs := [.agg (fl ou).toArray, .agg (fl ou).toArray]) (cap := []) rfl rfl rfl Try.call51 (c_eqBlock_same ou hp1_4_2 w341)) rfl rfl (ltb rfl) ?_
        rintro _ w342 ⟨rfl, m338⟩
        refine WL.yes rfl rfl rfl (ltb rfl) rfl rfl ?_
        refine WL.det (op_not rfl) rfl rfl rfl ?_
        refine WL.det (op_pick_f rfl rfl rfl) rfl rfl rfl ?_
        refine WL.det (op_move rfl) rfl rfl rfl ?_
        refine WL.yes rfl rfl rfl (ltb rfl) rfl rfl ?_
        refine WL.det (op_move rfl) rfl rfl rfl ?_
        refine WL.yes rfl rfl rfl (ltb rfl) rfl rfl ?_
        refine WL.det (op_move rfl) rfl rfl rfl ?_
        refine WL.yes rfl rfl rfl (ltb rfl) rfl rfl ?_
        refine WL.det (op_nei rfl rfl) rfl rfl rfl ?_
        refine WL.det (op_pick_f rfl rfl rfl) rfl rfl rfl ?_
        refine WL.end ?_
        refine NE.code ?_
        refine CE.cond_f rfl rfl ?_
        refine CE.skip' ?_
        refine NE.code ?_
        refine CE.seq ?_
        refine CE.region ?_
        refine WL.det (op_assign rfl) rfl rfl rfl ?_
        refine WL.end ?_
        refine NE.code ?_
        refine CE.seq ?_
        refine CE.region ?_
        refine WL.det (op_loadA (i := 0) (cs := [vS e2_3_0 0 nNr e2_3_1, vI ((z.i : Nat) : Int), vS e2_3_2 0 nBr e2_3_3, vI ((z.h : Nat) : Int), vI Dk, vF Dc0, vF Dc1, vF Dc2, vF z.s0, vF z.s1, vF sl, vF lo]) rfl Try.isAgg36 Try.sizeOf36 (((((((((((((((rr2_2.ext m197).ext m198).ext md3).ext m199).ext m200).ext m201).ext m202).mod m203 (nC (lG (lL (lL r101.lt (lT m134.size m135.size)) ge53)) (nC (lG (lL (lL r102.lt (lT m134.size m135.size)) ge53)) nN))).ext m204).ext m205).mod m206 (nC (Ne.symm ne39) (nC (Ne.symm ne41) nN))).ext m207).ext m336).ext m337).ext m338).rng rfl rfl rfl) rfl rfl rfl ?_
        refine WL.det (op_move rfl) rfl rfl rfl ?_
        refine WL.call (oc_call (vs := [.agg #[vS e2_3_0 0 nNr e2_3_1, vI ((z.i : Nat) : Int), vS e2_3_2 0 nBr e2_3_3, vI ((z.h : Nat) : Int), vI Dk, vF Dc0, vF Dc1, vF Dc2, vF z.s0, vF z.s1, vF sl, vF lo], vI 1]) (cap := []) rfl rfl rfl Try.call18 (c_heldBow nNr e2_3_1 e2_3_0 (marks z.xs 1 nNr) ((z.i : Nat) : Int) nBr e2_3_3 e2_3_2 (marks z.ys (1 + nNr) nBr) ((z.h : Nat) : Int) Dk Dc0 Dc1 Dc2 z.s0 z.s1 sl lo 1 (marks_len hp2_3_0 (Nat.le_refl _)) (marks_len hp2_3_1 (Nat.le_refl _)) (by omega) (by omega) (by omega) (by first | assumption | exact marks_held _ _ _) (by first | assumption | exact marks_held _ _ _) w342 ((((r154.ext m207).ext m336).ext m337).ext m338).rng ((((r155.ext m207).ext m336).ext m337).ext m338).rng)) rfl rfl (ltb rfl) ?_
        rintro _ w343 ⟨rfl, m339⟩
        refine WL.det (op_assign rfl) rfl rfl rfl ?_
        refine WL.end ?_
        refine NE.code ?_
        refine CE.seq ?_
        refine CE.seq ?_
        refine CE.region ?_
        refine WL.det (op_move rfl) rfl rfl rfl ?_
        refine WL.det (op_lti_f rfl rfl (by omega)) rfl rfl rfl ?_
        refine WL.end ?_
        refine NE.code ?_
        refine CE.cond_f rfl rfl ?_
        refine CE.skip' ?_
        refine NE.code ?_
        refine CE.seq ?_
        refine CE.seq ?_
        refine CE.region ?_
        refine WL.det (op_move rfl) rfl rfl rfl ?_
        refine WL.det (op_move rfl) rfl rfl rfl ?_
        refine WL.det (op_nei_f rfl rfl rfl) rfl rfl rfl ?_
        refine WL.end ?_
        refine NE.code ?_
        refine CE.cond_f rfl rfl ?_
        refine CE.skip' ?_
        refine NE.code ?_
        refine CE.seq ?_
        refine CE.region ?_
        refine WL.det (op_assign rfl) rfl rfl rfl ?_
        refine WL.end ?_
        refine NE.code ?_
        refine CE.ret' ?_
        refine XE.leave1 Try.results11 rfl ?_
        refine ⟨rfl, (((((((((((((((((((((((((Mod.refl [] w).nt m1).nt m2).nt m3).nt m132).nt m133).nt m134).then m135 ((aC (.inr (lT (lT (lT (lT (lT m1.size m2.size) m3.size) m132.size) m133.size) lR)) aN))).nt m196).nt m197).nt m198).nt md3).nt m199).nt m200).nt m201).nt m202).then m203 ((aC (.inr (lT (lT (lT (lT m1.size m2.size) m3.size) m132.size) ge39)) (aC (.inr (lT (lT (lT (lT m1.size m2.size) m3.size) m132.size) ge40)) aN)))).nt m204).nt m205).then m206 ((aC (.inr (lT (lT (lT (lT (lT (lT (lT m1.size m2.size) m3.size) m132.size) m133.size) m134.size) m135.size) ge51)) (aC (.inr (lT (lT (lT (lT (lT (lT (lT m1.size m2.size) m3.size) m132.size) m133.size) m134.size) m135.size) ge52)) aN)))).nt m207).nt m336).nt m337).nt m338).nt m339)⟩

end Go.Proofs.Ytkgdhlhmckdcmaa
