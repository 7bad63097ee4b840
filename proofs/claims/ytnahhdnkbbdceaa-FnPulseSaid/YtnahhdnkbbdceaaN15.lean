/- Pressures in drawn pipes. -/
import Derived.Test.YtnahhdnkbbdceaaN10
import Derived.Test.YtnahhdnkbbdceaaS9
set_option linter.unusedVariables false
set_option linter.unusedSimpArgs false
set_option maxRecDepth 100000
set_option maxHeartbeats 8000000
namespace Go.Proofs.Ytnahhdnkbbdceaa

/-- where a place lies in the rings -/
def iR (z : PipeSt) (m pl : Nat) : Nat := ((z.R.getD m RD.d).at_.toNat + (z.R.getD m RD.d).xs.length - 1 - pl) % (z.R.getD m RD.d).xs.length
def iL (z : PipeSt) (m pl : Nat) : Nat := ((z.L.getD m RD.d).at_.toNat + pl) % (z.R.getD m RD.d).xs.length
/-- the pressure at a place -/
def prD (z : PipeSt) (m pl : Nat) : Nat := fop .add .f32 ((z.R.getD m RD.d).xs.getD (iR z m pl) 0) ((z.L.getD m RD.d).xs.getD (iL z m pl) 0)
theorem GoodD.at_nat {D : List RD} {n m : Nat} (h : GoodD D n) (hm : m < n) : (D.getD m RD.d).at_ = (((D.getD m RD.d).at_.toNat : Nat) : Int) ∧ (D.getD m RD.d).at_.toNat < (D.getD m RD.d).xs.length := by
  have a := h.ge m hm
  have b := h.lt m hm
  omega

theorem c_iPressA (nR : Nat) (nS : Nat) (xS : List Nat) (kc0 : Nat) (kc1 : Nat) (op : Bool) (lo : Nat) (re : Nat) (sl : Nat) (z : PipeSt) (cR : Nat) (bR : Nat) (PR : List BC) (loR : Nat) (cL : Nat) (bL : Nat) (PL : List BC) (loL : Nat) (cS : Nat) (bS : Nat) (m : Nat) (pl : Nat) (aR : Nat) (aL : Nat) (hdz : DPz nR nS xS kc0 kc1 lo re sl z 57) (lDR : z.R.length = nR) (lDL : z.L.length = nR) (lPR : PR.length = nR) (lPL : PL.length = nR) (lnS : xS.length = nS) (hm : m < nR) (hpl : pl < (z.R.getD m RD.d).xs.length) (heR : (z.R.getD m RD.d).at_ = ((aR : Nat) : Int)) (heL : (z.L.getD m RD.d).at_ = ((aL : Nat) : Int)) (hlR : aR < (z.R.getD m RD.d).xs.length) (hlL : aL < (z.L.getD m RD.d).xs.length) (w : World) (rR : Rng w bR 0 (olc z.R PR)) (rL : Rng w bL 0 (olc z.L PL)) (rS : Rng w bS 0 (fl xS))  (FR : OF loR w z.R PR) (FL : OF loL w z.L PL) : Cl Try.prog 39 #[.agg #[vS bR 0 nR cR, vS bL 0 nR cL, vS bS 0 nS cS, vI 1, vF kc0, vF kc1, vF 0, vF (z.s0), vF (z.s1), .bool op, vF lo, vF re, vF sl], vI ((m : Nat) : Int), vI ((pl : Nat) : Int)] w fun v w' => ∃ (y : Nat), v = .tuple #[vF y, vI 0] ∧ (cn .f32 y = cn .f32 (fop .add .f32 ((z.R.getD m RD.d).xs.getD ((aR + (z.R.getD m RD.d).xs.length - 1 - pl) % (z.R.getD m RD.d).xs.length) 0) ((z.L.getD m RD.d).xs.getD ((aL + pl) % (z.R.getD m RD.d).xs.length) 0))) ∧ (y < wid .f32) ∧ Mod [] w w' := by
 have hzm := hdz.small.1 m
 have hzl := hdz.small.2 m
 have hlen := hdz.ln m hm
 have hzr := hdz.small.1
 have hzs := hdz.small.2
 have hn1 := hdz.n1
 have hn3 := hdz.n3
 have hsn := hdz.sn
 have hIR : ((aR + (z.R.getD m RD.d).xs.length - 1 - pl) % (z.R.getD m RD.d).xs.length) < (z.R.getD m RD.d).xs.length := Nat.mod_lt _ (by omega)
 have hIL : ((aL + pl) % (z.R.getD m RD.d).xs.length) < (z.R.getD m RD.d).xs.length := Nat.mod_lt _ (by omega)
 refine Cl.of Try.func39 Try.ntmps39 rfl rfl (ρ := [(0, .agg #[vS bR 0 nR cR, vS bL 0 nR cL, vS bS 0 nS cS, vI 1, vF kc0, vF kc1, vF 0, vF (z.s0), vF (z.s1), .bool op, vF lo, vF re, vF sl]), (1, vI ((m : Nat) : Int)), (2, vI ((pl : Nat) : Int))]) rfl ?_
 refine CE.seq (CE.region ?_)
 refine WL.op (op_box (cs := [vS bR 0 nR cR, vS bL 0 nR cL, vS bS 0 nS cS, vI 1, vF kc0, vF kc1, vF 0, vF (z.s0), vF (z.s1), .bool op, vF lo, vF re, vF sl]) rfl rfl) rfl rfl (ltb rfl) ?_
 rintro _ w1 ⟨rfl, r1, m1, z1⟩
 iterate 2 refine WD (op_assign rfl) rfl ?_
 refine WL.end (NE.code (CE.seq (CE.seq (CE.region ?_))))
 refine WD (op_loadA (i := 0) (cs := [vS bR 0 nR cR, vS bL 0 nR cL, vS bS 0 nS cS, vI 1, vF kc0, vF kc1, vF 0, vF (z.s0), vF (z.s1), .bool op, vF lo, vF re, vF sl]) rfl Try.isAgg33 Try.sizeOf33 r1.rng rfl rfl rfl) rfl ?_
 refine WL.call (oc_call (vs := [.agg #[vS bR 0 nR cR, vS bL 0 nR cL, vS bS 0 nS cS, vI 1, vF kc0, vF kc1, vF 0, vF (z.s0), vF (z.s1), .bool op, vF lo, vF re, vF sl]]) (cap := []) rfl rfl rfl Try.call44 (c_ValidZ nR nS xS kc0 kc1 op lo re sl z cR bR PR loR cL bL PL loL cS bS (by first | with_reducible assumption | exact DPz.mono (by with_reducible assumption) (by omega) | exact zTo_dz (by with_reducible assumption) (by with_reducible assumption) (by with_reducible first | assumption | exact bd_take (by assumption) _) (by omega)) lDR lDL lPR lPL lnS w1 (rR.ext m1) (rL.ext m1) (rS.ext m1) (FR.ext m1) (FL.ext m1))) rfl rfl (ltb rfl) ?_
 rintro _ w2 ⟨rfl, m2⟩
 refine WD (op_not rfl) rfl ?_
 refine WL.end (NE.code ?_)
 refine CE.cond_f rfl rfl ?_
 refine CE.skip' (NE.code (CE.seq (CE.region ?_)))
 refine WD (op_loadA (i := 0) (cs := [vS bR 0 nR cR, vS bL 0 nR cL, vS bS 0 nS cS, vI 1, vF kc0, vF kc1, vF 0, vF (z.s0), vF (z.s1), .bool op, vF lo, vF re, vF sl]) rfl Try.isAgg33 Try.sizeOf33 (r1.ext m2).rng rfl rfl rfl) rfl ?_
 iterate 2 refine WD (op_move rfl) rfl ?_
 refine WL.call (oc_call (vs := [.agg #[vS bR 0 nR cR, vS bL 0 nR cL, vS bS 0 nS cS, vI 1, vF kc0, vF kc1, vF 0, vF (z.s0), vF (z.s1), .bool op, vF lo, vF re, vF sl], vI ((m : Nat) : Int), vI ((pl : Nat) : Int)]) (cap := []) rfl rfl rfl Try.call91 (c_placesS nR z.R nR z.L nS xS cR bR PR loR cL bL PL loL cS bS (1 : Int) kc0 kc1 0 (z.s0) (z.s1) op lo re sl m pl aR aL lDR lDL lnS (by first | assumption | exact rd_small (by assumption) (by assumption) | exact markD_small (by first | assumption | exact rd_small (by assumption) (by assumption)) _) (by first | assumption | exact rd_small (by assumption) (by assumption) | exact markD_small (by first | assumption | exact rd_small (by assumption) (by assumption)) _) lPR lPL (by first | assumption | omega) (by first | assumption | omega) (by first | assumption | omega) (by first | assumption | omega) (by first | assumption | omega) (by first | assumption | omega) (by assumption) (by assumption) (by first | assumption | omega) (by first | assumption | omega) w2 ((rR.ext m1).ext m2) ((rL.ext m1).ext m2) ((rS.ext m1).ext m2) ((FR.ext m1).ext m2) ((FL.ext m1).ext m2))) rfl rfl (ltb rfl) ?_
 rintro _ w3 ⟨rfl, m3⟩
 refine WD (op_move rfl) rfl ?_
 iterate 3 refine WD (op_extract rfl rfl) rfl ?_
 iterate 3 refine WD (op_assign rfl) rfl ?_
 refine WL.end (NE.code (CE.seq (CE.seq (CE.region ?_))))
 refine WD (op_move rfl) rfl ?_
 refine WD (op_not rfl) rfl ?_
 refine WL.end (NE.code ?_)
 refine CE.cond_f rfl rfl ?_
 refine CE.skip' (NE.code (CE.seq ?_))
 refine CE.draw (fun _ => none) [0, 1, 2, 3, 4, 5, 6, 7, 8, 9, 10, 11, 12, 13, 14, 15, 16, 17] [18, 19, 20] [] (by kernel_rfl) (by kernel_rfl) ?_
 have md1 : Mod [] w3 w3.drew := (Mod.refl _ _).drew
 generalize w3.drew = w4 at md1 ⊢
 refine DD 0 rfl (by kernel_rfl) rfl (fun wD mD => op_fieldAddr (off' := 0) rfl Try.runUnderlying33 rfl rfl Try.sizeOf25 rfl) ?_
 refine DD 1 rfl (by kernel_rfl) rfl (fun wD mD => op_load1 (i := 0) rfl Try.isAgg25 ((((r1.ext m2).ext m3).ext md1).ext mD).rng rfl rfl) ?_
 refine DD 2 rfl (by kernel_rfl) rfl (fun wD mD => op_move rfl) ?_
 refine DD 3 rfl (by kernel_rfl) rfl (fun wD mD => op_indexSl (off' := 0 + m * 2) rfl rfl rfl Try.runUnderlying25 Try.sizeOf60 (by omega) (by omega) (by omega)) ?_
 refine DD 4 rfl (by kernel_rfl) rfl (fun wD mD => op_fieldAddr (off' := 0 + m * 2) rfl Try.runUnderlying60 rfl rfl Try.sizeOf26 rfl) ?_
 refine DD 5 rfl (by kernel_rfl) rfl (fun wD mD => op_load1 (i := m * 2) rfl Try.isAgg26 (((((rR.ext m1).ext m2).ext m3).ext md1).ext mD) rfl (olc_get0 lDR lPR (show m < nR by omega))) ?_
 refine DD 6 rfl (by kernel_rfl) rfl (fun wD mD => op_move rfl) ?_
 refine DD 7 rfl (by kernel_rfl) rfl (fun wD mD => op_indexSl (off' := 0 + ((aR + (z.R.getD m RD.d).xs.length - 1 - pl) % (z.R.getD m RD.d).xs.length)) rfl rfl rfl Try.runUnderlying26 Try.sizeOf27 (by omega) (by omega) (by omega)) ?_
 refine DD 8 rfl (by kernel_rfl) rfl (fun wD mD => op_load1 (i := ((aR + (z.R.getD m RD.d).xs.length - 1 - pl) % (z.R.getD m RD.d).xs.length)) rfl Try.isAgg27 ((((((OF.row FR m (lQ (show m < nR by omega) lDR.symm)).ext m1).ext m2).ext m3).ext md1).ext mD).rng rfl (fl_get (by have eL : List.length ((z.R.getD m RD.d).xs) = (z.R.getD m RD.d).xs.length := rfl; omega))) ?_
 refine DD 9 rfl (by kernel_rfl) rfl (fun wD mD => op_fieldAddr (off' := 1) rfl Try.runUnderlying33 rfl rfl Try.sizeOf25 rfl) ?_
 refine DD 10 rfl (by kernel_rfl) rfl (fun wD mD => op_load1 (i := 1) rfl Try.isAgg25 ((((r1.ext m2).ext m3).ext md1).ext mD).rng rfl rfl) ?_
 refine DD 11 rfl (by kernel_rfl) rfl (fun wD mD => op_move rfl) ?_
 refine DD 12 rfl (by kernel_rfl) rfl (fun wD mD => op_indexSl (off' := 0 + m * 2) rfl rfl rfl Try.runUnderlying25 Try.sizeOf60 (by omega) (by omega) (by omega)) ?_
 refine DD 13 rfl (by kernel_rfl) rfl (fun wD mD => op_fieldAddr (off' := 0 + m * 2) rfl Try.runUnderlying60 rfl rfl Try.sizeOf26 rfl) ?_
 refine DD 14 rfl (by kernel_rfl) rfl (fun wD mD => op_load1 (i := m * 2) rfl Try.isAgg26 (((((rL.ext m1).ext m2).ext m3).ext md1).ext mD) rfl (olc_get0 lDL lPL (show m < nR by omega))) ?_
 refine DD 15 rfl (by kernel_rfl) rfl (fun wD mD => op_move rfl) ?_
 refine DD 16 rfl (by kernel_rfl) rfl (fun wD mD => op_indexSl (off' := 0 + ((aL + pl) % (z.R.getD m RD.d).xs.length)) rfl rfl rfl Try.runUnderlying26 Try.sizeOf27 (by omega) (by omega) (by omega)) ?_
 refine DD 17 rfl (by kernel_rfl) rfl (fun wD mD => op_load1 (i := ((aL + pl) % (z.R.getD m RD.d).xs.length)) rfl Try.isAgg27 ((((((OF.row FL m (lQ (show m < nR by omega) lDL.symm)).ext m1).ext m2).ext m3).ext md1).ext mD).rng rfl (fl_get (by have eL : List.length ((z.L.getD m RD.d).xs) = (z.L.getD m RD.d).xs.length := rfl; omega))) ?_
 refine DR.done rfl ?_
 intro w5 m4
 refine WO.op rfl (.free rfl) rfl (ltb rfl) (op_farith (e := (fop .add .f32 (((z.R.getD m RD.d).xs).getD ((aR + (z.R.getD m RD.d).xs.length - 1 - pl) % (z.R.getD m RD.d).xs.length) 0) (((z.L.getD m RD.d).xs).getD ((aL + pl) % (z.R.getD m RD.d).xs.length) 0))) (.inl rfl) rfl rfl rfl rfl rfl) ?_
 rintro _ w6 ⟨⟨f1, rfl, hf1, lf1⟩, m5⟩
 iterate 2 refine WO.det (op_assign rfl) rfl (.free rfl) rfl rfl ?_
 refine WO.end (NE.code (CE.ret' ?_))
 refine XE.leaveT Try.results39 (res_tmp rfl (res_tmp rfl res_nil)) ?_
 refine ⟨f1, rfl, ?_, ?_, (((((((Mod.refl [] w).nt m1).nt m2).nt m3).nt md1).nt m4).nt m5)⟩
 all_goals first | assumption | rfl

theorem c_sPressA (nR : Nat) (nS : Nat) (xS : List Nat) (kc0 : Nat) (kc1 : Nat) (op : Bool) (lo : Nat) (re : Nat) (sl : Nat) (z : PipeSt) (cR : Nat) (bR : Nat) (PR : List BC) (loR : Nat) (cL : Nat) (bL : Nat) (PL : List BC) (loL : Nat) (cS : Nat) (bS : Nat) (m : Nat) (pl : Nat) (aR : Nat) (aL : Nat) (hdz : DPz nR nS xS kc0 kc1 lo re sl z 57) (lDR : z.R.length = nR) (lDL : z.L.length = nR) (lPR : PR.length = nR) (lPL : PL.length = nR) (lnS : xS.length = nS) (hm : m < nR) (hpl : pl < (z.R.getD m RD.d).xs.length) (heR : (z.R.getD m RD.d).at_ = ((aR : Nat) : Int)) (heL : (z.L.getD m RD.d).at_ = ((aL : Nat) : Int)) (hlR : aR < (z.R.getD m RD.d).xs.length) (hlL : aL < (z.L.getD m RD.d).xs.length) (w : World) (rR : Rng w bR 0 (olc z.R PR)) (rL : Rng w bL 0 (olc z.L PL)) (rS : Rng w bS 0 (fl xS))  (FR : OF loR w z.R PR) (FL : OF loL w z.L PL) : Cl Try.prog 38 #[.agg #[vS bR 0 nR cR, vS bL 0 nR cL, vS bS 0 nS cS, vI 1, vF kc0, vF kc1, vF 0, vF (z.s0), vF (z.s1), .bool op, vF lo, vF re, vF sl], vI ((m : Nat) : Int), vI ((pl : Nat) : Int)] w fun v w' => ∃ (y : Nat), v = .tuple #[vF y, vI 0] ∧ (cn .f32 y = cn .f32 (fop .add .f32 ((z.R.getD m RD.d).xs.getD ((aR + (z.R.getD m RD.d).xs.length - 1 - pl) % (z.R.getD m RD.d).xs.length) 0) ((z.L.getD m RD.d).xs.getD ((aL + pl) % (z.R.getD m RD.d).xs.length) 0))) ∧ (y < wid .f32) ∧ Mod [] w w' := by
 have hzm := hdz.small.1 m
 have hzl := hdz.small.2 m
 have hlen := hdz.ln m hm
 have hzr := hdz.small.1
 have hzs := hdz.small.2
 have hn1 := hdz.n1
 have hn3 := hdz.n3
 have hsn := hdz.sn
 have hIR : ((aR + (z.R.getD m RD.d).xs.length - 1 - pl) % (z.R.getD m RD.d).xs.length) < (z.R.getD m RD.d).xs.length := Nat.mod_lt _ (by omega)
 have hIL : ((aL + pl) % (z.R.getD m RD.d).xs.length) < (z.R.getD m RD.d).xs.length := Nat.mod_lt _ (by omega)
 refine Cl.of Try.func38 Try.ntmps38 rfl rfl (ρ := [(0, .agg #[vS bR 0 nR cR, vS bL 0 nR cL, vS bS 0 nS cS, vI 1, vF kc0, vF kc1, vF 0, vF (z.s0), vF (z.s1), .bool op, vF lo, vF re, vF sl]), (1, vI ((m : Nat) : Int)), (2, vI ((pl : Nat) : Int))]) rfl ?_
 refine CE.seq (CE.region ?_)
 refine WL.op (op_box (cs := [vS bR 0 nR cR, vS bL 0 nR cL, vS bS 0 nS cS, vI 1, vF kc0, vF kc1, vF 0, vF (z.s0), vF (z.s1), .bool op, vF lo, vF re, vF sl]) rfl rfl) rfl rfl (ltb rfl) ?_
 rintro _ w1 ⟨rfl, r1, m1, z1⟩
 iterate 2 refine WD (op_assign rfl) rfl ?_
 refine WL.end (NE.code (CE.seq (CE.seq (CE.region ?_))))
 refine WL.call (oc_call (vs := [vP w.heap.size 0]) (cap := []) rfl rfl rfl Try.call57 (c_l04OkZ nR nS xS kc0 kc1 op lo re sl z cR bR PR loR cL bL PL loL cS bS w.heap.size (by first | with_reducible assumption | exact DPz.mono (by with_reducible assumption) (by omega) | exact zTo_dz (by with_reducible assumption) (by with_reducible assumption) (by with_reducible first | assumption | exact bd_take (by assumption) _) (by omega)) lDR lDL lPR lPL lnS w1 r1.rng (rR.ext m1) (rL.ext m1) (rS.ext m1) (FR.ext m1) (FL.ext m1))) rfl rfl (ltb rfl) ?_
 rintro _ w2 ⟨rfl, m2⟩
 refine WD (op_not rfl) rfl ?_
 refine WL.end (NE.code ?_)
 refine CE.cond_f rfl rfl ?_
 refine CE.skip' (NE.code (CE.seq (CE.seq (CE.region ?_))))
 iterate 2 refine WD (op_move rfl) rfl ?_
 refine WL.call (oc_call (vs := [vP w.heap.size 0, vI ((m : Nat) : Int), vI ((pl : Nat) : Int)]) (cap := []) rfl rfl rfl Try.call94 (c_l04PlaceS nR z.R nR z.L nS xS cR bR PR loR cL bL PL loL cS bS (1 : Int) kc0 kc1 0 (z.s0) (z.s1) op lo re sl w.heap.size ((m : Nat) : Int) ((pl : Nat) : Int) lDR lDL lnS (by first | assumption | exact rd_small (by assumption) (by assumption) | exact markD_small (by first | assumption | exact rd_small (by assumption) (by assumption)) _) (by first | assumption | exact rd_small (by assumption) (by assumption) | exact markD_small (by first | assumption | exact rd_small (by assumption) (by assumption)) _) lPR lPL (by first | assumption | omega) (by first | assumption | omega) (by first | assumption | omega) w2 (r1.ext m2).rng ((rR.ext m1).ext m2) ((rL.ext m1).ext m2) ((rS.ext m1).ext m2) ((FR.ext m1).ext m2) ((FL.ext m1).ext m2))) rfl rfl (ltb rfl) ?_
 rintro _ w3 ⟨rfl, m3⟩
 refine WD (op_not rfl) rfl ?_
 refine WL.end (NE.code ?_)
 refine CE.cond_f rfl (bnot_t (by simp only [Int.toNat_natCast, Bool.and_eq_true, vIn_t]; omega)) ?_
 refine CE.skip' (NE.code (CE.seq (CE.region ?_)))
 iterate 2 refine WD (op_move rfl) rfl ?_
 have r2 := (((rR.ext m1).ext m2).ext m3)
 have r3 := (((rL.ext m1).ext m2).ext m3)
 have r4 := (((rS.ext m1).ext m2).ext m3)
 refine WL.call (oc_call (vs := [vP w.heap.size 0, vI ((m : Nat) : Int), vI ((pl : Nat) : Int)]) (cap := []) rfl rfl rfl Try.call95 (c_l04IndexS nR z.R nR z.L nS xS cR bR PR loR cL bL PL loL cS bS (1 : Int) kc0 kc1 0 (z.s0) (z.s1) op lo re sl w.heap.size m pl aR aL lDR lDL lnS (by first | assumption | exact rd_small (by assumption) (by assumption) | exact markD_small (by first | assumption | exact rd_small (by assumption) (by assumption)) _) (by first | assumption | exact rd_small (by assumption) (by assumption) | exact markD_small (by first | assumption | exact rd_small (by assumption) (by assumption)) _) lPR lPL (by first | assumption | omega) (by first | assumption | omega) (by first | assumption | omega) (by first | assumption | omega) (by first | assumption | omega) (by first | assumption | omega) (by assumption) (by assumption) (by first | assumption | omega) (by first | assumption | omega) w3 ((r1.ext m2).ext m3).rng r2 r3 r4 (((FR.ext m1).ext m2).ext m3) (((FL.ext m1).ext m2).ext m3))) rfl rfl (ltb rfl) ?_
 rintro _ w4 ⟨rfl, m4⟩
 refine WD (op_move rfl) rfl ?_
 iterate 2 refine WD (op_extract rfl rfl) rfl ?_
 iterate 2 refine WD (op_assign rfl) rfl ?_
 refine WL.end (NE.code (CE.seq ?_))
 refine CE.draw (fun _ => none) [0, 1, 2, 3, 4, 5, 6, 7, 8, 9, 10, 11, 12, 13, 14, 15, 16, 17] [18, 19, 20] [] (by kernel_rfl) (by kernel_rfl) ?_
 have md1 : Mod [] w4 w4.drew := (Mod.refl _ _).drew
 generalize w4.drew = w5 at md1 ⊢
 refine DD 0 rfl (by kernel_rfl) rfl (fun wD mD => op_fieldAddr (off' := 0) rfl Try.runUnderlying33 rfl rfl Try.sizeOf25 rfl) ?_
 refine DD 1 rfl (by kernel_rfl) rfl (fun wD mD => op_load1 (i := 0) rfl Try.isAgg25 (((((r1.ext m2).ext m3).ext m4).ext md1).ext mD).rng rfl rfl) ?_
 refine DD 2 rfl (by kernel_rfl) rfl (fun wD mD => op_move rfl) ?_
 refine DD 3 rfl (by kernel_rfl) rfl (fun wD mD => op_indexSl (off' := 0 + m * 2) rfl rfl rfl Try.runUnderlying25 Try.sizeOf60 (by omega) (by omega) (by omega)) ?_
 refine DD 4 rfl (by kernel_rfl) rfl (fun wD mD => op_fieldAddr (off' := 0 + m * 2) rfl Try.runUnderlying60 rfl rfl Try.sizeOf26 rfl) ?_
 refine DD 5 rfl (by kernel_rfl) rfl (fun wD mD => op_load1 (i := m * 2) rfl Try.isAgg26 (((r2.ext m4).ext md1).ext mD) rfl (olc_get0 lDR lPR (show m < nR by omega))) ?_
 refine DD 6 rfl (by kernel_rfl) rfl (fun wD mD => op_move rfl) ?_
 refine DD 7 rfl (by kernel_rfl) rfl (fun wD mD => op_indexSl (off' := 0 + ((aR + (z.R.getD m RD.d).xs.length - 1 - pl) % (z.R.getD m RD.d).xs.length)) rfl rfl rfl Try.runUnderlying26 Try.sizeOf27 (by omega) (by omega) (by omega)) ?_
 refine DD 8 rfl (by kernel_rfl) rfl (fun wD mD => op_load1 (i := ((aR + (z.R.getD m RD.d).xs.length - 1 - pl) % (z.R.getD m RD.d).xs.length)) rfl Try.isAgg27 (((((((OF.row FR m (lQ (show m < nR by omega) lDR.symm)).ext m1).ext m2).ext m3).ext m4).ext md1).ext mD).rng rfl (fl_get (by have eL : List.length ((z.R.getD m RD.d).xs) = (z.R.getD m RD.d).xs.length := rfl; omega))) ?_
 refine DD 9 rfl (by kernel_rfl) rfl (fun wD mD => op_fieldAddr (off' := 1) rfl Try.runUnderlying33 rfl rfl Try.sizeOf25 rfl) ?_
 refine DD 10 rfl (by kernel_rfl) rfl (fun wD mD => op_load1 (i := 1) rfl Try.isAgg25 (((((r1.ext m2).ext m3).ext m4).ext md1).ext mD).rng rfl rfl) ?_
 refine DD 11 rfl (by kernel_rfl) rfl (fun wD mD => op_move rfl) ?_
 refine DD 12 rfl (by kernel_rfl) rfl (fun wD mD => op_indexSl (off' := 0 + m * 2) rfl rfl rfl Try.runUnderlying25 Try.sizeOf60 (by omega) (by omega) (by omega)) ?_
 refine DD 13 rfl (by kernel_rfl) rfl (fun wD mD => op_fieldAddr (off' := 0 + m * 2) rfl Try.runUnderlying60 rfl rfl Try.sizeOf26 rfl) ?_
 refine DD 14 rfl (by kernel_rfl) rfl (fun wD mD => op_load1 (i := m * 2) rfl Try.isAgg26 (((r3.ext m4).ext md1).ext mD) rfl (olc_get0 lDL lPL (show m < nR by omega))) ?_
 refine DD 15 rfl (by kernel_rfl) rfl (fun wD mD => op_move rfl) ?_
 refine DD 16 rfl (by kernel_rfl) rfl (fun wD mD => op_indexSl (off' := 0 + ((aL + pl) % (z.R.getD m RD.d).xs.length)) rfl rfl rfl Try.runUnderlying26 Try.sizeOf27 (by omega) (by omega) (by omega)) ?_
 refine DD 17 rfl (by kernel_rfl) rfl (fun wD mD => op_load1 (i := ((aL + pl) % (z.R.getD m RD.d).xs.length)) rfl Try.isAgg27 (((((((OF.row FL m (lQ (show m < nR by omega) lDL.symm)).ext m1).ext m2).ext m3).ext m4).ext md1).ext mD).rng rfl (fl_get (by have eL : List.length ((z.L.getD m RD.d).xs) = (z.L.getD m RD.d).xs.length := rfl; omega))) ?_
 refine DR.done rfl ?_
 intro w6 m5
 refine WO.op rfl (.free rfl) rfl (ltb rfl) (op_farith (e := (fop .add .f32 (((z.R.getD m RD.d).xs).getD ((aR + (z.R.getD m RD.d).xs.length - 1 - pl) % (z.R.getD m RD.d).xs.length) 0) (((z.L.getD m RD.d).xs).getD ((aL + pl) % (z.R.getD m RD.d).xs.length) 0))) (.inl rfl) rfl rfl rfl rfl rfl) ?_
 rintro _ w7 ⟨⟨f1, rfl, hf1, lf1⟩, m6⟩
 iterate 2 refine WO.det (op_assign rfl) rfl (.free rfl) rfl rfl ?_
 refine WO.end (NE.code (CE.ret' ?_))
 refine XE.leaveT Try.results38 (res_tmp rfl (res_tmp rfl res_nil)) ?_
 refine ⟨f1, rfl, ?_, ?_, ((((((((Mod.refl [] w).nt m1).nt m2).nt m3).nt m4).nt md1).nt m5).nt m6)⟩
 all_goals first | assumption | rfl

end Go.Proofs.Ytnahhdnkbbdceaa
