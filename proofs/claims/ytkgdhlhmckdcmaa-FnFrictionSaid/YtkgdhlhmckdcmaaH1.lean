/- What the functions on bows compute. -/
import Derived.Test.YtkgdhlhmckdcmaaH0
set_option linter.unusedVariables false
set_option linter.unusedSimpArgs false
namespace Go.Proofs.Ytkgdhlhmckdcmaa

def fricF (s d : Nat) : Nat :=
  let w := fop .add .f32 (absF (fop .mul .f32 s d)) 1061158912
  let f := fop .quo .f32 1065353216 (fop .mul .f32 (fop .mul .f32 w w) (fop .mul .f32 w w))
  if fGt .f32 f 1065353216 then 1065353216 else f
def vBow (n : Nat) (j : Int) (m : Nat) (jj : Int) (xs ys : List Nat) (dk : Int) (dc0 dc1 dc2 ds0 ds1 sl lo : Nat) : Bool :=
  (vRingF n j xs && vRingF m jj ys) && (vFil dk dc0 dc1 dc2 ds0 ds1 && (dk == 1)) && allF [sl, lo] 2
set_option maxRecDepth 100000 in
set_option maxHeartbeats 2000000 in
theorem c_friction (a : Nat) (x : Nat) (b : Nat) (y : Nat) (ha : cn .f32 a = cn .f32 x) (hb : cn .f32 b = cn .f32 y) (w : World) : Cl Try.prog 24 #[vF a, vF b] w fun v w' => ∃ (r : Nat), v = vF r ∧ (cn .f32 r = cn .f32 (fricF x y)) ∧ (r < wid .f32) ∧ Mod [] w w' := by
  refine Cl.of Try.func24 Try.ntmps24 rfl rfl (ρ := [(0, vF a), (1, vF b)]) rfl ?_
  refine CE.seq ?_
  refine CE.region ?_
  refine WL.det (op_assign rfl) rfl rfl rfl ?_
  refine WL.end ?_
  refine NE.code ?_
  refine CE.seq ?_
  refine CE.region ?_
  refine WL.det (op_move rfl) rfl rfl rfl ?_
  refine WL.det (op_move rfl) rfl rfl rfl ?_
  refine WL.op (op_farith (e := (fop .mul .f32 x y)) (.inr (.inr (.inl rfl))) rfl rfl ha hb rfl) rfl rfl (ltb rfl) ?_
  rintro _ w1 ⟨⟨f1, rfl, hf1, lf1⟩, m1⟩
  refine WL.call (oc_call (vs := [vF f1]) (cap := []) rfl rfl rfl Try.call75 (c_absolute f1 (fop .mul .f32 x y) hf1 lf1 w1)) rfl rfl (ltb rfl) ?_
  rintro _ w2 ⟨r1, rfl, h1, h2, m2⟩
  refine WL.op (op_farith (e := (fop .add .f32 (absF (fop .mul .f32 x y)) 1061158912)) (.inl rfl) rfl rfl h1 rfl rfl) rfl rfl (ltb rfl) ?_
  rintro _ w3 ⟨⟨f2, rfl, hf2, lf2⟩, m3⟩
  refine WL.det (op_assign rfl) rfl rfl rfl ?_
  refine WL.end ?_
  refine NE.code ?_
  refine CE.seq ?_
  refine CE.region ?_
  refine WL.det (op_move rfl) rfl rfl rfl ?_
  refine WL.det (op_move rfl) rfl rfl rfl ?_
  refine WL.op (op_farith (e := (fop .mul .f32 (fop .add .f32 (absF (fop .mul .f32 x y)) 1061158912) (fop .add .f32 (absF (fop .mul .f32 x y)) 1061158912))) (.inr (.inr (.inl rfl))) rfl rfl hf2 hf2 rfl) rfl rfl (ltb rfl) ?_
  rintro _ w4 ⟨⟨f3, rfl, hf3, lf3⟩, m4⟩
  refine WL.det (op_assign rfl) rfl rfl rfl ?_
  refine WL.end ?_
  refine NE.code ?_
  refine CE.seq ?_
  refine CE.region ?_
  refine WL.det (op_move rfl) rfl rfl rfl ?_
  refine WL.det (op_move rfl) rfl rfl rfl ?_
  refine WL.op (op_farith (e := (fop .mul .f32 (fop .mul .f32 (fop .add .f32 (absF (fop .mul .f32 x y)) 1061158912) (fop .add .f32 (absF (fop .mul .f32 x y)) 1061158912)) (fop .mul .f32 (fop .add .f32 (absF (fop .mul .f32 x y)) 1061158912) (fop .add .f32 (absF (fop .mul .f32 x y)) 1061158912)))) (.inr (.inr (.inl rfl))) rfl rfl hf3 hf3 rfl) rfl rfl (ltb rfl) ?_
  rintro _ w5 ⟨⟨f4, rfl, hf4, lf4⟩, m5⟩
  refine WL.op (op_farith (e := (fop .quo .f32 1065353216 (fop .mul .f32 (fop .mul .f32 (fop .add .f32 (absF (fop .mul .f32 x y)) 1061158912) (fop .add .f32 (absF (fop .mul .f32 x y)) 1061158912)) (fop .mul .f32 (fop .add .f32 (absF (fop .mul .f32 x y)) 1061158912) (fop .add .f32 (absF (fop .mul .f32 x y)) 1061158912))))) (.inr (.inr (.inr rfl))) rfl rfl rfl hf4 rfl) rfl rfl (ltb rfl) ?_
  rintro _ w6 ⟨⟨f5, rfl, hf5, lf5⟩, m6⟩
  refine WL.det (op_assign rfl) rfl rfl rfl ?_
  refine WL.end ?_
  refine NE.code ?_
  refine CE.seq ?_
  refine CE.seq ?_
  refine CE.region ?_
  refine WL.det (op_move rfl) rfl rfl rfl ?_
  refine WL.det (op_fgt (c := fGt .f32 (fop .quo .f32 1065353216 (fop .mul .f32 (fop .mul .f32 (fop .add .f32 (absF (fop .mul .f32 x y)) 1061158912) (fop .add .f32 (absF (fop .mul .f32 x y)) 1061158912)) (fop .mul .f32 (fop .add .f32 (absF (fop .mul .f32 x y)) 1061158912) (fop .add .f32 (absF (fop .mul .f32 x y)) 1061158912)))) 1065353216) rfl rfl hf5 rfl rfl) rfl rfl rfl ?_
  refine WL.end ?_
  refine NE.code ?_
  rcases Bool.eq_false_or_eq_true (fGt .f32 (fop .quo .f32 1065353216 (fop .mul .f32 (fop .mul .f32 (fop .add .f32 (absF (fop .mul .f32 x y)) 1061158912) (fop .add .f32 (absF (fop .mul .f32 x y)) 1061158912)) (fop .mul .f32 (fop .add .f32 (absF (fop .mul .f32 x y)) 1061158912) (fop .add .f32 (absF (fop .mul .f32 x y)) 1061158912)))) 1065353216) with hb1 | hb1
  · refine CE.cond_t rfl hb1 ?_
    refine CE.seq ?_
    refine CE.region ?_
    refine WL.det (op_assign rfl) rfl rfl rfl ?_
    refine WL.end ?_
    refine NE.code ?_
    refine CE.ret' ?_
    refine XE.ret_then ?_
    refine XE.leave1 Try.results24 rfl ?_
    refine ⟨1065353216, rfl, ?_, (by decide +kernel), (((((((Mod.refl [] w).nt m1).nt m2).nt m3).nt m4).nt m5).nt m6)⟩
    all_goals first | assumption | decide +kernel | (simp_all [fricF]; done)
  · refine CE.cond_f rfl hb1 ?_
    refine CE.skip' ?_
    refine NE.code ?_
    refine CE.seq ?_
    refine CE.region ?_
    refine WL.det (op_move rfl) rfl rfl rfl ?_
    refine WL.det (op_assign rfl) rfl rfl rfl ?_
    refine WL.end ?_
    refine NE.code ?_
    refine CE.ret' ?_
    refine XE.leave1 Try.results24 rfl ?_
    refine ⟨f5, rfl, ?_, lf5, (((((((Mod.refl [] w).nt m1).nt m2).nt m3).nt m4).nt m5).nt m6)⟩
    all_goals first | assumption | decide +kernel | (simp_all [fricF]; done)

set_option maxRecDepth 100000 in
set_option maxHeartbeats 2000000 in
theorem c_l05Friction (a : Nat) (x : Nat) (b : Nat) (y : Nat) (ha : cn .f32 a = cn .f32 x) (hb : cn .f32 b = cn .f32 y) (w : World) : Cl Try.prog 70 #[vF a, vF b] w fun v w' => ∃ (r : Nat), v = vF r ∧ (cn .f32 r = cn .f32 (fricF x y)) ∧ (r < wid .f32) ∧ Mod [] w w' := by
  refine Cl.of Try.func70 Try.ntmps70 rfl rfl (ρ := [(0, vF a), (1, vF b)]) rfl ?_
  refine CE.seq ?_
  refine CE.region ?_
  refine WL.det (op_assign rfl) rfl rfl rfl ?_
  refine WL.end ?_
  refine NE.code ?_
  refine CE.seq ?_
  refine CE.region ?_
  refine WL.det (op_move rfl) rfl rfl rfl ?_
  refine WL.det (op_move rfl) rfl rfl rfl ?_
  refine WL.op (op_farith (e := (fop .mul .f32 x y)) (.inr (.inr (.inl rfl))) rfl rfl ha hb rfl) rfl rfl (ltb rfl) ?_
  rintro _ w1 ⟨⟨f1, rfl, hf1, lf1⟩, m1⟩
  refine WL.call (oc_call (vs := [vF f1]) (cap := []) rfl rfl rfl Try.call105 (c_l01Abs f1 (fop .mul .f32 x y) hf1 lf1 w1)) rfl rfl (ltb rfl) ?_
  rintro _ _ ⟨rfl, rfl⟩
  refine WL.op (op_farith (e := (fop .add .f32 (absF (fop .mul .f32 x y)) 1061158912)) (.inl rfl) rfl rfl (absF_congr hf1) rfl rfl) rfl rfl (ltb rfl) ?_
  rintro _ w2 ⟨⟨f2, rfl, hf2, lf2⟩, m2⟩
  refine WL.det (op_assign rfl) rfl rfl rfl ?_
  refine WL.end ?_
  refine NE.code ?_
  refine CE.seq ?_
  refine CE.region ?_
  refine WL.det (op_move rfl) rfl rfl rfl ?_
  refine WL.det (op_move rfl) rfl rfl rfl ?_
  refine WL.op (op_farith (e := (fop .mul .f32 (fop .add .f32 (absF (fop .mul .f32 x y)) 1061158912) (fop .add .f32 (absF (fop .mul .f32 x y)) 1061158912))) (.inr (.inr (.inl rfl))) rfl rfl hf2 hf2 rfl) rfl rfl (ltb rfl) ?_
  rintro _ w3 ⟨⟨f3, rfl, hf3, lf3⟩, m3⟩
  refine WL.det (op_assign rfl) rfl rfl rfl ?_
  refine WL.end ?_
  refine NE.code ?_
  refine CE.seq ?_
  refine CE.region ?_
  refine WL.det (op_move rfl) rfl rfl rfl ?_
  refine WL.det (op_move rfl) rfl rfl rfl ?_
  refine WL.op (op_farith (e := (fop .mul .f32 (fop .mul .f32 (fop .add .f32 (absF (fop .mul .f32 x y)) 1061158912) (fop .add .f32 (absF (fop .mul .f32 x y)) 1061158912)) (fop .mul .f32 (fop .add .f32 (absF (fop .mul .f32 x y)) 1061158912) (fop .add .f32 (absF (fop .mul .f32 x y)) 1061158912)))) (.inr (.inr (.inl rfl))) rfl rfl hf3 hf3 rfl) rfl rfl (ltb rfl) ?_
  rintro _ w4 ⟨⟨f4, rfl, hf4, lf4⟩, m4⟩
  refine WL.op (op_farith (e := (fop .quo .f32 1065353216 (fop .mul .f32 (fop .mul .f32 (fop .add .f32 (absF (fop .mul .f32 x y)) 1061158912) (fop .add .f32 (absF (fop .mul .f32 x y)) 1061158912)) (fop .mul .f32 (fop .add .f32 (absF (fop .mul .f32 x y)) 1061158912) (fop .add .f32 (absF (fop .mul .f32 x y)) 1061158912))))) (.inr (.inr (.inr rfl))) rfl rfl rfl hf4 rfl) rfl rfl (ltb rfl) ?_
  rintro _ w5 ⟨⟨f5, rfl, hf5, lf5⟩, m5⟩
  refine WL.det (op_assign rfl) rfl rfl rfl ?_
  refine WL.end ?_
  refine NE.code ?_
  refine CE.seq ?_
  refine CE.seq ?_
  refine CE.region ?_
  refine WL.det (op_move rfl) rfl rfl rfl ?_
  refine WL.det (op_fgt (c := fGt .f32 (fop .quo .f32 1065353216 (fop .mul .f32 (fop .mul .f32 (fop .add .f32 (absF (fop .mul .f32 x y)) 1061158912) (fop .add .f32 (absF (fop .mul .f32 x y)) 1061158912)) (fop .mul .f32 (fop .add .f32 (absF (fop .mul .f32 x y)) 1061158912) (fop .add .f32 (absF (fop .mul .f32 x y)) 1061158912)))) 1065353216) rfl rfl hf5 rfl rfl) rfl rfl rfl ?_
  refine WL.end ?_
  refine NE.code ?_
  rcases Bool.eq_false_or_eq_true (fGt .f32 (fop .quo .f32 1065353216 (fop .mul .f32 (fop .mul .f32 (fop .add .f32 (absF (fop .mul .f32 x y)) 1061158912) (fop .add .f32 (absF (fop .mul .f32 x y)) 1061158912)) (fop .mul .f32 (fop .add .f32 (absF (fop .mul .f32 x y)) 1061158912) (fop .add .f32 (absF (fop .mul .f32 x y)) 1061158912)))) 1065353216) with hb1 | hb1
  · refine CE.cond_t rfl hb1 ?_
    refine CE.seq ?_
    refine CE.region ?_
    refine WL.det (op_assign rfl) rfl rfl rfl ?_
    refine WL.end ?_
    refine NE.code ?_
    refine CE.ret' ?_
    refine XE.ret_then ?_
    refine XE.leave1 Try.results70 rfl ?_
    refine ⟨1065353216, rfl, ?_, (by decide +kernel), ((((((Mod.refl [] w).nt m1).nt m2).nt m3).nt m4).nt m5)⟩
    all_goals first | assumption | decide +kernel | (simp_all [fricF]; done)
  · refine CE.cond_f rfl hb1 ?_
    refine CE.skip' ?_
    refine NE.code ?_
    refine CE.seq ?_
    refine CE.region ?_
    refine WL.det (op_move rfl) rfl rfl rfl ?_
    refine WL.det (op_assign rfl) rfl rfl rfl ?_
    refine WL.end ?_
    refine NE.code ?_
    refine CE.ret' ?_
    refine XE.leave1 Try.results70 rfl ?_
    refine ⟨f5, rfl, ?_, lf5, ((((((Mod.refl [] w).nt m1).nt m2).nt m3).nt m4).nt m5)⟩
    all_goals first | assumption | decide +kernel | (simp_all [fricF]; done)

set_option maxRecDepth 100000 in
set_option maxHeartbeats 2000000 in
theorem c_ValidBow (n : Nat) (c : Nat) (b : Nat) (xs : List Nat) (m : Nat) (c2 : Nat) (d : Nat) (ys : List Nat) (j : Int) (jj : Int) (dk : Int) (dc0 : Nat) (dc1 : Nat) (dc2 : Nat) (ds0 : Nat) (ds1 : Nat) (sl : Nat) (lo : Nat) (ln : xs.length = n) (lm : ys.length = m) (hn : n ≤ 1048576) (hm : m ≤ 1048576) (w : World) (r : Rng w b 0 (fl xs)) (ry : Rng w d 0 (fl ys)) : Cl Try.prog 61 #[.agg #[vS b 0 n c, vI j, vS d 0 m c2, vI jj, vI dk, vF dc0, vF dc1, vF dc2, vF ds0, vF ds1, vF sl, vF lo]] w fun v w' => v = .bool (vBow n j m jj xs ys dk dc0 dc1 dc2 ds0 ds1 sl lo) ∧ Mod [] w w' := by
  refine Cl.of Try.func61 Try.ntmps61 rfl rfl (ρ := [(0, .agg #[vS b 0 n c, vI j, vS d 0 m c2, vI jj, vI dk, vF dc0, vF dc1, vF dc2, vF ds0, vF ds1, vF sl, vF lo])]) rfl ?_
  refine CE.seq ?_
  refine CE.region ?_
  refine WL.op (op_box (cs := [vS b 0 n c, vI j, vS d 0 m c2, vI jj, vI dk, vF dc0, vF dc1, vF dc2, vF ds0, vF ds1, vF sl, vF lo]) rfl rfl) rfl rfl (ltb rfl) ?_
  rintro _ w1 ⟨rfl, r1, m1, z1⟩
  refine WL.det (op_assign rfl) rfl rfl rfl ?_
  refine WL.end ?_
  refine NE.code ?_
  refine CE.seq ?_
  refine CE.region ?_
  refine WL.det (op_fieldAddr (off' := 0) rfl Try.runUnderlying36 rfl rfl Try.sizeOf33 rfl) rfl rfl rfl ?_
  refine WL.det (op_loadA (i := 0) (cs := [vS b 0 n c, vI j]) rfl Try.isAgg33 Try.sizeOf33 r1.rng rfl rfl rfl) rfl rfl rfl ?_
  refine WL.call (oc_call (vs := [.agg #[vS b 0 n c, vI j]]) (cap := []) rfl rfl rfl Try.call97 (c_isRing n c b xs j ln (by omega) w1 (r.ext m1))) rfl rfl (ltb rfl) ?_
  rintro _ w2 ⟨rfl, m2⟩
  refine WL.det (op_move rfl) rfl rfl rfl ?_
  rcases Bool.eq_false_or_eq_true (vRingF n j xs) with hb1 | hb1
  · refine WL.yes rfl rfl rfl (ltb rfl) rfl hb1 ?_
    refine WL.det (op_fieldAddr (off' := 2) rfl Try.runUnderlying36 rfl rfl Try.sizeOf33 rfl) rfl rfl rfl ?_
    refine WL.yes rfl rfl rfl (ltb rfl) rfl hb1 ?_
    refine WL.det (op_loadA (i := 2) (cs := [vS d 0 m c2, vI jj]) rfl Try.isAgg33 Try.sizeOf33 (r1.ext m2).rng rfl rfl rfl) rfl rfl rfl ?_
    refine WL.yes rfl rfl rfl (ltb rfl) rfl hb1 ?_
    refine WL.call (oc_call (vs := [.agg #[vS d 0 m c2, vI jj]]) (cap := []) rfl rfl rfl Try.call97 (c_isRing m c2 d ys jj lm (by omega) w2 ((ry.ext m1).ext m2))) rfl rfl (ltb rfl) ?_
    rintro _ w3 ⟨rfl, m3⟩
    refine WL.det (op_pick_t rfl hb1 rfl) rfl rfl rfl ?_
    refine WL.det (op_move rfl) rfl rfl rfl ?_
    rcases Bool.eq_false_or_eq_true (vRingF m jj ys) with hb2 | hb2
    · refine WL.yes rfl rfl rfl (ltb rfl) rfl hb2 ?_
      refine WL.det (op_fieldAddr (off' := 4) rfl Try.runUnderlying36 rfl rfl Try.sizeOf34 rfl) rfl rfl rfl ?_
      refine WL.yes rfl rfl rfl (ltb rfl) rfl hb2 ?_
      refine WL.det (op_loadA (i := 4) (cs := [vI dk, vF dc0, vF dc1, vF dc2, vF ds0, vF ds1]) rfl Try.isAgg34 Try.sizeOf34 ((r1.ext m2).ext m3).rng rfl rfl rfl) rfl rfl rfl ?_
      refine WL.yes rfl rfl rfl (ltb rfl) rfl hb2 ?_
      refine WL.call (oc_call (vs := [.agg #[vI dk, vF dc0, vF dc1, vF dc2, vF ds0, vF ds1], vI 1]) (cap := []) rfl rfl rfl Try.call98 (c_isFilter dk dc0 dc1 dc2 ds0 ds1 (1 : Int) w3)) rfl rfl (ltb rfl) ?_
      rintro _ w4 ⟨rfl, m4⟩
      refine WL.det (op_pick_t rfl hb2 rfl) rfl rfl rfl ?_
      refine WL.det (op_move rfl) rfl rfl rfl ?_
      rcases Bool.eq_false_or_eq_true ((vFil dk dc0 dc1 dc2 ds0 ds1 && (dk == (1 : Int)))) with hb3 | hb3
      · have hp3 := hb3; try simp only [Bool.and_eq_true, Bool.or_eq_true, Bool.not_eq_true', Bool.not_eq_false', Bool.and_eq_false_iff, Bool.or_eq_false_iff, decide_eq_true_eq, decide_eq_false_iff_not, beq_iff_eq, bne_iff_ne, beq_eq_false_iff_ne, bne_eq_false_iff_eq, ne_eq, Bool.false_eq_true, not_false_eq_true, not_true_eq_false, vIn_t, vIn_f] at hp3
        refine WL.yes rfl rfl rfl (ltb rfl) rfl hb3 ?_
        refine WL.det (op_fieldAddr (off' := 10) rfl Try.runUnderlying36 rfl rfl Try.sizeOf25 rfl) rfl rfl rfl ?_
        refine WL.yes rfl rfl rfl (ltb rfl) rfl hb3 ?_
        refine WL.det (op_load1 (i := 10) rfl Try.isAgg25 (((r1.ext m2).ext m3).ext m4).rng rfl rfl) rfl rfl rfl ?_
        refine WL.yes rfl rfl rfl (ltb rfl) rfl hb3 ?_
        refine WL.det (op_fieldAddr (off' := 11) rfl Try.runUnderlying36 rfl rfl Try.sizeOf25 rfl) rfl rfl rfl ?_
        refine WL.yes rfl rfl rfl (ltb rfl) rfl hb3 ?_
        refine WL.det (op_load1 (i := 11) rfl Try.isAgg25 (((r1.ext m2).ext m3).ext m4).rng rfl rfl) rfl rfl rfl ?_
        refine WL.yes rfl rfl rfl (ltb rfl) rfl hb3 ?_
        refine WL.op (op_buildSl (qs := [(0, vF sl), (1, vF lo)]) (cells := #[vF sl, vF lo]) rfl Try.runUnderlying22 Try.sizeOf25 Try.zeroValue25 (by decide) (by decide) (by kernel_rfl)) rfl rfl (ltb rfl) ?_
        rintro _ w5 ⟨rfl, r2, m5, z2⟩
        refine WL.yes rfl rfl rfl (ltb rfl) rfl hb3 ?_
        refine WL.call (oc_call (vs := [vS w4.heap.size 0 2 2]) (cap := []) rfl rfl rfl Try.call99 (c_areFinite 2 2 w4.heap.size [sl, lo] rfl (by omega) w5 r2.rng)) rfl rfl (ltb rfl) ?_
        rintro _ w6 ⟨rfl, m6⟩
        refine WL.det (op_pick_t rfl hb3 rfl) rfl rfl rfl ?_
        refine WL.det (op_assign rfl) rfl rfl rfl ?_
        refine WL.end ?_
        refine NE.code ?_
        refine CE.ret' ?_
        refine XE.leave1 Try.results61 rfl ?_
        refine ⟨?_, (((((((Mod.refl [] w).nt m1).nt m2).nt m3).nt m4).nt m5).nt m6)⟩
        all_goals simp_all [vBow]
      · have hp3 := hb3; try simp only [Bool.and_eq_true, Bool.or_eq_true, Bool.not_eq_true', Bool.not_eq_false', Bool.and_eq_false_iff, Bool.or_eq_false_iff, decide_eq_true_eq, decide_eq_false_iff_not, beq_iff_eq, bne_iff_ne, beq_eq_false_iff_ne, bne_eq_false_iff_eq, ne_eq, Bool.false_eq_true, not_false_eq_true, not_true_eq_false, vIn_t, vIn_f] at hp3
        refine WL.no rfl rfl rfl (ltb rfl) rfl hb3 rfl (ltb rfl) ?_
        refine WL.no rfl rfl rfl (ltb rfl) rfl hb3 rfl (ltb rfl) ?_
        refine WL.no rfl rfl rfl (ltb rfl) rfl hb3 rfl (ltb rfl) ?_
        refine WL.no rfl rfl rfl (ltb rfl) rfl hb3 rfl (ltb rfl) ?_
        refine WL.no rfl rfl rfl (ltb rfl) rfl hb3 rfl (ltb rfl) ?_
        refine WL.no rfl rfl rfl (ltb rfl) rfl hb3 rfl (ltb rfl) ?_
        refine WL.det (op_pick_f rfl hb3 rfl) rfl rfl rfl ?_
        refine WL.det (op_assign rfl) rfl rfl rfl ?_
        refine WL.end ?_
        refine NE.code ?_
        refine CE.ret' ?_
        refine XE.leave1 Try.results61 rfl ?_
        refine ⟨?_, (((((Mod.refl [] w).nt m1).nt m2).nt m3).nt m4)⟩
        all_goals simp_all [vBow]
    · refine WL.no rfl rfl rfl (ltb rfl) rfl hb2 rfl (ltb rfl) ?_
      refine WL.no rfl rfl rfl (ltb rfl) rfl hb2 rfl (ltb rfl) ?_
      refine WL.no rfl rfl rfl (ltb rfl) rfl hb2 rfl (ltb rfl) ?_
      refine WL.det (op_pick_f rfl hb2 rfl) rfl rfl rfl ?_
      refine WL.det (op_move rfl) rfl rfl rfl ?_
      refine WL.no rfl rfl rfl (ltb rfl) rfl rfl rfl (ltb rfl) ?_
      refine WL.no rfl rfl rfl (ltb rfl) rfl rfl rfl (ltb rfl) ?_
      refine WL.no rfl rfl rfl (ltb rfl) rfl rfl rfl (ltb rfl) ?_
      refine WL.no rfl rfl rfl (ltb rfl) rfl rfl rfl (ltb rfl) ?_
      refine WL.no rfl rfl rfl (ltb rfl) rfl rfl rfl (ltb rfl) ?_
      refine WL.no rfl rfl rfl (ltb rfl) rfl rfl rfl (ltb rfl) ?_
      refine WL.det (op_pick_f rfl rfl rfl) rfl rfl rfl ?_
      refine WL.det (op_assign rfl) rfl rfl rfl ?_
      refine WL.end ?_
      refine NE.code ?_
      refine CE.ret' ?_
      refine XE.leave1 Try.results61 rfl ?_
      refine ⟨?_, ((((Mod.refl [] w).nt m1).nt m2).nt m3)⟩
      all_goals simp_all [vBow]
  · refine WL.no rfl rfl rfl (ltb rfl) rfl hb1 rfl (ltb rfl) ?_
    refine WL.no rfl rfl rfl (ltb rfl) rfl hb1 rfl (ltb rfl) ?_
    refine WL.no rfl rfl rfl (ltb rfl) rfl hb1 rfl (ltb rfl) ?_
    refine WL.det (op_pick_f rfl hb1 rfl) rfl rfl rfl ?_
    refine WL.det (op_move rfl) rfl rfl rfl ?_
    refine WL.no rfl rfl rfl (ltb rfl) rfl rfl rfl (ltb rfl) ?_
    refine WL.no rfl rfl rfl (ltb rfl) rfl rfl rfl (ltb rfl) ?_
    refine WL.no rfl rfl rfl (ltb rfl) rfl rfl rfl (ltb rfl) ?_
    refine WL.det (op_pick_f rfl rfl rfl) rfl rfl rfl ?_
    refine WL.det (op_move rfl) rfl rfl rfl ?_
    refine WL.no rfl rfl rfl (ltb rfl) rfl rfl rfl (ltb rfl) ?_
    refine WL.no rfl rfl rfl (ltb rfl) rfl rfl rfl (ltb rfl) ?_
    refine WL.no rfl rfl rfl (ltb rfl) rfl rfl rfl (ltb rfl) ?_
    refine WL.no rfl rfl rfl (ltb rfl) rfl rfl rfl (ltb rfl) ?_
    refine WL.no rfl rfl rfl (ltb rfl) rfl rfl rfl (ltb rfl) ?_
    refine WL.no rfl rfl rfl (ltb rfl) rfl rfl rfl (ltb rfl) ?_
    refine WL.det (op_pick_f rfl rfl rfl) rfl rfl rfl ?_
    refine WL.det (op_assign rfl) rfl rfl rfl ?_
    refine WL.end ?_
    refine NE.code ?_
    refine CE.ret' ?_
    refine XE.leave1 Try.results61 rfl ?_
    refine ⟨?_, (((Mod.refl [] w).nt m1).nt m2)⟩
    all_goals simp_all [vBow]

set_option maxRecDepth 100000 in
set_option maxHeartbeats 2000000 in
theorem c_l05Bow (n : Nat) (c : Nat) (b : Nat) (xs : List Nat) (m : Nat) (c2 : Nat) (d : Nat) (ys : List Nat) (j : Int) (jj : Int) (dk : Int) (dc0 : Nat) (dc1 : Nat) (dc2 : Nat) (ds0 : Nat) (ds1 : Nat) (sl : Nat) (lo : Nat) (p : Nat) (k : Nat) (vs : List Value) (ln : xs.length = n) (lm : ys.length = m) (hn : n ≤ 1048576) (hm : m ≤ 1048576) (hk : k + 12 ≤ vs.length) (w : World) (q : Rng w p 0 (splice vs k [vS b 0 n c, vI j, vS d 0 m c2, vI jj, vI dk, vF dc0, vF dc1, vF dc2, vF ds0, vF ds1, vF sl, vF lo])) (r : Rng w b 0 (fl xs)) (ry : Rng w d 0 (fl ys)) : Cl Try.prog 55 #[vP p k] w fun v w' => v = .bool (vBow n j m jj xs ys dk dc0 dc1 dc2 ds0 ds1 sl lo) ∧ Mod [] w w' := by
  refine Cl.of Try.func55 Try.ntmps55 rfl rfl (ρ := [(0, vP p k)]) rfl ?_
  refine CE.seq ?_
  refine CE.region ?_
  refine WL.det (op_assign rfl) rfl rfl rfl ?_
  refine WL.end ?_
  refine NE.code ?_
  refine CE.seq ?_
  rcases Bool.eq_false_or_eq_true ((vRingF n j xs && vRingF m jj ys)) with hb1 | hb1
  · rcases Bool.eq_false_or_eq_true (vFil dk dc0 dc1 dc2 ds0 ds1) with hb2 | hb2
    · rcases Bool.eq_false_or_eq_true ((dk == (1 : Int))) with hb3 | hb3
      · have hp3 := hb3; try simp only [Bool.and_eq_true, Bool.or_eq_true, Bool.not_eq_true', Bool.not_eq_false', Bool.and_eq_false_iff, Bool.or_eq_false_iff, decide_eq_true_eq, decide_eq_false_iff_not, beq_iff_eq, bne_iff_ne, beq_eq_false_iff_ne, bne_eq_false_iff_eq, ne_eq, Bool.false_eq_true, not_false_eq_true, not_true_eq_false, vIn_t, vIn_f] at hp3
        refine CE.draw (fun | 9 => some (fun _ wA uA wB => uA = .bool (vRingF n j xs && vRingF m jj ys) ∧ Mod [] wA wB) | 14 => some (fun _ wA uA wB => uA = .bool (vFil dk dc0 dc1 dc2 ds0 ds1) ∧ Mod [] wA wB) | _ => none) [0, 1, 2, 3, 4, 5, 6, 7, 8, 9, 10, 11, 12, 13, 14, 15, 16, 17, 18, 19, 20, 21, 22, 23, 24, 25, 26, 27, 28, 29, 30, 31, 32] [33, 34, 35, 36] [] (by kernel_rfl) (by kernel_rfl) ?_
        have md1 : Mod [] w w.drew := (Mod.refl _ _).drew
        generalize w.drew = w1 at md1 ⊢
        refine DR.det (i := 0) rfl rfl (by kernel_rfl) (.free rfl) rfl rfl (fun wD mD => op_move rfl) ?_
        refine DR.det (i := 1) rfl rfl (by kernel_rfl) (.free rfl) rfl rfl (fun wD mD => op_nilCheck rfl) ?_
        refine DR.det (i := 2) rfl rfl (by kernel_rfl) (.free rfl) rfl rfl (fun wD mD => op_fieldAddr (off' := k) rfl Try.runUnderlying36 rfl rfl Try.sizeOf33 rfl) ?_
        refine DR.det (i := 3) rfl rfl (by kernel_rfl) (.free rfl) rfl rfl (fun wD mD => op_loadA (i := k) (cs := [vS b 0 n c, vI j]) rfl Try.isAgg33 Try.sizeOf33 ((q.ext md1).ext mD) (Nat.zero_add _) (sub_take (i := 0) hk (lB rfl) rfl) rfl) ?_
        refine DR.det (i := 4) rfl rfl (by kernel_rfl) (.free rfl) rfl rfl (fun wD mD => op_move rfl) ?_
        refine DR.det (i := 5) rfl rfl (by kernel_rfl) (.free rfl) rfl rfl (fun wD mD => op_nilCheck rfl) ?_
        refine DR.det (i := 6) rfl rfl (by kernel_rfl) (.free rfl) rfl rfl (fun wD mD => op_fieldAddr (off' := k + 2) rfl Try.runUnderlying36 rfl rfl Try.sizeOf33 rfl) ?_
        refine DR.det (i := 7) rfl rfl (by kernel_rfl) (.free rfl) rfl rfl (fun wD mD => op_loadA (i := k + 2) (cs := [vS d 0 m c2, vI jj]) rfl Try.isAgg33 Try.sizeOf33 ((q.ext md1).ext mD) (Nat.zero_add _) (sub_take (i := 2) hk (lB rfl) rfl) rfl) ?_
        refine DR.one1 (i := 8) rfl rfl (by kernel_rfl) (.free rfl) rfl (ltb rfl) ?_
        intro w2 m1
        refine Op1.mono (op_buildSl (qs := [(0, .agg #[vS b 0 n c, vI j]), (1, .agg #[vS d 0 m c2, vI jj])]) (cells := #[vS b 0 n c, vI j, vS d 0 m c2, vI jj]) rfl Try.runUnderlying121 Try.sizeOf33 Try.zeroValue33 (by decide) (by decide) (by kernel_rfl)) ?_
        rintro _ w3 ⟨rfl, r1, m2, z1⟩
        refine ⟨(((Mod.refl [] w1).nt m1).nt m2), ?_⟩
        refine DR.rebase ?_
        refine DR.call (i := 9) (fun uA => uA = .bool (vRingF n j xs && vRingF m jj ys)) rfl rfl (by kernel_rfl) (.free rfl) rfl (ltb rfl) ⟨_, rfl⟩ (vs := [.func (.func 90) #[] #[], vS w2.heap.size 0 2 2]) rfl (fun wD mD => oc_call (vs := [vS w2.heap.size 0 2 2]) (cap := []) rfl rfl rfl Try.call90 (c_l04Rings2 n c b xs m c2 d ys j jj w2.heap.size 2 ln lm (by omega) (by omega) wD (r1.ext mD).rng ((((r.ext md1).ext m1).ext m2).ext mD) ((((ry.ext md1).ext m1).ext m2).ext mD))) ?_ ?_
        · rintro w1 _ w2 m1 ⟨rfl, m2⟩; exact ⟨rfl, m2⟩
        rintro _ rfl
        refine DR.det (i := 10) rfl rfl (by kernel_rfl) (.free rfl) rfl rfl (fun wD mD => op_move rfl) ?_
        refine DR.det (i := 11) rfl rfl (by kernel_rfl) (.yes rfl rfl rfl (ltb rfl) rfl hb1) rfl rfl (fun wD mD => op_move rfl) ?_
        refine DR.det (i := 12) rfl rfl (by kernel_rfl) (.yes rfl rfl rfl (ltb rfl) rfl hb1) rfl rfl (fun wD mD => op_nilCheck rfl) ?_
        refine DR.det (i := 13) rfl rfl (by kernel_rfl) (.yes rfl rfl rfl (ltb rfl) rfl hb1) rfl rfl (fun wD mD => op_fieldAddr (off' := k + 4) rfl Try.runUnderlying36 rfl rfl Try.sizeOf34 rfl) ?_
        refine DR.call (i := 14) (fun uA => uA = .bool (vFil dk dc0 dc1 dc2 ds0 ds1)) rfl rfl (by kernel_rfl) (.yes rfl rfl rfl (ltb rfl) rfl hb1) rfl (ltb rfl) ⟨_, rfl⟩ (vs := [.func (.func 91) #[] #[], vP p (k + 4)]) rfl (fun wD mD => oc_call (vs := [vP p (k + 4)]) (cap := []) rfl rfl rfl Try.call91 (c_l02Ok dk dc0 dc1 dc2 ds0 ds1 p (k + 4) (splice vs k [vS b 0 n c, vI j, vS d 0 m c2, vI jj, vI dk, vF dc0, vF dc1, vF dc2, vF ds0, vF ds1, vF sl, vF lo]) (sub_fit (i := 4) hk (lB rfl)) wD (Rng.congr ((((q.ext md1).ext m1).ext m2).ext mD) (sub_same (i := 4) hk (lB rfl) rfl)))) ?_ ?_
        · rintro w1 _ w2 m1 ⟨rfl, m2⟩; exact ⟨rfl, m2⟩
        rintro _ rfl
        refine DR.det (i := 15) rfl rfl (by kernel_rfl) (.free rfl) rfl rfl (fun wD mD => op_pick_t rfl hb1 rfl) ?_
        refine DR.det (i := 16) rfl rfl (by kernel_rfl) (.free rfl) rfl rfl (fun wD mD => op_move rfl) ?_
        refine DR.det (i := 17) rfl rfl (by kernel_rfl) (.yes rfl rfl rfl (ltb rfl) rfl hb2) rfl rfl (fun wD mD => op_move rfl) ?_
        refine DR.det (i := 18) rfl rfl (by kernel_rfl) (.yes rfl rfl rfl (ltb rfl) rfl hb2) rfl rfl (fun wD mD => op_nilCheck rfl) ?_
        refine DR.det (i := 19) rfl rfl (by kernel_rfl) (.yes rfl rfl rfl (ltb rfl) rfl hb2) rfl rfl (fun wD mD => op_fieldAddr (off' := k + 4) rfl Try.runUnderlying36 rfl rfl Try.sizeOf34 rfl) ?_
        refine DR.det (i := 20) rfl rfl (by kernel_rfl) (.yes rfl rfl rfl (ltb rfl) rfl hb2) rfl rfl (fun wD mD => op_fieldAddr (off' := k + 4) rfl Try.runUnderlying34 rfl rfl Try.sizeOf2 rfl) ?_
        refine DR.det (i := 21) rfl rfl (by kernel_rfl) (.yes rfl rfl rfl (ltb rfl) rfl hb2) rfl rfl (fun wD mD => op_load1 (i := k + 4) rfl Try.isAgg2 ((((q.ext md1).ext m1).ext m2).ext mD) (Nat.zero_add _) (sub_get (i := 4) hk rfl)) ?_
        refine DR.det (i := 22) rfl rfl (by kernel_rfl) (.yes rfl rfl rfl (ltb rfl) rfl hb2) rfl rfl (fun wD mD => op_eqi rfl rfl) ?_
        refine DR.det (i := 23) rfl rfl (by kernel_rfl) (.free rfl) rfl rfl (fun wD mD => op_pick_t rfl hb2 rfl) ?_
        refine DR.det (i := 24) rfl rfl (by kernel_rfl) (.free rfl) rfl rfl (fun wD mD => op_move rfl) ?_
        refine DR.det (i := 25) rfl rfl (by kernel_rfl) (.yes rfl rfl rfl (ltb rfl) rfl hb3) rfl rfl (fun wD mD => op_move rfl) ?_
        refine DR.det (i := 26) rfl rfl (by kernel_rfl) (.yes rfl rfl rfl (ltb rfl) rfl hb3) rfl rfl (fun wD mD => op_nilCheck rfl) ?_
        refine DR.det (i := 27) rfl rfl (by kernel_rfl) (.yes rfl rfl rfl (ltb rfl) rfl hb3) rfl rfl (fun wD mD => op_fieldAddr (off' := k + 10) rfl Try.runUnderlying36 rfl rfl Try.sizeOf25 rfl) ?_
        refine DR.det (i := 28) rfl rfl (by kernel_rfl) (.yes rfl rfl rfl (ltb rfl) rfl hb3) rfl rfl (fun wD mD => op_load1 (i := k + 10) rfl Try.isAgg25 ((((q.ext md1).ext m1).ext m2).ext mD) (Nat.zero_add _) (sub_get (i := 10) hk rfl)) ?_
        refine DR.det (i := 29) rfl rfl (by kernel_rfl) (.yes rfl rfl rfl (ltb rfl) rfl hb3) rfl rfl (fun wD mD => op_move rfl) ?_
        refine DR.det (i := 30) rfl rfl (by kernel_rfl) (.yes rfl rfl rfl (ltb rfl) rfl hb3) rfl rfl (fun wD mD => op_nilCheck rfl) ?_
        refine DR.det (i := 31) rfl rfl (by kernel_rfl) (.yes rfl rfl rfl (ltb rfl) rfl hb3) rfl rfl (fun wD mD => op_fieldAddr (off' := k + 11) rfl Try.runUnderlying36 rfl rfl Try.sizeOf25 rfl) ?_
        refine DR.det (i := 32) rfl rfl (by kernel_rfl) (.yes rfl rfl rfl (ltb rfl) rfl hb3) rfl rfl (fun wD mD => op_load1 (i := k + 11) rfl Try.isAgg25 ((((q.ext md1).ext m1).ext m2).ext mD) (Nat.zero_add _) (sub_get (i := 11) hk rfl)) ?_
        refine DR.done rfl ?_
        intro w4 m3
        refine WO.op rfl (.yes rfl rfl rfl (ltb rfl) rfl hb3) rfl (ltb rfl) (op_buildSl (qs := [(0, vF sl), (1, vF lo)]) (cells := #[vF sl, vF lo]) rfl Try.runUnderlying22 Try.sizeOf25 Try.zeroValue25 (by decide) (by decide) (by kernel_rfl)) ?_
        rintro _ w5 ⟨rfl, r2, m4, z2⟩
        refine WO.call rfl (.yes rfl rfl rfl (ltb rfl) rfl hb3) rfl (ltb rfl) (oc_call (vs := [vS w4.heap.size 0 2 2]) (cap := []) rfl rfl rfl Try.call92 (c_l04All 2 2 w4.heap.size [sl, lo] rfl (by omega) w5 r2.rng)) ?_
        rintro _ w6 ⟨rfl, m5⟩
        refine WO.det (op_pick_t rfl hb3 rfl) rfl (.free rfl) rfl rfl ?_
        refine WO.det (op_assign rfl) rfl (.free rfl) rfl rfl ?_
        refine WO.end ?_
        refine NE.code ?_
        refine CE.ret' ?_
        refine XE.leave1 Try.results55 rfl ?_
        refine ⟨?_, (((((((Mod.refl [] w).nt md1).nt m1).nt m2).nt m3).nt m4).nt m5)⟩
        all_goals simp_all [vBow]
      · have hp3 := hb3; try simp only [Bool.and_eq_true, Bool.or_eq_true, Bool.not_eq_true', Bool.not_eq_false', Bool.and_eq_false_iff, Bool.or_eq_false_iff, decide_eq_true_eq, decide_eq_false_iff_not, beq_iff_eq, bne_iff_ne, beq_eq_false_iff_ne, bne_eq_false_iff_eq, ne_eq, Bool.false_eq_true, not_false_eq_true, not_true_eq_false, vIn_t, vIn_f] at hp3
        refine CE.draw (fun | 9 => some (fun _ wA uA wB => uA = .bool (vRingF n j xs && vRingF m jj ys) ∧ Mod [] wA wB) | 14 => some (fun _ wA uA wB => uA = .bool (vFil dk dc0 dc1 dc2 ds0 ds1) ∧ Mod [] wA wB) | _ => none) [0, 1, 2, 3, 4, 5, 6, 7, 8, 9, 10, 11, 12, 13, 14, 15, 16, 17, 18, 19, 20, 21, 22, 23, 24, 25, 26, 27, 28, 29, 30, 31, 32] [33, 34, 35, 36] [] (by kernel_rfl) (by kernel_rfl) ?_
        have md2 : Mod [] w w.drew := (Mod.refl _ _).drew
        generalize w.drew = w7 at md2 ⊢
        refine DR.det (i := 0) rfl rfl (by kernel_rfl) (.free rfl) rfl rfl (fun wD mD => op_move rfl) ?_
        refine DR.det (i := 1) rfl rfl (by kernel_rfl) (.free rfl) rfl rfl (fun wD mD => op_nilCheck rfl) ?_
        refine DR.det (i := 2) rfl rfl (by kernel_rfl) (.free rfl) rfl rfl (fun wD mD => op_fieldAddr (off' := k) rfl Try.runUnderlying36 rfl rfl Try.sizeOf33 rfl) ?_
        refine DR.det (i := 3) rfl rfl (by kernel_rfl) (.free rfl) rfl rfl (fun wD mD => op_loadA (i := k) (cs := [vS b 0 n c, vI j]) rfl Try.isAgg33 Try.sizeOf33 ((q.ext md2).ext mD) (Nat.zero_add _) (sub_take (i := 0) hk (lB rfl) rfl) rfl) ?_
        refine DR.det (i := 4) rfl rfl (by kernel_rfl) (.free rfl) rfl rfl (fun wD mD => op_move rfl) ?_
        refine DR.det (i := 5) rfl rfl (by kernel_rfl) (.free rfl) rfl rfl (fun wD mD => op_nilCheck rfl) ?_
        refine DR.det (i := 6) rfl rfl (by kernel_rfl) (.free rfl) rfl rfl (fun wD mD => op_fieldAddr (off' := k + 2) rfl Try.runUnderlying36 rfl rfl Try.sizeOf33 rfl) ?_
        refine DR.det (i := 7) rfl rfl (by kernel_rfl) (.free rfl) rfl rfl (fun wD mD => op_loadA (i := k + 2) (cs := [vS d 0 m c2, vI jj]) rfl Try.isAgg33 Try.sizeOf33 ((q.ext md2).ext mD) (Nat.zero_add _) (sub_take (i := 2) hk (lB rfl) rfl) rfl) ?_
        refine DR.one1 (i := 8) rfl rfl (by kernel_rfl) (.free rfl) rfl (ltb rfl) ?_
        intro w8 m6
        refine Op1.mono (op_buildSl (qs := [(0, .agg #[vS b 0 n c, vI j]), (1, .agg #[vS d 0 m c2, vI jj])]) (cells := #[vS b 0 n c, vI j, vS d 0 m c2, vI jj]) rfl Try.runUnderlying121 Try.sizeOf33 Try.zeroValue33 (by decide) (by decide) (by kernel_rfl)) ?_
        rintro _ w9 ⟨rfl, r3, m7, z3⟩
        refine ⟨(((Mod.refl [] w7).nt m6).nt m7), ?_⟩
        refine DR.rebase ?_
        refine DR.call (i := 9) (fun uA => uA = .bool (vRingF n j xs && vRingF m jj ys)) rfl rfl (by kernel_rfl) (.free rfl) rfl (ltb rfl) ⟨_, rfl⟩ (vs := [.func (.func 90) #[] #[], vS w8.heap.size 0 2 2]) rfl (fun wD mD => oc_call (vs := [vS w8.heap.size 0 2 2]) (cap := []) rfl rfl rfl Try.call90 (c_l04Rings2 n c b xs m c2 d ys j jj w8.heap.size 2 ln lm (by omega) (by omega) wD (r3.ext mD).rng ((((r.ext md2).ext m6).ext m7).ext mD) ((((ry.ext md2).ext m6).ext m7).ext mD))) ?_ ?_
        · rintro w1 _ w2 m1 ⟨rfl, m2⟩; exact ⟨rfl, m2⟩
        rintro _ rfl
        refine DR.det (i := 10) rfl rfl (by kernel_rfl) (.free rfl) rfl rfl (fun wD mD => op_move rfl) ?_
        refine DR.det (i := 11) rfl rfl (by kernel_rfl) (.yes rfl rfl rfl (ltb rfl) rfl hb1) rfl rfl (fun wD mD => op_move rfl) ?_
        refine DR.det (i := 12) rfl rfl (by kernel_rfl) (.yes rfl rfl rfl (ltb rfl) rfl hb1) rfl rfl (fun wD mD => op_nilCheck rfl) ?_
        refine DR.det (i := 13) rfl rfl (by kernel_rfl) (.yes rfl rfl rfl (ltb rfl) rfl hb1) rfl rfl (fun wD mD => op_fieldAddr (off' := k + 4) rfl Try.runUnderlying36 rfl rfl Try.sizeOf34 rfl) ?_
        refine DR.call (i := 14) (fun uA => uA = .bool (vFil dk dc0 dc1 dc2 ds0 ds1)) rfl rfl (by kernel_rfl) (.yes rfl rfl rfl (ltb rfl) rfl hb1) rfl (ltb rfl) ⟨_, rfl⟩ (vs := [.func (.func 91) #[] #[], vP p (k + 4)]) rfl (fun wD mD => oc_call (vs := [vP p (k + 4)]) (cap := []) rfl rfl rfl Try.call91 (c_l02Ok dk dc0 dc1 dc2 ds0 ds1 p (k + 4) (splice vs k [vS b 0 n c, vI j, vS d 0 m c2, vI jj, vI dk, vF dc0, vF dc1, vF dc2, vF ds0, vF ds1, vF sl, vF lo]) (sub_fit (i := 4) hk (lB rfl)) wD (Rng.congr ((((q.ext md2).ext m6).ext m7).ext mD) (sub_same (i := 4) hk (lB rfl) rfl)))) ?_ ?_
        · rintro w1 _ w2 m1 ⟨rfl, m2⟩; exact ⟨rfl, m2⟩
        rintro _ rfl
        refine DR.det (i := 15) rfl rfl (by kernel_rfl) (.free rfl) rfl rfl (fun wD mD => op_pick_t rfl hb1 rfl) ?_
        refine DR.det (i := 16) rfl rfl (by kernel_rfl) (.free rfl) rfl rfl (fun wD mD => op_move rfl) ?_
        refine DR.det (i := 17) rfl rfl (by kernel_rfl) (.yes rfl rfl rfl (ltb rfl) rfl hb2) rfl rfl (fun wD mD => op_move rfl) ?_
        refine DR.det (i := 18) rfl rfl (by kernel_rfl) (.yes rfl rfl rfl (ltb rfl) rfl hb2) rfl rfl (fun wD mD => op_nilCheck rfl) ?_
        refine DR.det (i := 19) rfl rfl (by kernel_rfl) (.yes rfl rfl rfl (ltb rfl) rfl hb2) rfl rfl (fun wD mD => op_fieldAddr (off' := k + 4) rfl Try.runUnderlying36 rfl rfl Try.sizeOf34 rfl) ?_
        refine DR.det (i := 20) rfl rfl (by kernel_rfl) (.yes rfl rfl rfl (ltb rfl) rfl hb2) rfl rfl (fun wD mD => op_fieldAddr (off' := k + 4) rfl Try.runUnderlying34 rfl rfl Try.sizeOf2 rfl) ?_
        refine DR.det (i := 21) rfl rfl (by kernel_rfl) (.yes rfl rfl rfl (ltb rfl) rfl hb2) rfl rfl (fun wD mD => op_load1 (i := k + 4) rfl Try.isAgg2 ((((q.ext md2).ext m6).ext m7).ext mD) (Nat.zero_add _) (sub_get (i := 4) hk rfl)) ?_
        refine DR.det (i := 22) rfl rfl (by kernel_rfl) (.yes rfl rfl rfl (ltb rfl) rfl hb2) rfl rfl (fun wD mD => op_eqi rfl rfl) ?_
        refine DR.det (i := 23) rfl rfl (by kernel_rfl) (.free rfl) rfl rfl (fun wD mD => op_pick_t rfl hb2 rfl) ?_
        refine DR.det (i := 24) rfl rfl (by kernel_rfl) (.free rfl) rfl rfl (fun wD mD => op_move rfl) ?_
        refine DR.skip (i := 25) rfl (by kernel_rfl) (.no rfl rfl rfl (ltb rfl) rfl hb3) rfl (ltb rfl) ?_
        refine DR.skip (i := 26) rfl (by kernel_rfl) (.no rfl rfl rfl (ltb rfl) rfl hb3) rfl (ltb rfl) ?_
        refine DR.skip (i := 27) rfl (by kernel_rfl) (.no rfl rfl rfl (ltb rfl) rfl hb3) rfl (ltb rfl) ?_
        refine DR.skip (i := 28) rfl (by kernel_rfl) (.no rfl rfl rfl (ltb rfl) rfl hb3) rfl (ltb rfl) ?_
        refine DR.skip (i := 29) rfl (by kernel_rfl) (.no rfl rfl rfl (ltb rfl) rfl hb3) rfl (ltb rfl) ?_
        refine DR.skip (i := 30) rfl (by kernel_rfl) (.no rfl rfl rfl (ltb rfl) rfl hb3) rfl (ltb rfl) ?_
        refine DR.skip (i := 31) rfl (by kernel_rfl) (.no rfl rfl rfl (ltb rfl) rfl hb3) rfl (ltb rfl) ?_
        refine DR.skip (i := 32) rfl (by kernel_rfl) (.no rfl rfl rfl (ltb rfl) rfl hb3) rfl (ltb rfl) ?_
        refine DR.done rfl ?_
        intro w10 m8
        refine WO.skip rfl (.no rfl rfl rfl (ltb rfl) rfl hb3) rfl (ltb rfl) ?_
        refine WO.skip rfl (.no rfl rfl rfl (ltb rfl) rfl hb3) rfl (ltb rfl) ?_
        refine WO.det (op_pick_f rfl hb3 rfl) rfl (.free rfl) rfl rfl ?_
        refine WO.det (op_assign rfl) rfl (.free rfl) rfl rfl ?_
        refine WO.end ?_
        refine NE.code ?_
        refine CE.ret' ?_
        refine XE.leave1 Try.results55 rfl ?_
        refine ⟨?_, (((((Mod.refl [] w).nt md2).nt m6).nt m7).nt m8)⟩
        all_goals simp_all [vBow]
    · refine CE.draw (fun | 9 => some (fun _ wA uA wB => uA = .bool (vRingF n j xs && vRingF m jj ys) ∧ Mod [] wA wB) | 14 => some (fun _ wA uA wB => uA = .bool (vFil dk dc0 dc1 dc2 ds0 ds1) ∧ Mod [] wA wB) | _ => none) [0, 1, 2, 3, 4, 5, 6, 7, 8, 9, 10, 11, 12, 13, 14, 15, 16, 17, 18, 19, 20, 21, 22, 23, 24, 25, 26, 27, 28, 29, 30, 31, 32] [33, 34, 35, 36] [] (by kernel_rfl) (by kernel_rfl) ?_
      have md3 : Mod [] w w.drew := (Mod.refl _ _).drew
      generalize w.drew = w11 at md3 ⊢
      refine DR.det (i := 0) rfl rfl (by kernel_rfl) (.free rfl) rfl rfl (fun wD mD => op_move rfl) ?_
      refine DR.det (i := 1) rfl rfl (by kernel_rfl) (.free rfl) rfl rfl (fun wD mD => op_nilCheck rfl) ?_
      refine DR.det (i := 2) rfl rfl (by kernel_rfl) (.free rfl) rfl rfl (fun wD mD => op_fieldAddr (off' := k) rfl Try.runUnderlying36 rfl rfl Try.sizeOf33 rfl) ?_
      refine DR.det (i := 3) rfl rfl (by kernel_rfl) (.free rfl) rfl rfl (fun wD mD => op_loadA (i := k) (cs := [vS b 0 n c, vI j]) rfl Try.isAgg33 Try.sizeOf33 ((q.ext md3).ext mD) (Nat.zero_add _) (sub_take (i := 0) hk (lB rfl) rfl) rfl) ?_
      refine DR.det (i := 4) rfl rfl (by kernel_rfl) (.free rfl) rfl rfl (fun wD mD => op_move rfl) ?_
      refine DR.det (i := 5) rfl rfl (by kernel_rfl) (.free rfl) rfl rfl (fun wD mD => op_nilCheck rfl) ?_
      refine DR.det (i := 6) rfl rfl (by kernel_rfl) (.free rfl) rfl rfl (fun wD mD => op_fieldAddr (off' := k + 2) rfl Try.runUnderlying36 rfl rfl Try.sizeOf33 rfl) ?_
      refine DR.det (i := 7) rfl rfl (by kernel_rfl) (.free rfl) rfl rfl (fun wD mD => op_loadA (i := k + 2) (cs := [vS d 0 m c2, vI jj]) rfl Try.isAgg33 Try.sizeOf33 ((q.ext md3).ext mD) (Nat.zero_add _) (sub_take (i := 2) hk (lB rfl) rfl) rfl) ?_
      refine DR.one1 (i := 8) rfl rfl (by kernel_rfl) (.free rfl) rfl (ltb rfl) ?_
      intro w12 m9
      refine Op1.mono (op_buildSl (qs := [(0, .agg #[vS b 0 n c, vI j]), (1, .agg #[vS d 0 m c2, vI jj])]) (cells := #[vS b 0 n c, vI j, vS d 0 m c2, vI jj]) rfl Try.runUnderlying121 Try.sizeOf33 Try.zeroValue33 (by decide) (by decide) (by kernel_rfl)) ?_
      rintro _ w13 ⟨rfl, r4, m10, z4⟩
      refine ⟨(((Mod.refl [] w11).nt m9).nt m10), ?_⟩
      refine DR.rebase ?_
      refine DR.call (i := 9) (fun uA => uA = .bool (vRingF n j xs && vRingF m jj ys)) rfl rfl (by kernel_rfl) (.free rfl) rfl (ltb rfl) ⟨_, rfl⟩ (vs := [.func (.func 90) #[] #[], vS w12.heap.size 0 2 2]) rfl (fun wD mD => oc_call (vs := [vS w12.heap.size 0 2 2]) (cap := []) rfl rfl rfl Try.call90 (c_l04Rings2 n c b xs m c2 d ys j jj w12.heap.size 2 ln lm (by omega) (by omega) wD (r4.ext mD).rng ((((r.ext md3).ext m9).ext m10).ext mD) ((((ry.ext md3).ext m9).ext m10).ext mD))) ?_ ?_
      · rintro w1 _ w2 m1 ⟨rfl, m2⟩; exact ⟨rfl, m2⟩
      rintro _ rfl
      refine DR.det (i := 10) rfl rfl (by kernel_rfl) (.free rfl) rfl rfl (fun wD mD => op_move rfl) ?_
      refine DR.det (i := 11) rfl rfl (by kernel_rfl) (.yes rfl rfl rfl (ltb rfl) rfl hb1) rfl rfl (fun wD mD => op_move rfl) ?_
      refine DR.det (i := 12) rfl rfl (by kernel_rfl) (.yes rfl rfl rfl (ltb rfl) rfl hb1) rfl rfl (fun wD mD => op_nilCheck rfl) ?_
      refine DR.det (i := 13) rfl rfl (by kernel_rfl) (.yes rfl rfl rfl (ltb rfl) rfl hb1) rfl rfl (fun wD mD => op_fieldAddr (off' := k + 4) rfl Try.runUnderlying36 rfl rfl Try.sizeOf34 rfl) ?_
      refine DR.call (i := 14) (fun uA => uA = .bool (vFil dk dc0 dc1 dc2 ds0 ds1)) rfl rfl (by kernel_rfl) (.yes rfl rfl rfl (ltb rfl) rfl hb1) rfl (ltb rfl) ⟨_, rfl⟩ (vs := [.func (.func 91) #[] #[], vP p (k + 4)]) rfl (fun wD mD => oc_call (vs := [vP p (k + 4)]) (cap := []) rfl rfl rfl Try.call91 (c_l02Ok dk dc0 dc1 dc2 ds0 ds1 p (k + 4) (splice vs k [vS b 0 n c, vI j, vS d 0 m c2, vI jj, vI dk, vF dc0, vF dc1, vF dc2, vF ds0, vF ds1, vF sl, vF lo]) (sub_fit (i := 4) hk (lB rfl)) wD (Rng.congr ((((q.ext md3).ext m9).ext m10).ext mD) (sub_same (i := 4) hk (lB rfl) rfl)))) ?_ ?_
      · rintro w1 _ w2 m1 ⟨rfl, m2⟩; exact ⟨rfl, m2⟩
      rintro _ rfl
      refine DR.det (i := 15) rfl rfl (by kernel_rfl) (.free rfl) rfl rfl (fun wD mD => op_pick_t rfl hb1 rfl) ?_
      refine DR.det (i := 16) rfl rfl (by kernel_rfl) (.free rfl) rfl rfl (fun wD mD => op_move rfl) ?_
      refine DR.skip (i := 17) rfl (by kernel_rfl) (.no rfl rfl rfl (ltb rfl) rfl hb2) rfl (ltb rfl) ?_
      refine DR.skip (i := 18) rfl (by kernel_rfl) (.no rfl rfl rfl (ltb rfl) rfl hb2) rfl (ltb rfl) ?_
      refine DR.skip (i := 19) rfl (by kernel_rfl) (.no rfl rfl rfl (ltb rfl) rfl hb2) rfl (ltb rfl) ?_
      refine DR.skip (i := 20) rfl (by kernel_rfl) (.no rfl rfl rfl (ltb rfl) rfl hb2) rfl (ltb rfl) ?_
      refine DR.skip (i := 21) rfl (by kernel_rfl) (.no rfl rfl rfl (ltb rfl) rfl hb2) rfl (ltb rfl) ?_
      refine DR.skip (i := 22) rfl (by kernel_rfl) (.no rfl rfl rfl (ltb rfl) rfl hb2) rfl (ltb rfl) ?_
      refine DR.det (i := 23) rfl rfl (by kernel_rfl) (.free rfl) rfl rfl (fun wD mD => op_pick_f rfl hb2 rfl) ?_
      refine DR.det (i := 24) rfl rfl (by kernel_rfl) (.free rfl) rfl rfl (fun wD mD => op_move rfl) ?_
      refine DR.skip (i := 25) rfl (by kernel_rfl) (.no rfl rfl rfl (ltb rfl) rfl rfl) rfl (ltb rfl) ?_
      refine DR.skip (i := 26) rfl (by kernel_rfl) (.no rfl rfl rfl (ltb rfl) rfl rfl) rfl (ltb rfl) ?_
      refine DR.skip (i := 27) rfl (by kernel_rfl) (.no rfl rfl rfl (ltb rfl) rfl rfl) rfl (ltb rfl) ?_
      refine DR.skip (i := 28) rfl (by kernel_rfl) (.no rfl rfl rfl (ltb rfl) rfl rfl) rfl (ltb rfl) ?_
      refine DR.skip (i := 29) rfl (by kernel_rfl) (.no rfl rfl rfl (ltb rfl) rfl rfl) rfl (ltb rfl) ?_
      refine DR.skip (i := 30) rfl (by kernel_rfl) (.no rfl rfl rfl (ltb rfl) rfl rfl) rfl (ltb rfl) ?_
      refine DR.skip (i := 31) rfl (by kernel_rfl) (.no rfl rfl rfl (ltb rfl) rfl rfl) rfl (ltb rfl) ?_
      refine DR.skip (i := 32) rfl (by kernel_rfl) (.no rfl rfl rfl (ltb rfl) rfl rfl) rfl (ltb rfl) ?_
      refine DR.done rfl ?_
      intro w14 m11
      refine WO.skip rfl (.no rfl rfl rfl (ltb rfl) rfl rfl) rfl (ltb rfl) ?_
      refine WO.skip rfl (.no rfl rfl rfl (ltb rfl) rfl rfl) rfl (ltb rfl) ?_
      refine WO.det (op_pick_f rfl rfl rfl) rfl (.free rfl) rfl rfl ?_
      refine WO.det (op_assign rfl) rfl (.free rfl) rfl rfl ?_
      refine WO.end ?_
      refine NE.code ?_
      refine CE.ret' ?_
      refine XE.leave1 Try.results55 rfl ?_
      refine ⟨?_, (((((Mod.refl [] w).nt md3).nt m9).nt m10).nt m11)⟩
      all_goals simp_all [vBow]
  · refine CE.draw (fun | 9 => some (fun _ wA uA wB => uA = .bool (vRingF n j xs && vRingF m jj ys) ∧ Mod [] wA wB) | _ => none) [0, 1, 2, 3, 4, 5, 6, 7, 8, 9, 10, 11, 12, 13, 14, 15, 16, 17, 18, 19, 20, 21, 22, 23, 24, 25, 26, 27, 28, 29, 30, 31, 32] [33, 34, 35, 36] [] (by kernel_rfl) (by kernel_rfl) ?_
    have md4 : Mod [] w w.drew := (Mod.refl _ _).drew
    generalize w.drew = w15 at md4 ⊢
    refine DR.det (i := 0) rfl rfl (by kernel_rfl) (.free rfl) rfl rfl (fun wD mD => op_move rfl) ?_
    refine DR.det (i := 1) rfl rfl (by kernel_rfl) (.free rfl) rfl rfl (fun wD mD => op_nilCheck rfl) ?_
    refine DR.det (i := 2) rfl rfl (by kernel_rfl) (.free rfl) rfl rfl (fun wD mD => op_fieldAddr (off' := k) rfl Try.runUnderlying36 rfl rfl Try.sizeOf33 rfl) ?_
    refine DR.det (i := 3) rfl rfl (by kernel_rfl) (.free rfl) rfl rfl (fun wD mD => op_loadA (i := k) (cs := [vS b 0 n c, vI j]) rfl Try.isAgg33 Try.sizeOf33 ((q.ext md4).ext mD) (Nat.zero_add _) (sub_take (i := 0) hk (lB rfl) rfl) rfl) ?_
    refine DR.det (i := 4) rfl rfl (by kernel_rfl) (.free rfl) rfl rfl (fun wD mD => op_move rfl) ?_
    refine DR.det (i := 5) rfl rfl (by kernel_rfl) (.free rfl) rfl rfl (fun wD mD => op_nilCheck rfl) ?_
    refine DR.det (i := 6) rfl rfl (by kernel_rfl) (.free rfl) rfl rfl (fun wD mD => op_fieldAddr (off' := k + 2) rfl Try.runUnderlying36 rfl rfl Try.sizeOf33 rfl) ?_
    refine DR.det (i := 7) rfl rfl (by kernel_rfl) (.free rfl) rfl rfl (fun wD mD => op_loadA (i := k + 2) (cs := [vS d 0 m c2, vI jj]) rfl Try.isAgg33 Try.sizeOf33 ((q.ext md4).ext mD) (Nat.zero_add _) (sub_take (i := 2) hk (lB rfl) rfl) rfl) ?_
    refine DR.one1 (i := 8) rfl rfl (by kernel_rfl) (.free rfl) rfl (ltb rfl) ?_
    intro w16 m12
    refine Op1.mono (op_buildSl (qs := [(0, .agg #[vS b 0 n c, vI j]), (1, .agg #[vS d 0 m c2, vI jj])]) (cells := #[vS b 0 n c, vI j, vS d 0 m c2, vI jj]) rfl Try.runUnderlying121 Try.sizeOf33 Try.zeroValue33 (by decide) (by decide) (by kernel_rfl)) ?_
    rintro _ w17 ⟨rfl, r5, m13, z5⟩
    refine ⟨(((Mod.refl [] w15).nt m12).nt m13), ?_⟩
    refine DR.rebase ?_
    refine DR.call (i := 9) (fun uA => uA = .bool (vRingF n j xs && vRingF m jj ys)) rfl rfl (by kernel_rfl) (.free rfl) rfl (ltb rfl) ⟨_, rfl⟩ (vs := [.func (.func 90) #[] #[], vS w16.heap.size 0 2 2]) rfl (fun wD mD => oc_call (vs := [vS w16.heap.size 0 2 2]) (cap := []) rfl rfl rfl Try.call90 (c_l04Rings2 n c b xs m c2 d ys j jj w16.heap.size 2 ln lm (by omega) (by omega) wD (r5.ext mD).rng ((((r.ext md4).ext m12).ext m13).ext mD) ((((ry.ext md4).ext m12).ext m13).ext mD))) ?_ ?_
    · rintro w1 _ w2 m1 ⟨rfl, m2⟩; exact ⟨rfl, m2⟩
    rintro _ rfl
    refine DR.det (i := 10) rfl rfl (by kernel_rfl) (.free rfl) rfl rfl (fun wD mD => op_move rfl) ?_
    refine DR.skip (i := 11) rfl (by kernel_rfl) (.no rfl rfl rfl (ltb rfl) rfl hb1) rfl (ltb rfl) ?_
    refine DR.skip (i := 12) rfl (by kernel_rfl) (.no rfl rfl rfl (ltb rfl) rfl hb1) rfl (ltb rfl) ?_
    refine DR.skip (i := 13) rfl (by kernel_rfl) (.no rfl rfl rfl (ltb rfl) rfl hb1) rfl (ltb rfl) ?_
    refine DR.skip (i := 14) rfl (by kernel_rfl) (.no rfl rfl rfl (ltb rfl) rfl hb1) rfl (ltb rfl) ?_
    refine DR.det (i := 15) rfl rfl (by kernel_rfl) (.free rfl) rfl rfl (fun wD mD => op_pick_f rfl hb1 rfl) ?_
    refine DR.det (i := 16) rfl rfl (by kernel_rfl) (.free rfl) rfl rfl (fun wD mD => op_move rfl) ?_
    refine DR.skip (i := 17) rfl (by kernel_rfl) (.no rfl rfl rfl (ltb rfl) rfl rfl) rfl (ltb rfl) ?_
    refine DR.skip (i := 18) rfl (by kernel_rfl) (.no rfl rfl rfl (ltb rfl) rfl rfl) rfl (ltb rfl) ?_
    refine DR.skip (i := 19) rfl (by kernel_rfl) (.no rfl rfl rfl (ltb rfl) rfl rfl) rfl (ltb rfl) ?_
    refine DR.skip (i := 20) rfl (by kernel_rfl) (.no rfl rfl rfl (ltb rfl) rfl rfl) rfl (ltb rfl) ?_
    refine DR.skip (i := 21) rfl (by kernel_rfl) (.no rfl rfl rfl (ltb rfl) rfl rfl) rfl (ltb rfl) ?_
    refine DR.skip (i := 22) rfl (by kernel_rfl) (.no rfl rfl rfl (ltb rfl) rfl rfl) rfl (ltb rfl) ?_
    refine DR.det (i := 23) rfl rfl (by kernel_rfl) (.free rfl) rfl rfl (fun wD mD => op_pick_f rfl rfl rfl) ?_
    refine DR.det (i := 24) rfl rfl (by kernel_rfl) (.free rfl) rfl rfl (fun wD mD => op_move rfl) ?_
    refine DR.skip (i := 25) rfl (by kernel_rfl) (.no rfl rfl rfl (ltb rfl) rfl rfl) rfl (ltb rfl) ?_
    refine DR.skip (i := 26) rfl (by kernel_rfl) (.no rfl rfl rfl (ltb rfl) rfl rfl) rfl (ltb rfl) ?_
    refine DR.skip (i := 27) rfl (by kernel_rfl) (.no rfl rfl rfl (ltb rfl) rfl rfl) rfl (ltb rfl) ?_
    refine DR.skip (i := 28) rfl (by kernel_rfl) (.no rfl rfl rfl (ltb rfl) rfl rfl) rfl (ltb rfl) ?_
    refine DR.skip (i := 29) rfl (by kernel_rfl) (.no rfl rfl rfl (ltb rfl) rfl rfl) rfl (ltb rfl) ?_
    refine DR.skip (i := 30) rfl (by kernel_rfl) (.no rfl rfl rfl (ltb rfl) rfl rfl) rfl (ltb rfl) ?_
    refine DR.skip (i := 31) rfl (by kernel_rfl) (.no rfl rfl rfl (ltb rfl) rfl rfl) rfl (ltb rfl) ?_
    refine DR.skip (i := 32) rfl (by kernel_rfl) (.no rfl rfl rfl (ltb rfl) rfl rfl) rfl (ltb rfl) ?_
    refine DR.done rfl ?_
    intro w18 m14
    refine WO.skip rfl (.no rfl rfl rfl (ltb rfl) rfl rfl) rfl (ltb rfl) ?_
    refine WO.skip rfl (.no rfl rfl rfl (ltb rfl) rfl rfl) rfl (ltb rfl) ?_
    refine WO.det (op_pick_f rfl rfl rfl) rfl (.free rfl) rfl rfl ?_
    refine WO.det (op_assign rfl) rfl (.free rfl) rfl rfl ?_
    refine WO.end ?_
    refine NE.code ?_
    refine CE.ret' ?_
    refine XE.leave1 Try.results55 rfl ?_
    refine ⟨?_, (((((Mod.refl [] w).nt md4).nt m12).nt m13).nt m14)⟩
    all_goals simp_all [vBow]

set_option maxRecDepth 100000 in
set_option maxHeartbeats 2000000 in
theorem c_copyBow (n : Nat) (c : Nat) (b : Nat) (xs : List Nat) (m : Nat) (c2 : Nat) (d : Nat) (ys : List Nat) (j : Int) (jj : Int) (dk : Int) (dc0 : Nat) (dc1 : Nat) (dc2 : Nat) (ds0 : Nat) (ds1 : Nat) (sl : Nat) (lo : Nat) (p : Nat) (k : Nat) (vs : List Value) (ln : xs.length = n) (lm : ys.length = m) (hn : n ≤ 1048576) (hm : m ≤ 1048576) (h0 : 0 < n) (h1 : 0 < m) (hk : k + 12 ≤ vs.length) (w : World) (q : Rng w p 0 (splice vs k [vS b 0 n c, vI j, vS d 0 m c2, vI jj, vI dk, vF dc0, vF dc1, vF dc2, vF ds0, vF ds1, vF sl, vF lo])) (r : Rng w b 0 (fl xs)) (ry : Rng w d 0 (fl ys)) : Cl Try.prog 57 #[vP p k] w fun v w' => ∃ (b' : Nat) (c' : Nat) (d' : Nat) (c2' : Nat), v = .agg #[vS b' 0 n c', vI j, vS d' 0 m c2', vI jj, vI dk, vF dc0, vF dc1, vF dc2, vF ds0, vF ds1, vF sl, vF lo] ∧ Row w' b' 0 (fl xs) ∧ Row w' d' 0 (fl ys) ∧ w.heap.size ≤ b' ∧ w.heap.size ≤ d' ∧ b' ≠ d' ∧ Mod [] w w' := by
  refine Cl.of Try.func57 Try.ntmps57 rfl rfl (ρ := [(0, vP p k)]) rfl ?_
  refine CE.seq ?_
  refine CE.region ?_
  refine WL.op (op_alloc (cs := [.slice none 0 0, vI 0, .slice none 0 0, vI 0, vI 0, vF 0, vF 0, vF 0, vF 0, vF 0, vF 0, vF 0]) Try.zeroValue36 rfl) rfl rfl (ltb rfl) ?_
  rintro _ w1 ⟨rfl, r1, m1, z1⟩
  refine WL.end ?_
  refine NE.code ?_
  refine CE.seq ?_
  refine CE.draw (fun | 3 => some (fun _ wA uA wB => ∃ (b' : Nat) (c' : Nat), uA = .agg #[vS b' 0 n c', vI j] ∧ Row wB b' 0 (fl xs) ∧ wA.heap.size ≤ b' ∧ Mod [] wA wB) | 7 => some (fun _ wA uA wB => ∃ (b' : Nat) (c' : Nat), uA = .agg #[vS b' 0 m c', vI jj] ∧ Row wB b' 0 (fl ys) ∧ wA.heap.size ≤ b' ∧ Mod [] wA wB) | _ => none) [0, 1, 2, 3, 4, 5, 6, 7, 8, 9, 10, 11, 12, 13, 14, 15, 16, 17, 18, 19] [20, 21] [] (by kernel_rfl) (by kernel_rfl) ?_
  have md1 : Mod [] w1 w1.drew := (Mod.refl _ _).drew
  generalize w1.drew = w2 at md1 ⊢
  refine DR.det (i := 0) rfl rfl (by kernel_rfl) (.free rfl) rfl rfl (fun wD mD => op_move rfl) ?_
  refine DR.det (i := 1) rfl rfl (by kernel_rfl) (.free rfl) rfl rfl (fun wD mD => op_nilCheck rfl) ?_
  refine DR.det (i := 2) rfl rfl (by kernel_rfl) (.free rfl) rfl rfl (fun wD mD => op_fieldAddr (off' := k) rfl Try.runUnderlying36 rfl rfl Try.sizeOf33 rfl) ?_
  refine DR.det (i := 4) rfl rfl (by kernel_rfl) (.free rfl) rfl rfl (fun wD mD => op_move rfl) ?_
  refine DR.det (i := 5) rfl rfl (by kernel_rfl) (.free rfl) rfl rfl (fun wD mD => op_nilCheck rfl) ?_
  refine DR.det (i := 6) rfl rfl (by kernel_rfl) (.free rfl) rfl rfl (fun wD mD => op_fieldAddr (off' := k + 2) rfl Try.runUnderlying36 rfl rfl Try.sizeOf33 rfl) ?_
  refine DR.det (i := 8) rfl rfl (by kernel_rfl) (.free rfl) rfl rfl (fun wD mD => op_move rfl) ?_
  refine DR.det (i := 9) rfl rfl (by kernel_rfl) (.free rfl) rfl rfl (fun wD mD => op_nilCheck rfl) ?_
  refine DR.det (i := 10) rfl rfl (by kernel_rfl) (.free rfl) rfl rfl (fun wD mD => op_fieldAddr (off' := k + 4) rfl Try.runUnderlying36 rfl rfl Try.sizeOf34 rfl) ?_
  refine DR.det (i := 11) rfl rfl (by kernel_rfl) (.free rfl) rfl rfl (fun wD mD => op_loadA (i := k + 4) (cs := [vI dk, vF dc0, vF dc1, vF dc2, vF ds0, vF ds1]) rfl Try.isAgg34 Try.sizeOf34 (((q.ext m1).ext md1).ext mD) (Nat.zero_add _) (sub_take (i := 4) hk (lB rfl) rfl) rfl) ?_
  refine DR.det (i := 12) rfl rfl (by kernel_rfl) (.free rfl) rfl rfl (fun wD mD => op_move rfl) ?_
  refine DR.det (i := 13) rfl rfl (by kernel_rfl) (.free rfl) rfl rfl (fun wD mD => op_nilCheck rfl) ?_
  refine DR.det (i := 14) rfl rfl (by kernel_rfl) (.free rfl) rfl rfl (fun wD mD => op_fieldAddr (off' := k + 10) rfl Try.runUnderlying36 rfl rfl Try.sizeOf25 rfl) ?_
  refine DR.det (i := 15) rfl rfl (by kernel_rfl) (.free rfl) rfl rfl (fun wD mD => op_load1 (i := k + 10) rfl Try.isAgg25 (((q.ext m1).ext md1).ext mD) (Nat.zero_add _) (sub_get (i := 10) hk rfl)) ?_
  refine DR.det (i := 16) rfl rfl (by kernel_rfl) (.free rfl) rfl rfl (fun wD mD => op_move rfl) ?_
  refine DR.det (i := 17) rfl rfl (by kernel_rfl) (.free rfl) rfl rfl (fun wD mD => op_nilCheck rfl) ?_
  refine DR.det (i := 18) rfl rfl (by kernel_rfl) (.free rfl) rfl rfl (fun wD mD => op_fieldAddr (off' := k + 11) rfl Try.runUnderlying36 rfl rfl Try.sizeOf25 rfl) ?_
  refine DR.det (i := 19) rfl rfl (by kernel_rfl) (.free rfl) rfl rfl (fun wD mD => op_load1 (i := k + 11) rfl Try.isAgg25 (((q.ext m1).ext md1).ext mD) (Nat.zero_add _) (sub_get (i := 11) hk rfl)) ?_
  refine DR.one (i := 3) rfl rfl (by kernel_rfl) (.free rfl) rfl (ltb rfl) (vs := [.func (.func 93) #[] #[], vP p k]) rfl ?_
  intro w3 m2
  refine ⟨oc_call (vs := [vP p k]) (cap := []) rfl rfl rfl Try.call93 (c_l02Copy n c b xs j p k (splice vs k [vS b 0 n c, vI j, vS d 0 m c2, vI jj, vI dk, vF dc0, vF dc1, vF dc2, vF ds0, vF ds1, vF sl, vF lo]) ln (by omega) (by omega) (sub_fit (i := 0) hk (lB rfl)) w3 (Rng.congr (((q.ext m1).ext md1).ext m2) (sub_same (i := 0) hk (lB rfl) rfl)) (((r.ext m1).ext md1).ext m2)), ?_⟩
  rintro _ w4 ⟨b'1, c'1, rfl, r2, ge1, m3⟩
  refine ⟨(((Mod.refl [] w2).nt m2).nt m3), ?_⟩
  refine DR.rebase ?_
  refine DR.one (i := 7) rfl rfl (by kernel_rfl) (.free rfl) rfl (ltb rfl) (vs := [.func (.func 93) #[] #[], vP p (k + 2)]) rfl ?_
  intro w5 m4
  refine ⟨oc_call (vs := [vP p (k + 2)]) (cap := []) rfl rfl rfl Try.call93 (c_l02Copy m c2 d ys jj p (k + 2) (splice vs k [vS b 0 n c, vI j, vS d 0 m c2, vI jj, vI dk, vF dc0, vF dc1, vF dc2, vF ds0, vF ds1, vF sl, vF lo]) lm (by omega) (by omega) (sub_fit (i := 2) hk (lB rfl)) w5 (Rng.congr (((((q.ext m1).ext md1).ext m2).ext m3).ext m4) (sub_same (i := 2) hk (lB rfl) rfl)) (((((ry.ext m1).ext md1).ext m2).ext m3).ext m4)), ?_⟩
  rintro _ w6 ⟨b'2, c'2, rfl, r3, ge2, m5⟩
  refine ⟨(((Mod.refl [] w4).nt m4).nt m5), ?_⟩
  refine DR.done rfl ?_
  intro w7 m6
  refine WO.det (op_build (qs := [(0, .agg #[vS b'1 0 n c'1, vI j]), (1, .agg #[vS b'2 0 m c'2, vI jj]), (2, .agg #[vI dk, vF dc0, vF dc1, vF dc2, vF ds0, vF ds1]), (3, vF sl), (4, vF lo)]) (cells := #[vS b'1 0 n c'1, vI j, vS b'2 0 m c'2, vI jj, vI dk, vF dc0, vF dc1, vF dc2, vF ds0, vF ds1, vF sl, vF lo]) rfl (by kernel_rfl)) rfl (.free rfl) rfl rfl ?_
  refine WO.op0 rfl (.free rfl) rfl (op_store (i := 0) (cs := [vS b'1 0 n c'1, vI j, vS b'2 0 m c'2, vI jj, vI dk, vF dc0, vF dc1, vF dc2, vF ds0, vF ds1, vF sl, vF lo]) rfl rfl rfl Try.sizeOf36 rfl ((((((r1.ext md1).ext m2).ext m3).ext m4).ext m5).ext m6) rfl (lB rfl) rfl) ?_
  rintro _ w8 ⟨r4, m7, z2⟩
  have r5 : Row w8 w.heap.size 0 [vS b'1 0 n c'1, vI j, vS b'2 0 m c'2, vI jj, vI dk, vF dc0, vF dc1, vF dc2, vF ds0, vF ds1, vF sl, vF lo] := Row.congr r4 rfl
  refine WO.end ?_
  refine NE.code ?_
  refine CE.ret' ?_
  refine XE.leaveC Try.results57 (res_agg (cs := [vS b'1 0 n c'1, vI j, vS b'2 0 m c'2, vI jj, vI dk, vF dc0, vF dc1, vF dc2, vF ds0, vF ds1, vF sl, vF lo]) rfl Try.isAgg36 Try.sizeOf36 r5.rng rfl res_nil) ?_
  refine ⟨b'1, c'1, b'2, c'2, rfl, ((((r2.ext m4).ext m5).ext m6).mod m7 (nC (lG (lL (lL r1.lt (lT md1.size m2.size)) ge1)) nN)), ((r3.ext m6).mod m7 (nC (lG (lL (lL r1.lt (lT (lT (lT md1.size m2.size) m3.size) m4.size)) ge2)) nN)), (lT (lT (lT m1.size md1.size) m2.size) ge1), (lT (lT (lT (lT (lT m1.size md1.size) m2.size) m3.size) m4.size) ge2), (lE (lL (lL r2.lt m4.size) ge2)), (((((((((Mod.refl [] w).nt m1).nt md1).nt m2).nt m3).nt m4).nt m5).nt m6).then m7 ((aC (.inr lR) aN)))⟩

set_option maxRecDepth 100000 in
set_option maxHeartbeats 2000000 in
theorem c_meet (n : Nat) (c : Nat) (b : Nat) (xs : List Nat) (m : Nat) (c2 : Nat) (d : Nat) (ys : List Nat) (i : Nat) (h : Nat) (dk : Int) (dc0 : Nat) (dc1 : Nat) (dc2 : Nat) (ds0 : Nat) (ds1 : Nat) (sl : Nat) (lo : Nat) (p : Nat) (k : Nat) (vs : List Value) (a : Nat) (x : Nat) (ln : xs.length = n) (lm : ys.length = m) (hn : n ≤ 1048576) (hm : m ≤ 1048576) (hi : i < n) (hh : h < m) (lds0 : ds0 < wid .f32) (lds1 : ds1 < wid .f32) (hk : k + 12 ≤ vs.length) (wx : W32 xs) (wy : W32 ys) (ha : cn .f32 a = cn .f32 x) (la : a < wid .f32) (w : World) (q : Row w p 0 (splice vs k [vS b 0 n c, vI ((i : Nat) : Int), vS d 0 m c2, vI ((h : Nat) : Int), vI dk, vF dc0, vF dc1, vF dc2, vF ds0, vF ds1, vF sl, vF lo])) (r : Rng w b 0 (fl xs)) (ry : Rng w d 0 (fl ys)) (ne1 : b ≠ p) (ne2 : d ≠ p) : Cl Try.prog 71 #[vP p k, vF a] w fun v w' => ∃ (u : Nat) (z : Nat), v = .tuple #[vF u, vF (Op.negFloat .f32 (xs.getD i 0)), vF z] ∧ (cn .f32 u = cn .f32 (Op.negFloat .f32 (fop .mul .f32 lo (stepY dk dc0 dc1 dc2 ds0 ds1 (ys.getD h 0))))) ∧ (u < wid .f32) ∧ ((Op.negFloat .f32 (xs.getD i 0)) < wid .f32) ∧ (cn .f32 z = cn .f32 (fop .sub .f32 x (fop .add .f32 (Op.negFloat .f32 (fop .mul .f32 lo (stepY dk dc0 dc1 dc2 ds0 ds1 (ys.getD h 0)))) (Op.negFloat .f32 (xs.getD i 0))))) ∧ (z < wid .f32) ∧ ((stepS dk dc0 dc1 dc2 ds0 ds1 (ys.getD h 0)) < wid .f32) ∧ ((stepT dk dc0 dc1 dc2 ds0 ds1 (ys.getD h 0)) < wid .f32) ∧ Row w' p 0 (splice vs k [vS b 0 n c, vI ((i : Nat) : Int), vS d 0 m c2, vI ((h : Nat) : Int), vI dk, vF dc0, vF dc1, vF dc2, vF (stepS dk dc0 dc1 dc2 ds0 ds1 (ys.getD h 0)), vF (stepT dk dc0 dc1 dc2 ds0 ds1 (ys.getD h 0)), vF sl, vF lo]) ∧ Mod [p] w w' := by
  refine Cl.of Try.func71 Try.ntmps71 rfl rfl (ρ := [(0, vP p k), (1, vF a)]) rfl ?_
  refine CE.seq ?_
  refine CE.region ?_
  refine WL.det (op_assign rfl) rfl rfl rfl ?_
  refine WL.det (op_assign rfl) rfl rfl rfl ?_
  refine WL.det (op_assign rfl) rfl rfl rfl ?_
  refine WL.end ?_
  refine NE.code ?_
  refine CE.seq ?_
  refine CE.draw (fun | 7 => some (fun _ wA uA wB => uA = vF (ys.getD h 0) ∧ Mod [] wA wB) | _ => none) [0, 1, 2, 3, 4, 5, 6, 7] [8, 9] [] (by kernel_rfl) (by kernel_rfl) ?_
  have md1 : Mod [] w w.drew := (Mod.refl _ _).drew
  generalize w.drew = w1 at md1 ⊢
  refine DR.det (i := 0) rfl rfl (by kernel_rfl) (.free rfl) rfl rfl (fun wD mD => op_move rfl) ?_
  refine DR.det (i := 1) rfl rfl (by kernel_rfl) (.free rfl) rfl rfl (fun wD mD => op_nilCheck rfl) ?_
  refine DR.det (i := 2) rfl rfl (by kernel_rfl) (.free rfl) rfl rfl (fun wD mD => op_fieldAddr (off' := k + 4) rfl Try.runUnderlying36 rfl rfl Try.sizeOf34 rfl) ?_
  refine DR.det (i := 3) rfl rfl (by kernel_rfl) (.free rfl) rfl rfl (fun wD mD => op_move rfl) ?_
  refine DR.det (i := 4) rfl rfl (by kernel_rfl) (.free rfl) rfl rfl (fun wD mD => op_nilCheck rfl) ?_
  refine DR.det (i := 5) rfl rfl (by kernel_rfl) (.free rfl) rfl rfl (fun wD mD => op_fieldAddr (off' := k + 2) rfl Try.runUnderlying36 rfl rfl Try.sizeOf33 rfl) ?_
  refine DR.det (i := 6) rfl rfl (by kernel_rfl) (.free rfl) rfl rfl (fun wD mD => op_loadA (i := k + 2) (cs := [vS d 0 m c2, vI ((h : Nat) : Int)]) rfl Try.isAgg33 Try.sizeOf33 ((q.ext md1).ext mD).rng (Nat.zero_add _) (sub_take (i := 2) hk (lB rfl) rfl) rfl) ?_
  refine DR.call (i := 7) (fun uA => uA = vF (ys.getD h 0)) rfl rfl (by kernel_rfl) (.free rfl) rfl (ltb rfl) ⟨_, rfl⟩ (vs := [.func (.func 107) #[] #[], .agg #[vS d 0 m c2, vI ((h : Nat) : Int)]]) rfl (fun wD mD => oc_call (vs := [.agg #[vS d 0 m c2, vI ((h : Nat) : Int)]]) (cap := []) rfl rfl rfl Try.call107 (c_oldest m c2 d ys h lm (by omega) (by omega) wD ((ry.ext md1).ext mD))) ?_ ?_
  · rintro w1 _ w2 m1 ⟨rfl, m2⟩; exact ⟨rfl, m2⟩
  rintro _ rfl
  refine DR.done rfl ?_
  intro w2 m1
  refine WO.call rfl (.free rfl) rfl (ltb rfl) (oc_call (vs := [vP p (k + 4), vF (ys.getD h 0)]) (cap := []) rfl rfl rfl Try.call106 (c_fstep dk dc0 dc1 dc2 ds0 ds1 p (k + 4) (splice vs k [vS b 0 n c, vI ((i : Nat) : Int), vS d 0 m c2, vI ((h : Nat) : Int), vI dk, vF dc0, vF dc1, vF dc2, vF ds0, vF ds1, vF sl, vF lo]) (ys.getD h 0) (ys.getD h 0) lds0 lds1 (sub_fit (i := 4) hk (lB rfl)) rfl (by first | assumption | exact W32.get (by assumption) _ | decide +kernel) w2 (Row.congr ((q.ext md1).ext m1) (sub_same (i := 4) hk (lB rfl) rfl)))) ?_
  rintro _ w3 ⟨y1, rfl, h1, h2, h3, h4, r1, m2⟩
  have r2 : Row w3 p 0 (splice vs k [vS b 0 n c, vI ((i : Nat) : Int), vS d 0 m c2, vI ((h : Nat) : Int), vI dk, vF dc0, vF dc1, vF dc2, vF (stepS dk dc0 dc1 dc2 ds0 ds1 (ys.getD h 0)), vF (stepT dk dc0 dc1 dc2 ds0 ds1 (ys.getD h 0)), vF sl, vF lo]) := Row.congr r1 (sub_put (i := 4) hk (lB rfl) rfl)
  refine WO.det (op_assign rfl) rfl (.free rfl) rfl rfl ?_
  refine WO.end ?_
  refine NE.code ?_
  refine CE.seq ?_
  refine CE.draw (fun | 11 => some (fun _ wA uA wB => uA = vF (xs.getD i 0) ∧ Mod [] wA wB) | _ => none) [0, 1, 2, 3, 4, 5, 6, 7, 8, 9, 10, 11, 12, 13] [14] [] (by kernel_rfl) (by kernel_rfl) ?_
  have md2 : Mod [] w3 w3.drew := (Mod.refl _ _).drew
  generalize w3.drew = w4 at md2 ⊢
  refine DR.det (i := 0) rfl rfl (by kernel_rfl) (.free rfl) rfl rfl (fun wD mD => op_move rfl) ?_
  refine DR.det (i := 1) rfl rfl (by kernel_rfl) (.free rfl) rfl rfl (fun wD mD => op_nilCheck rfl) ?_
  refine DR.det (i := 2) rfl rfl (by kernel_rfl) (.free rfl) rfl rfl (fun wD mD => op_fieldAddr (off' := k + 11) rfl Try.runUnderlying36 rfl rfl Try.sizeOf25 rfl) ?_
  refine DR.det (i := 3) rfl rfl (by kernel_rfl) (.free rfl) rfl rfl (fun wD mD => op_load1 (i := k + 11) rfl Try.isAgg25 ((r2.ext md2).ext mD).rng (Nat.zero_add _) (sub_get (i := 11) hk rfl)) ?_
  refine DR.det (i := 4) rfl rfl (by kernel_rfl) (.free rfl) rfl rfl (fun wD mD => op_move rfl) ?_
  refine DR.op (i := 5) (FOut .f32 (fop .mul .f32 lo (stepY dk dc0 dc1 dc2 ds0 ds1 (ys.getD h 0)))) rfl rfl (by kernel_rfl) (.free rfl) rfl (ltb rfl) (fun wD mD => op_farith (e := (fop .mul .f32 lo (stepY dk dc0 dc1 dc2 ds0 ds1 (ys.getD h 0)))) (.inr (.inr (.inl rfl))) rfl rfl rfl h1 rfl) ?_
  rintro _ ⟨f1, rfl, hf1, lf1⟩
  refine DR.det (i := 6) rfl rfl (by kernel_rfl) (.free rfl) rfl rfl (fun wD mD => op_negf rfl) ?_
  refine DR.det (i := 7) rfl rfl (by kernel_rfl) (.free rfl) rfl rfl (fun wD mD => op_move rfl) ?_
  refine DR.det (i := 8) rfl rfl (by kernel_rfl) (.free rfl) rfl rfl (fun wD mD => op_nilCheck rfl) ?_
  refine DR.det (i := 9) rfl rfl (by kernel_rfl) (.free rfl) rfl rfl (fun wD mD => op_fieldAddr (off' := k) rfl Try.runUnderlying36 rfl rfl Try.sizeOf33 rfl) ?_
  refine DR.det (i := 10) rfl rfl (by kernel_rfl) (.free rfl) rfl rfl (fun wD mD => op_loadA (i := k) (cs := [vS b 0 n c, vI ((i : Nat) : Int)]) rfl Try.isAgg33 Try.sizeOf33 ((r2.ext md2).ext mD).rng (Nat.zero_add _) (sub_take (i := 0) hk (lB rfl) rfl) rfl) ?_
  refine DR.call (i := 11) (fun uA => uA = vF (xs.getD i 0)) rfl rfl (by kernel_rfl) (.free rfl) rfl (ltb rfl) ⟨_, rfl⟩ (vs := [.func (.func 107) #[] #[], .agg #[vS b 0 n c, vI ((i : Nat) : Int)]]) rfl (fun wD mD => oc_call (vs := [.agg #[vS b 0 n c, vI ((i : Nat) : Int)]]) (cap := []) rfl rfl rfl Try.call107 (c_oldest n c b xs i ln (by omega) (by omega) wD (((((r.ext md1).ext m1).mod m2 (nC ne1 nN)).ext md2).ext mD))) ?_ ?_
  · rintro w1 _ w2 m1 ⟨rfl, m2⟩; exact ⟨rfl, m2⟩
  rintro _ rfl
  refine DR.det (i := 12) rfl rfl (by kernel_rfl) (.free rfl) rfl rfl (fun wD mD => op_negf rfl) ?_
  refine DR.det (i := 13) rfl rfl (by kernel_rfl) (.free rfl) rfl rfl (fun wD mD => op_assign rfl) ?_
  refine DR.done rfl ?_
  intro w5 m3
  refine WO.det (op_assign rfl) rfl (.free rfl) rfl rfl ?_
  refine WO.end ?_
  refine NE.code ?_
  refine CE.seq ?_
  refine CE.region ?_
  refine WL.det (op_move rfl) rfl rfl rfl ?_
  refine WL.det (op_move rfl) rfl rfl rfl ?_
  refine WL.det (op_move rfl) rfl rfl rfl ?_
  refine WL.det (op_move rfl) rfl rfl rfl ?_
  refine WL.det (op_move rfl) rfl rfl rfl ?_
  refine WL.op (op_farith (e := (fop .add .f32 (Op.negFloat .f32 (fop .mul .f32 lo (stepY dk dc0 dc1 dc2 ds0 ds1 (ys.getD h 0)))) (Op.negFloat .f32 (xs.getD i 0)))) (.inl rfl) rfl rfl (negf_congr hf1) (negf_congr rfl) rfl) rfl rfl (ltb rfl) ?_
  rintro _ w6 ⟨⟨f2, rfl, hf2, lf2⟩, m4⟩
  refine WL.op (op_farith (e := (fop .sub .f32 x (fop .add .f32 (Op.negFloat .f32 (fop .mul .f32 lo (stepY dk dc0 dc1 dc2 ds0 ds1 (ys.getD h 0)))) (Op.negFloat .f32 (xs.getD i 0))))) (.inr (.inl rfl)) rfl rfl ha hf2 rfl) rfl rfl (ltb rfl) ?_
  rintro _ w7 ⟨⟨f3, rfl, hf3, lf3⟩, m5⟩
  refine WL.det (op_assign rfl) rfl rfl rfl ?_
  refine WL.det (op_assign rfl) rfl rfl rfl ?_
  refine WL.det (op_assign rfl) rfl rfl rfl ?_
  refine WL.end ?_
  refine NE.code ?_
  refine CE.ret' ?_
  refine XE.leaveT Try.results71 (res_tmp rfl (res_tmp rfl (res_tmp rfl res_nil))) ?_
  refine ⟨(Op.negFloat .f32 f1), f3, rfl, (negf_congr hf1), (negFloat_lt lf1), ?_, hf3, lf3, ?_, ?_, ((((r2.ext md2).ext m3).ext m4).ext m5), ((((((((Mod.refl [p] w).nt md1).nt m1).then m2 ((aC (.inl (by simp)) aN))).nt md2).nt m3).nt m4).nt m5)⟩
  all_goals first | assumption | exact negFloat_lt (W32.get wx _) | rfl

set_option maxRecDepth 100000 in
set_option maxHeartbeats 2000000 in
theorem c_l05Draw (n : Nat) (c : Nat) (b : Nat) (xs : List Nat) (m : Nat) (c2 : Nat) (d : Nat) (ys : List Nat) (i : Nat) (h : Nat) (dk : Int) (dc0 : Nat) (dc1 : Nat) (dc2 : Nat) (ds0 : Nat) (ds1 : Nat) (sl : Nat) (lo : Nat) (p : Nat) (k : Nat) (vs : List Value) (a : Nat) (x : Nat) (ln : xs.length = n) (lm : ys.length = m) (hn : n ≤ 1048576) (hm : m ≤ 1048576) (hi : i < n) (hh : h < m) (lds0 : ds0 < wid .f32) (lds1 : ds1 < wid .f32) (hk : k + 12 ≤ vs.length) (wx : W32 xs) (wy : W32 ys) (ha : cn .f32 a = cn .f32 x) (la : a < wid .f32) (w : World) (q : Row w p 0 (splice vs k [vS b 0 n c, vI ((i : Nat) : Int), vS d 0 m c2, vI ((h : Nat) : Int), vI dk, vF dc0, vF dc1, vF dc2, vF ds0, vF ds1, vF sl, vF lo])) (r : Rng w b 0 (fl xs)) (ry : Rng w d 0 (fl ys)) (ne1 : b ≠ p) (ne2 : d ≠ p) : Cl Try.prog 69 #[vP p k, vF a] w fun v w' => ∃ (u : Nat) (z : Nat), v = .tuple #[vF u, vF (Op.negFloat .f32 (xs.getD i 0)), vF z] ∧ (cn .f32 u = cn .f32 (Op.negFloat .f32 (fop .mul .f32 lo (stepY dk dc0 dc1 dc2 ds0 ds1 (ys.getD h 0))))) ∧ (u < wid .f32) ∧ ((Op.negFloat .f32 (xs.getD i 0)) < wid .f32) ∧ (cn .f32 z = cn .f32 (fop .sub .f32 x (fop .add .f32 (Op.negFloat .f32 (fop .mul .f32 lo (stepY dk dc0 dc1 dc2 ds0 ds1 (ys.getD h 0)))) (Op.negFloat .f32 (xs.getD i 0))))) ∧ (z < wid .f32) ∧ ((stepS dk dc0 dc1 dc2 ds0 ds1 (ys.getD h 0)) < wid .f32) ∧ ((stepT dk dc0 dc1 dc2 ds0 ds1 (ys.getD h 0)) < wid .f32) ∧ Row w' p 0 (splice vs k [vS b 0 n c, vI ((i : Nat) : Int), vS d 0 m c2, vI ((h : Nat) : Int), vI dk, vF dc0, vF dc1, vF dc2, vF (stepS dk dc0 dc1 dc2 ds0 ds1 (ys.getD h 0)), vF (stepT dk dc0 dc1 dc2 ds0 ds1 (ys.getD h 0)), vF sl, vF lo]) ∧ Mod [p] w w' := by
  refine Cl.of Try.func69 Try.ntmps69 rfl rfl (ρ := [(0, vP p k), (1, vF a)]) rfl ?_
  refine CE.seq ?_
  refine CE.region ?_
  refine WL.det (op_assign rfl) rfl rfl rfl ?_
  refine WL.det (op_assign rfl) rfl rfl rfl ?_
  refine WL.det (op_assign rfl) rfl rfl rfl ?_
  refine WL.end ?_
  refine NE.code ?_
  refine CE.seq ?_
  refine CE.draw (fun _ => none) [0, 1, 2, 3, 4, 5, 6, 7, 8, 9, 10, 11, 12, 13, 14] [15, 16] [] (by kernel_rfl) (by kernel_rfl) ?_
  have md1 : Mod [] w w.drew := (Mod.refl _ _).drew
  generalize w.drew = w1 at md1 ⊢
  refine DR.det (i := 0) rfl rfl (by kernel_rfl) (.free rfl) rfl rfl (fun wD mD => op_move rfl) ?_
  refine DR.det (i := 1) rfl rfl (by kernel_rfl) (.free rfl) rfl rfl (fun wD mD => op_nilCheck rfl) ?_
  refine DR.det (i := 2) rfl rfl (by kernel_rfl) (.free rfl) rfl rfl (fun wD mD => op_fieldAddr (off' := k + 4) rfl Try.runUnderlying36 rfl rfl Try.sizeOf34 rfl) ?_
  refine DR.det (i := 3) rfl rfl (by kernel_rfl) (.free rfl) rfl rfl (fun wD mD => op_move rfl) ?_
  refine DR.det (i := 4) rfl rfl (by kernel_rfl) (.free rfl) rfl rfl (fun wD mD => op_nilCheck rfl) ?_
  refine DR.det (i := 5) rfl rfl (by kernel_rfl) (.free rfl) rfl rfl (fun wD mD => op_fieldAddr (off' := k + 2) rfl Try.runUnderlying36 rfl rfl Try.sizeOf33 rfl) ?_
  refine DR.det (i := 6) rfl rfl (by kernel_rfl) (.free rfl) rfl rfl (fun wD mD => op_fieldAddr (off' := k + 2) rfl Try.runUnderlying33 rfl rfl Try.sizeOf22 rfl) ?_
  refine DR.det (i := 7) rfl rfl (by kernel_rfl) (.free rfl) rfl rfl (fun wD mD => op_load1 (i := k + 2) rfl Try.isAgg22 ((q.ext md1).ext mD).rng (Nat.zero_add _) (sub_get (i := 2) hk rfl)) ?_
  refine DR.det (i := 8) rfl rfl (by kernel_rfl) (.free rfl) rfl rfl (fun wD mD => op_move rfl) ?_
  refine DR.det (i := 9) rfl rfl (by kernel_rfl) (.free rfl) rfl rfl (fun wD mD => op_nilCheck rfl) ?_
  refine DR.det (i := 10) rfl rfl (by kernel_rfl) (.free rfl) rfl rfl (fun wD mD => op_fieldAddr (off' := k + 2) rfl Try.runUnderlying36 rfl rfl Try.sizeOf33 rfl) ?_
  refine DR.det (i := 11) rfl rfl (by kernel_rfl) (.free rfl) rfl rfl (fun wD mD => op_fieldAddr (off' := k + 3) rfl Try.runUnderlying33 rfl rfl Try.sizeOf2 rfl) ?_
  refine DR.det (i := 12) rfl rfl (by kernel_rfl) (.free rfl) rfl rfl (fun wD mD => op_load1 (i := k + 3) rfl Try.isAgg2 ((q.ext md1).ext mD).rng (Nat.zero_add _) (sub_get (i := 3) hk rfl)) ?_
  refine DR.det (i := 13) rfl rfl (by kernel_rfl) (.free rfl) rfl rfl (fun wD mD => op_indexSl (off' := 0 + h) rfl rfl rfl Try.runUnderlying22 Try.sizeOf25 (by omega) (by omega) (by omega)) ?_
  refine DR.det (i := 14) rfl rfl (by kernel_rfl) (.free rfl) rfl rfl (fun wD mD => op_load1 (i := h) rfl Try.isAgg25 ((ry.ext md1).ext mD) rfl (fl_get (by have eL : List.length ys = m := lm; omega))) ?_
  refine DR.done rfl ?_
  intro w2 m1
  refine WO.call rfl (.free rfl) rfl (ltb rfl) (oc_call (vs := [vP p (k + 4), vF (ys.getD h 0)]) (cap := []) rfl rfl rfl Try.call104 (c_l02Step dk dc0 dc1 dc2 ds0 ds1 p (k + 4) (splice vs k [vS b 0 n c, vI ((i : Nat) : Int), vS d 0 m c2, vI ((h : Nat) : Int), vI dk, vF dc0, vF dc1, vF dc2, vF ds0, vF ds1, vF sl, vF lo]) (ys.getD h 0) (ys.getD h 0) lds0 lds1 (sub_fit (i := 4) hk (lB rfl)) rfl (wy.get _) w2 (Row.congr ((q.ext md1).ext m1) (sub_same (i := 4) hk (lB rfl) rfl)))) ?_
  rintro _ w3 ⟨y1, rfl, h1, h2, h3, h4, r1, m2⟩
  have r2 : Row w3 p 0 (splice vs k [vS b 0 n c, vI ((i : Nat) : Int), vS d 0 m c2, vI ((h : Nat) : Int), vI dk, vF dc0, vF dc1, vF dc2, vF (stepS dk dc0 dc1 dc2 ds0 ds1 (ys.getD h 0)), vF (stepT dk dc0 dc1 dc2 ds0 ds1 (ys.getD h 0)), vF sl, vF lo]) := Row.congr r1 (sub_put (i := 4) hk (lB rfl) rfl)
  refine WO.det (op_assign rfl) rfl (.free rfl) rfl rfl ?_
  refine WO.end ?_
  refine NE.code ?_
  refine CE.seq ?_
  refine CE.region ?_
  refine WL.det (op_move rfl) rfl rfl rfl ?_
  refine WL.det (op_nilCheck rfl) rfl rfl rfl ?_
  refine WL.det (op_fieldAddr (off' := k + 11) rfl Try.runUnderlying36 rfl rfl Try.sizeOf25 rfl) rfl rfl rfl ?_
  refine WL.det (op_load1 (i := k + 11) rfl Try.isAgg25 r2.rng (Nat.zero_add _) (sub_get (i := 11) hk rfl)) rfl rfl rfl ?_
  refine WL.det (op_move rfl) rfl rfl rfl ?_
  refine WL.op (op_farith (e := (fop .mul .f32 lo (stepY dk dc0 dc1 dc2 ds0 ds1 (ys.getD h 0)))) (.inr (.inr (.inl rfl))) rfl rfl rfl h1 rfl) rfl rfl (ltb rfl) ?_
  rintro _ w4 ⟨⟨f1, rfl, hf1, lf1⟩, m3⟩
  refine WL.det (op_negf rfl) rfl rfl rfl ?_
  refine WL.det (op_assign rfl) rfl rfl rfl ?_
  refine WL.end ?_
  refine NE.code ?_
  refine CE.seq ?_
  refine CE.draw (fun _ => none) [0, 1, 2, 3, 4, 5, 6, 7, 8, 9] [10, 11, 12, 13] [] (by kernel_rfl) (by kernel_rfl) ?_
  have md2 : Mod [] w4 w4.drew := (Mod.refl _ _).drew
  generalize w4.drew = w5 at md2 ⊢
  refine DR.det (i := 0) rfl rfl (by kernel_rfl) (.free rfl) rfl rfl (fun wD mD => op_move rfl) ?_
  refine DR.det (i := 1) rfl rfl (by kernel_rfl) (.free rfl) rfl rfl (fun wD mD => op_nilCheck rfl) ?_
  refine DR.det (i := 2) rfl rfl (by kernel_rfl) (.free rfl) rfl rfl (fun wD mD => op_fieldAddr (off' := k) rfl Try.runUnderlying36 rfl rfl Try.sizeOf33 rfl) ?_
  refine DR.det (i := 3) rfl rfl (by kernel_rfl) (.free rfl) rfl rfl (fun wD mD => op_fieldAddr (off' := k) rfl Try.runUnderlying33 rfl rfl Try.sizeOf22 rfl) ?_
  refine DR.det (i := 4) rfl rfl (by kernel_rfl) (.free rfl) rfl rfl (fun wD mD => op_load1 (i := k) rfl Try.isAgg22 (((r2.ext m3).ext md2).ext mD).rng (Nat.zero_add _) (sub_get (i := 0) hk rfl)) ?_
  refine DR.det (i := 5) rfl rfl (by kernel_rfl) (.free rfl) rfl rfl (fun wD mD => op_move rfl) ?_
  refine DR.det (i := 6) rfl rfl (by kernel_rfl) (.free rfl) rfl rfl (fun wD mD => op_nilCheck rfl) ?_
  refine DR.det (i := 7) rfl rfl (by kernel_rfl) (.free rfl) rfl rfl (fun wD mD => op_fieldAddr (off' := k) rfl Try.runUnderlying36 rfl rfl Try.sizeOf33 rfl) ?_
  refine DR.det (i := 8) rfl rfl (by kernel_rfl) (.free rfl) rfl rfl (fun wD mD => op_fieldAddr (off' := k + 1) rfl Try.runUnderlying33 rfl rfl Try.sizeOf2 rfl) ?_
  refine DR.det (i := 9) rfl rfl (by kernel_rfl) (.free rfl) rfl rfl (fun wD mD => op_load1 (i := k + 1) rfl Try.isAgg2 (((r2.ext m3).ext md2).ext mD).rng (Nat.zero_add _) (sub_get (i := 1) hk rfl)) ?_
  refine DR.done rfl ?_
  intro w6 m4
  refine WO.det (op_indexSl (off' := 0 + i) rfl rfl rfl Try.runUnderlying22 Try.sizeOf25 (by omega) (by omega) (by omega)) rfl (.free rfl) rfl rfl ?_
  refine WO.det (op_load1 (i := i) rfl Try.isAgg25 ((((((r.ext md1).ext m1).mod m2 (nC ne1 nN)).ext m3).ext md2).ext m4) rfl (fl_get (by have eL : List.length xs = n := ln; omega))) rfl (.free rfl) rfl rfl ?_
  refine WO.det (op_negf rfl) rfl (.free rfl) rfl rfl ?_
  refine WO.det (op_assign rfl) rfl (.free rfl) rfl rfl ?_
  refine WO.end ?_
  refine NE.code ?_
  refine CE.seq ?_
  refine CE.region ?_
  refine WL.det (op_move rfl) rfl rfl rfl ?_
  refine WL.det (op_move rfl) rfl rfl rfl ?_
  refine WL.det (op_move rfl) rfl rfl rfl ?_
  refine WL.det (op_move rfl) rfl rfl rfl ?_
  refine WL.det (op_move rfl) rfl rfl rfl ?_
  refine WL.op (op_farith (e := (fop .add .f32 (Op.negFloat .f32 (fop .mul .f32 lo (stepY dk dc0 dc1 dc2 ds0 ds1 (ys.getD h 0)))) (Op.negFloat .f32 (xs.getD i 0)))) (.inl rfl) rfl rfl (negf_congr hf1) (negf_congr rfl) rfl) rfl rfl (ltb rfl) ?_
  rintro _ w7 ⟨⟨f2, rfl, hf2, lf2⟩, m5⟩
  refine WL.op (op_farith (e := (fop .sub .f32 x (fop .add .f32 (Op.negFloat .f32 (fop .mul .f32 lo (stepY dk dc0 dc1 dc2 ds0 ds1 (ys.getD h 0)))) (Op.negFloat .f32 (xs.getD i 0))))) (.inr (.inl rfl)) rfl rfl ha hf2 rfl) rfl rfl (ltb rfl) ?_
  rintro _ w8 ⟨⟨f3, rfl, hf3, lf3⟩, m6⟩
  refine WL.det (op_assign rfl) rfl rfl rfl ?_
  refine WL.det (op_assign rfl) rfl rfl rfl ?_
  refine WL.det (op_assign rfl) rfl rfl rfl ?_
  refine WL.end ?_
  refine NE.code ?_
  refine CE.ret' ?_
  refine XE.leaveT Try.results69 (res_tmp rfl (res_tmp rfl (res_tmp rfl res_nil))) ?_
  refine ⟨(Op.negFloat .f32 f1), f3, rfl, (negf_congr hf1), (negFloat_lt lf1), ?_, hf3, lf3, ?_, ?_, (((((r2.ext m3).ext md2).ext m4).ext m5).ext m6), (((((((((Mod.refl [p] w).nt md1).nt m1).then m2 ((aC (.inl (by simp)) aN))).nt m3).nt md2).nt m4).nt m5).nt m6)⟩
  all_goals first | assumption | exact negFloat_lt (W32.get wx _) | rfl

set_option maxRecDepth 100000 in
set_option maxHeartbeats 2000000 in
theorem c_l05Step (n : Nat) (c : Nat) (b : Nat) (xs : List Nat) (m : Nat) (c2 : Nat) (d : Nat) (ys : List Nat) (i : Nat) (h : Nat) (dk : Int) (dc0 : Nat) (dc1 : Nat) (dc2 : Nat) (ds0 : Nat) (ds1 : Nat) (sl : Nat) (lo : Nat) (p : Nat) (k : Nat) (vs : List Value) (a : Nat) (x : Nat) (ln : xs.length = n) (lm : ys.length = m) (hn : n ≤ 1048576) (hm : m ≤ 1048576) (hi : i < n) (hh : h < m) (lds0 : ds0 < wid .f32) (lds1 : ds1 < wid .f32) (hk : k + 12 ≤ vs.length) (wx : W32 xs) (wy : W32 ys) (ha : cn .f32 a = cn .f32 x) (la : a < wid .f32) (w : World) (q : Row w p 0 (splice vs k [vS b 0 n c, vI ((i : Nat) : Int), vS d 0 m c2, vI ((h : Nat) : Int), vI dk, vF dc0, vF dc1, vF dc2, vF ds0, vF ds1, vF sl, vF lo])) (r : Row w b 0 (fl xs)) (ry : Row w d 0 (fl ys)) (ne1 : p ≠ b) (ne2 : p ≠ d) (ne3 : b ≠ d) : Cl Try.prog 84 #[vP p k, vF a] w fun v w' => v = vF (ys.getD h 0) ∧ ((keptF (fop .add .f32 (Op.negFloat .f32 (fop .mul .f32 lo (stepY dk dc0 dc1 dc2 ds0 ds1 (ys.getD h 0)))) (fop .mul .f32 (fop .sub .f32 x (fop .add .f32 (Op.negFloat .f32 (fop .mul .f32 lo (stepY dk dc0 dc1 dc2 ds0 ds1 (ys.getD h 0)))) (Op.negFloat .f32 (xs.getD i 0)))) (fricF sl (fop .sub .f32 x (fop .add .f32 (Op.negFloat .f32 (fop .mul .f32 lo (stepY dk dc0 dc1 dc2 ds0 ds1 (ys.getD h 0)))) (Op.negFloat .f32 (xs.getD i 0)))))))) < wid .f32) ∧ ((keptF (fop .add .f32 (Op.negFloat .f32 (xs.getD i 0)) (fop .mul .f32 (fop .sub .f32 x (fop .add .f32 (Op.negFloat .f32 (fop .mul .f32 lo (stepY dk dc0 dc1 dc2 ds0 ds1 (ys.getD h 0)))) (Op.negFloat .f32 (xs.getD i 0)))) (fricF sl (fop .sub .f32 x (fop .add .f32 (Op.negFloat .f32 (fop .mul .f32 lo (stepY dk dc0 dc1 dc2 ds0 ds1 (ys.getD h 0)))) (Op.negFloat .f32 (xs.getD i 0)))))))) < wid .f32) ∧ ((stepS dk dc0 dc1 dc2 ds0 ds1 (ys.getD h 0)) < wid .f32) ∧ ((stepT dk dc0 dc1 dc2 ds0 ds1 (ys.getD h 0)) < wid .f32) ∧ Row w' p 0 (splice vs k [vS b 0 n c, vI (((i + 1) % n : Nat) : Int), vS d 0 m c2, vI (((h + 1) % m : Nat) : Int), vI dk, vF dc0, vF dc1, vF dc2, vF (stepS dk dc0 dc1 dc2 ds0 ds1 (ys.getD h 0)), vF (stepT dk dc0 dc1 dc2 ds0 ds1 (ys.getD h 0)), vF sl, vF lo]) ∧ Row w' b 0 (fl (xs.set i (keptF (fop .add .f32 (Op.negFloat .f32 (fop .mul .f32 lo (stepY dk dc0 dc1 dc2 ds0 ds1 (ys.getD h 0)))) (fop .mul .f32 (fop .sub .f32 x (fop .add .f32 (Op.negFloat .f32 (fop .mul .f32 lo (stepY dk dc0 dc1 dc2 ds0 ds1 (ys.getD h 0)))) (Op.negFloat .f32 (xs.getD i 0)))) (fricF sl (fop .sub .f32 x (fop .add .f32 (Op.negFloat .f32 (fop .mul .f32 lo (stepY dk dc0 dc1 dc2 ds0 ds1 (ys.getD h 0)))) (Op.negFloat .f32 (xs.getD i 0)))))))))) ∧ Row w' d 0 (fl (ys.set h (keptF (fop .add .f32 (Op.negFloat .f32 (xs.getD i 0)) (fop .mul .f32 (fop .sub .f32 x (fop .add .f32 (Op.negFloat .f32 (fop .mul .f32 lo (stepY dk dc0 dc1 dc2 ds0 ds1 (ys.getD h 0)))) (Op.negFloat .f32 (xs.getD i 0)))) (fricF sl (fop .sub .f32 x (fop .add .f32 (Op.negFloat .f32 (fop .mul .f32 lo (stepY dk dc0 dc1 dc2 ds0 ds1 (ys.getD h 0)))) (Op.negFloat .f32 (xs.getD i 0)))))))))) ∧ Mod [p, b, d] w w' := by
  refine Cl.of Try.func84 Try.ntmps84 rfl rfl (ρ := [(0, vP p k), (1, vF a)]) rfl ?_
  refine CE.seq ?_
  refine CE.region ?_
  refine WL.det (op_assign rfl) rfl rfl rfl ?_
  refine WL.end ?_
  refine NE.code ?_
  refine CE.seq ?_
  refine CE.draw (fun _ => none) [0, 1, 2, 3, 4, 5, 6, 7, 8, 9] [10, 11, 12] [] (by kernel_rfl) (by kernel_rfl) ?_
  have md1 : Mod [] w w.drew := (Mod.refl _ _).drew
  generalize w.drew = w1 at md1 ⊢
  refine DR.det (i := 0) rfl rfl (by kernel_rfl) (.free rfl) rfl rfl (fun wD mD => op_move rfl) ?_
  refine DR.det (i := 1) rfl rfl (by kernel_rfl) (.free rfl) rfl rfl (fun wD mD => op_nilCheck rfl) ?_
  refine DR.det (i := 2) rfl rfl (by kernel_rfl) (.free rfl) rfl rfl (fun wD mD => op_fieldAddr (off' := k + 2) rfl Try.runUnderlying36 rfl rfl Try.sizeOf33 rfl) ?_
  refine DR.det (i := 3) rfl rfl (by kernel_rfl) (.free rfl) rfl rfl (fun wD mD => op_fieldAddr (off' := k + 2) rfl Try.runUnderlying33 rfl rfl Try.sizeOf22 rfl) ?_
  refine DR.det (i := 4) rfl rfl (by kernel_rfl) (.free rfl) rfl rfl (fun wD mD => op_load1 (i := k + 2) rfl Try.isAgg22 ((q.ext md1).ext mD).rng (Nat.zero_add _) (sub_get (i := 2) hk rfl)) ?_
  refine DR.det (i := 5) rfl rfl (by kernel_rfl) (.free rfl) rfl rfl (fun wD mD => op_move rfl) ?_
  refine DR.det (i := 6) rfl rfl (by kernel_rfl) (.free rfl) rfl rfl (fun wD mD => op_nilCheck rfl) ?_
  refine DR.det (i := 7) rfl rfl (by kernel_rfl) (.free rfl) rfl rfl (fun wD mD => op_fieldAddr (off' := k + 2) rfl Try.runUnderlying36 rfl rfl Try.sizeOf33 rfl) ?_
  refine DR.det (i := 8) rfl rfl (by kernel_rfl) (.free rfl) rfl rfl (fun wD mD => op_fieldAddr (off' := k + 3) rfl Try.runUnderlying33 rfl rfl Try.sizeOf2 rfl) ?_
  refine DR.det (i := 9) rfl rfl (by kernel_rfl) (.free rfl) rfl rfl (fun wD mD => op_load1 (i := k + 3) rfl Try.isAgg2 ((q.ext md1).ext mD).rng (Nat.zero_add _) (sub_get (i := 3) hk rfl)) ?_
  refine DR.done rfl ?_
  intro w2 m1
  refine WO.det (op_indexSl (off' := 0 + h) rfl rfl rfl Try.runUnderlying22 Try.sizeOf25 (by omega) (by omega) (by omega)) rfl (.free rfl) rfl rfl ?_
  refine WO.det (op_load1 (i := h) rfl Try.isAgg25 ((ry.ext md1).ext m1).rng rfl (fl_get (by have eL : List.length ys = m := lm; omega))) rfl (.free rfl) rfl rfl ?_
  refine WO.det (op_assign rfl) rfl (.free rfl) rfl rfl ?_
  refine WO.end ?_
  refine NE.code ?_
  refine CE.seq ?_
  refine CE.region ?_
  refine WL.det (op_move rfl) rfl rfl rfl ?_
  refine WL.det (op_move rfl) rfl rfl rfl ?_
  refine WL.call (oc_call (vs := [vP p k, vF a]) (cap := []) rfl rfl rfl Try.call69 (c_l05Draw n c b xs m c2 d ys i h dk dc0 dc1 dc2 ds0 ds1 sl lo p k (splice vs k [vS b 0 n c, vI ((i : Nat) : Int), vS d 0 m c2, vI ((h : Nat) : Int), vI dk, vF dc0, vF dc1, vF dc2, vF ds0, vF ds1, vF sl, vF lo]) a x ln lm (by omega) (by omega) (by omega) (by omega) lds0 lds1 (sub_fit (i := 0) hk (lB rfl)) wx wy ha la w2 (Row.congr ((q.ext md1).ext m1) (sub_same (i := 0) hk (lB rfl) rfl)) ((r.ext md1).ext m1).rng ((ry.ext md1).ext m1).rng (Ne.symm ne1) (Ne.symm ne2))) rfl rfl (ltb rfl) ?_
  rintro _ w3 ⟨u1, z1, rfl, h1, h2, h3, h4, h5, h6, h7, r1, m2⟩
  have r2 : Row w3 p 0 (splice vs k [vS b 0 n c, vI ((i : Nat) : Int), vS d 0 m c2, vI ((h : Nat) : Int), vI dk, vF dc0, vF dc1, vF dc2, vF (stepS dk dc0 dc1 dc2 ds0 ds1 (ys.getD h 0)), vF (stepT dk dc0 dc1 dc2 ds0 ds1 (ys.getD h 0)), vF sl, vF lo]) := Row.congr r1 (sub_put (i := 0) hk (lB rfl) rfl)
  refine WL.det (op_move rfl) rfl rfl rfl ?_
  refine WL.det (op_extract rfl rfl) rfl rfl rfl ?_
  refine WL.det (op_extract rfl rfl) rfl rfl rfl ?_
  refine WL.det (op_extract rfl rfl) rfl rfl rfl ?_
  refine WL.det (op_assign rfl) rfl rfl rfl ?_
  refine WL.det (op_assign rfl) rfl rfl rfl ?_
  refine WL.det (op_assign rfl) rfl rfl rfl ?_
  refine WL.end ?_
  refine NE.code ?_
  refine CE.seq ?_
  refine CE.region ?_
  refine WL.det (op_move rfl) rfl rfl rfl ?_
  refine WL.det (op_move rfl) rfl rfl rfl ?_
  refine WL.det (op_nilCheck rfl) rfl rfl rfl ?_
  refine WL.det (op_fieldAddr (off' := k + 10) rfl Try.runUnderlying36 rfl rfl Try.sizeOf25 rfl) rfl rfl rfl ?_
  refine WL.det (op_load1 (i := k + 10) rfl Try.isAgg25 r2.rng (Nat.zero_add _) (sub_get (i := 10) hk rfl)) rfl rfl rfl ?_
  refine WL.det (op_move rfl) rfl rfl rfl ?_
  refine WL.call (oc_call (vs := [vF sl, vF z1]) (cap := []) rfl rfl rfl Try.call70 (c_l05Friction sl sl z1 (fop .sub .f32 x (fop .add .f32 (Op.negFloat .f32 (fop .mul .f32 lo (stepY dk dc0 dc1 dc2 ds0 ds1 (ys.getD h 0)))) (Op.negFloat .f32 (xs.getD i 0)))) rfl h4 w3)) rfl rfl (ltb rfl) ?_
  rintro _ w4 ⟨r3, rfl, h8, h9, m3⟩
  refine WL.op (op_farith (e := (fop .mul .f32 (fop .sub .f32 x (fop .add .f32 (Op.negFloat .f32 (fop .mul .f32 lo (stepY dk dc0 dc1 dc2 ds0 ds1 (ys.getD h 0)))) (Op.negFloat .f32 (xs.getD i 0)))) (fricF sl (fop .sub .f32 x (fop .add .f32 (Op.negFloat .f32 (fop .mul .f32 lo (stepY dk dc0 dc1 dc2 ds0 ds1 (ys.getD h 0)))) (Op.negFloat .f32 (xs.getD i 0))))))) (.inr (.inr (.inl rfl))) rfl rfl h4 h8 rfl) rfl rfl (ltb rfl) ?_
  rintro _ w5 ⟨⟨f1, rfl, hf1, lf1⟩, m4⟩
  refine WL.det (op_assign rfl) rfl rfl rfl ?_
  refine WL.end ?_
  refine NE.code ?_
  refine CE.seq ?_
  refine CE.draw (fun | 6 => some (fun _ wA uA wB => uA = vF (keptF (fop .add .f32 (Op.negFloat .f32 (fop .mul .f32 lo (stepY dk dc0 dc1 dc2 ds0 ds1 (ys.getD h 0)))) (fop .mul .f32 (fop .sub .f32 x (fop .add .f32 (Op.negFloat .f32 (fop .mul .f32 lo (stepY dk dc0 dc1 dc2 ds0 ds1 (ys.getD h 0)))) (Op.negFloat .f32 (xs.getD i 0)))) (fricF sl (fop .sub .f32 x (fop .add .f32 (Op.negFloat .f32 (fop .mul .f32 lo (stepY dk dc0 dc1 dc2 ds0 ds1 (ys.getD h 0)))) (Op.negFloat .f32 (xs.getD i 0)))))))) ∧ (keptF (fop .add .f32 (Op.negFloat .f32 (fop .mul .f32 lo (stepY dk dc0 dc1 dc2 ds0 ds1 (ys.getD h 0)))) (fop .mul .f32 (fop .sub .f32 x (fop .add .f32 (Op.negFloat .f32 (fop .mul .f32 lo (stepY dk dc0 dc1 dc2 ds0 ds1 (ys.getD h 0)))) (Op.negFloat .f32 (xs.getD i 0)))) (fricF sl (fop .sub .f32 x (fop .add .f32 (Op.negFloat .f32 (fop .mul .f32 lo (stepY dk dc0 dc1 dc2 ds0 ds1 (ys.getD h 0)))) (Op.negFloat .f32 (xs.getD i 0))))))) < wid .f32) ∧ Mod [] wA wB) | _ => none) [0, 1, 2, 3, 4, 5, 6] [7] [] (by kernel_rfl) (by kernel_rfl) ?_
  have md2 : Mod [] w5 w5.drew := (Mod.refl _ _).drew
  generalize w5.drew = w6 at md2 ⊢
  refine DR.det (i := 0) rfl rfl (by kernel_rfl) (.free rfl) rfl rfl (fun wD mD => op_move rfl) ?_
  refine DR.det (i := 1) rfl rfl (by kernel_rfl) (.free rfl) rfl rfl (fun wD mD => op_nilCheck rfl) ?_
  refine DR.det (i := 2) rfl rfl (by kernel_rfl) (.free rfl) rfl rfl (fun wD mD => op_fieldAddr (off' := k) rfl Try.runUnderlying36 rfl rfl Try.sizeOf33 rfl) ?_
  refine DR.det (i := 3) rfl rfl (by kernel_rfl) (.free rfl) rfl rfl (fun wD mD => op_move rfl) ?_
  refine DR.det (i := 4) rfl rfl (by kernel_rfl) (.free rfl) rfl rfl (fun wD mD => op_move rfl) ?_
  refine DR.op (i := 5) (FOut .f32 (fop .add .f32 (Op.negFloat .f32 (fop .mul .f32 lo (stepY dk dc0 dc1 dc2 ds0 ds1 (ys.getD h 0)))) (fop .mul .f32 (fop .sub .f32 x (fop .add .f32 (Op.negFloat .f32 (fop .mul .f32 lo (stepY dk dc0 dc1 dc2 ds0 ds1 (ys.getD h 0)))) (Op.negFloat .f32 (xs.getD i 0)))) (fricF sl (fop .sub .f32 x (fop .add .f32 (Op.negFloat .f32 (fop .mul .f32 lo (stepY dk dc0 dc1 dc2 ds0 ds1 (ys.getD h 0)))) (Op.negFloat .f32 (xs.getD i 0)))))))) rfl rfl (by kernel_rfl) (.free rfl) rfl (ltb rfl) (fun wD mD => op_farith (e := (fop .add .f32 (Op.negFloat .f32 (fop .mul .f32 lo (stepY dk dc0 dc1 dc2 ds0 ds1 (ys.getD h 0)))) (fop .mul .f32 (fop .sub .f32 x (fop .add .f32 (Op.negFloat .f32 (fop .mul .f32 lo (stepY dk dc0 dc1 dc2 ds0 ds1 (ys.getD h 0)))) (Op.negFloat .f32 (xs.getD i 0)))) (fricF sl (fop .sub .f32 x (fop .add .f32 (Op.negFloat .f32 (fop .mul .f32 lo (stepY dk dc0 dc1 dc2 ds0 ds1 (ys.getD h 0)))) (Op.negFloat .f32 (xs.getD i 0)))))))) (.inl rfl) rfl rfl h1 hf1 rfl) ?_
  rintro _ ⟨f2, rfl, hf2, lf2⟩
  refine DR.call (i := 6) (fun uA => uA = vF (keptF (fop .add .f32 (Op.negFloat .f32 (fop .mul .f32 lo (stepY dk dc0 dc1 dc2 ds0 ds1 (ys.getD h 0)))) (fop .mul .f32 (fop .sub .f32 x (fop .add .f32 (Op.negFloat .f32 (fop .mul .f32 lo (stepY dk dc0 dc1 dc2 ds0 ds1 (ys.getD h 0)))) (Op.negFloat .f32 (xs.getD i 0)))) (fricF sl (fop .sub .f32 x (fop .add .f32 (Op.negFloat .f32 (fop .mul .f32 lo (stepY dk dc0 dc1 dc2 ds0 ds1 (ys.getD h 0)))) (Op.negFloat .f32 (xs.getD i 0)))))))) ∧ (keptF (fop .add .f32 (Op.negFloat .f32 (fop .mul .f32 lo (stepY dk dc0 dc1 dc2 ds0 ds1 (ys.getD h 0)))) (fop .mul .f32 (fop .sub .f32 x (fop .add .f32 (Op.negFloat .f32 (fop .mul .f32 lo (stepY dk dc0 dc1 dc2 ds0 ds1 (ys.getD h 0)))) (Op.negFloat .f32 (xs.getD i 0)))) (fricF sl (fop .sub .f32 x (fop .add .f32 (Op.negFloat .f32 (fop .mul .f32 lo (stepY dk dc0 dc1 dc2 ds0 ds1 (ys.getD h 0)))) (Op.negFloat .f32 (xs.getD i 0))))))) < wid .f32)) rfl rfl (by kernel_rfl) (.free rfl) rfl (ltb rfl) ⟨_, rfl, keptF_wid hf2 lf2⟩ (vs := [.func (.func 58) #[] #[], vF f2]) rfl (fun wD mD => oc_call (vs := [vF f2]) (cap := []) rfl rfl rfl Try.call58 (c_l02Kept f2 (fop .add .f32 (Op.negFloat .f32 (fop .mul .f32 lo (stepY dk dc0 dc1 dc2 ds0 ds1 (ys.getD h 0)))) (fop .mul .f32 (fop .sub .f32 x (fop .add .f32 (Op.negFloat .f32 (fop .mul .f32 lo (stepY dk dc0 dc1 dc2 ds0 ds1 (ys.getD h 0)))) (Op.negFloat .f32 (xs.getD i 0)))) (fricF sl (fop .sub .f32 x (fop .add .f32 (Op.negFloat .f32 (fop .mul .f32 lo (stepY dk dc0 dc1 dc2 ds0 ds1 (ys.getD h 0)))) (Op.negFloat .f32 (xs.getD i 0))))))) hf2 lf2 wD)) ?_ ?_
  · rintro w1 _ w2 m1 ⟨rfl, p0, m2⟩; exact ⟨⟨rfl, p0⟩, m2⟩
  rintro _ ⟨rfl, h10⟩
  refine DR.done rfl ?_
  intro w7 m5
  refine WO.call rfl (.free rfl) rfl (ltb rfl) (oc_call (vs := [vP p k, vF (keptF (fop .add .f32 (Op.negFloat .f32 (fop .mul .f32 lo (stepY dk dc0 dc1 dc2 ds0 ds1 (ys.getD h 0)))) (fop .mul .f32 (fop .sub .f32 x (fop .add .f32 (Op.negFloat .f32 (fop .mul .f32 lo (stepY dk dc0 dc1 dc2 ds0 ds1 (ys.getD h 0)))) (Op.negFloat .f32 (xs.getD i 0)))) (fricF sl (fop .sub .f32 x (fop .add .f32 (Op.negFloat .f32 (fop .mul .f32 lo (stepY dk dc0 dc1 dc2 ds0 ds1 (ys.getD h 0)))) (Op.negFloat .f32 (xs.getD i 0))))))))]) (cap := []) rfl rfl rfl Try.call111 (c_l02Push n c b xs i p k (splice vs k [vS b 0 n c, vI ((i : Nat) : Int), vS d 0 m c2, vI ((h : Nat) : Int), vI dk, vF dc0, vF dc1, vF dc2, vF (stepS dk dc0 dc1 dc2 ds0 ds1 (ys.getD h 0)), vF (stepT dk dc0 dc1 dc2 ds0 ds1 (ys.getD h 0)), vF sl, vF lo]) (keptF (fop .add .f32 (Op.negFloat .f32 (fop .mul .f32 lo (stepY dk dc0 dc1 dc2 ds0 ds1 (ys.getD h 0)))) (fop .mul .f32 (fop .sub .f32 x (fop .add .f32 (Op.negFloat .f32 (fop .mul .f32 lo (stepY dk dc0 dc1 dc2 ds0 ds1 (ys.getD h 0)))) (Op.negFloat .f32 (xs.getD i 0)))) (fricF sl (fop .sub .f32 x (fop .add .f32 (Op.negFloat .f32 (fop .mul .f32 lo (stepY dk dc0 dc1 dc2 ds0 ds1 (ys.getD h 0)))) (Op.negFloat .f32 (xs.getD i 0)))))))) ln (by omega) (by omega) (sub_fit (i := 0) hk (lB rfl)) w7 (Row.congr ((((r2.ext m3).ext m4).ext md2).ext m5) (sub_same (i := 0) hk (lB rfl) rfl)) (((((((r.ext md1).ext m1).mod m2 (nC (Ne.symm ne1) nN)).ext m3).ext m4).ext md2).ext m5) ne1)) ?_
  rintro _ w8 ⟨rfl, r4, r5, m6⟩
  have r6 : Row w8 p 0 (splice vs k [vS b 0 n c, vI (((i + 1) % n : Nat) : Int), vS d 0 m c2, vI ((h : Nat) : Int), vI dk, vF dc0, vF dc1, vF dc2, vF (stepS dk dc0 dc1 dc2 ds0 ds1 (ys.getD h 0)), vF (stepT dk dc0 dc1 dc2 ds0 ds1 (ys.getD h 0)), vF sl, vF lo]) := Row.congr r4 (sub_put (i := 0) hk (lB rfl) rfl)
  refine WO.end ?_
  refine NE.code ?_
  refine CE.seq ?_
  refine CE.draw (fun | 6 => some (fun _ wA uA wB => uA = vF (keptF (fop .add .f32 (Op.negFloat .f32 (xs.getD i 0)) (fop .mul .f32 (fop .sub .f32 x (fop .add .f32 (Op.negFloat .f32 (fop .mul .f32 lo (stepY dk dc0 dc1 dc2 ds0 ds1 (ys.getD h 0)))) (Op.negFloat .f32 (xs.getD i 0)))) (fricF sl (fop .sub .f32 x (fop .add .f32 (Op.negFloat .f32 (fop .mul .f32 lo (stepY dk dc0 dc1 dc2 ds0 ds1 (ys.getD h 0)))) (Op.negFloat .f32 (xs.getD i 0)))))))) ∧ (keptF (fop .add .f32 (Op.negFloat .f32 (xs.getD i 0)) (fop .mul .f32 (fop .sub .f32 x (fop .add .f32 (Op.negFloat .f32 (fop .mul .f32 lo (stepY dk dc0 dc1 dc2 ds0 ds1 (ys.getD h 0)))) (Op.negFloat .f32 (xs.getD i 0)))) (fricF sl (fop .sub .f32 x (fop .add .f32 (Op.negFloat .f32 (fop .mul .f32 lo (stepY dk dc0 dc1 dc2 ds0 ds1 (ys.getD h 0)))) (Op.negFloat .f32 (xs.getD i 0))))))) < wid .f32) ∧ Mod [] wA wB) | _ => none) [0, 1, 2, 3, 4, 5, 6] [7] [] (by kernel_rfl) (by kernel_rfl) ?_
  have md3 : Mod [] w8 w8.drew := (Mod.refl _ _).drew
  generalize w8.drew = w9 at md3 ⊢
  refine DR.det (i := 0) rfl rfl (by kernel_rfl) (.free rfl) rfl rfl (fun wD mD => op_move rfl) ?_
  refine DR.det (i := 1) rfl rfl (by kernel_rfl) (.free rfl) rfl rfl (fun wD mD => op_nilCheck rfl) ?_
  refine DR.det (i := 2) rfl rfl (by kernel_rfl) (.free rfl) rfl rfl (fun wD mD => op_fieldAddr (off' := k + 2) rfl Try.runUnderlying36 rfl rfl Try.sizeOf33 rfl) ?_
  refine DR.det (i := 3) rfl rfl (by kernel_rfl) (.free rfl) rfl rfl (fun wD mD => op_move rfl) ?_
  refine DR.det (i := 4) rfl rfl (by kernel_rfl) (.free rfl) rfl rfl (fun wD mD => op_move rfl) ?_
  refine DR.op (i := 5) (FOut .f32 (fop .add .f32 (Op.negFloat .f32 (xs.getD i 0)) (fop .mul .f32 (fop .sub .f32 x (fop .add .f32 (Op.negFloat .f32 (fop .mul .f32 lo (stepY dk dc0 dc1 dc2 ds0 ds1 (ys.getD h 0)))) (Op.negFloat .f32 (xs.getD i 0)))) (fricF sl (fop .sub .f32 x (fop .add .f32 (Op.negFloat .f32 (fop .mul .f32 lo (stepY dk dc0 dc1 dc2 ds0 ds1 (ys.getD h 0)))) (Op.negFloat .f32 (xs.getD i 0)))))))) rfl rfl (by kernel_rfl) (.free rfl) rfl (ltb rfl) (fun wD mD => op_farith (e := (fop .add .f32 (Op.negFloat .f32 (xs.getD i 0)) (fop .mul .f32 (fop .sub .f32 x (fop .add .f32 (Op.negFloat .f32 (fop .mul .f32 lo (stepY dk dc0 dc1 dc2 ds0 ds1 (ys.getD h 0)))) (Op.negFloat .f32 (xs.getD i 0)))) (fricF sl (fop .sub .f32 x (fop .add .f32 (Op.negFloat .f32 (fop .mul .f32 lo (stepY dk dc0 dc1 dc2 ds0 ds1 (ys.getD h 0)))) (Op.negFloat .f32 (xs.getD i 0)))))))) (.inl rfl) rfl rfl rfl hf1 rfl) ?_
  rintro _ ⟨f3, rfl, hf3, lf3⟩
  refine DR.call (i := 6) (fun uA => uA = vF (keptF (fop .add .f32 (Op.negFloat .f32 (xs.getD i 0)) (fop .mul .f32 (fop .sub .f32 x (fop .add .f32 (Op.negFloat .f32 (fop .mul .f32 lo (stepY dk dc0 dc1 dc2 ds0 ds1 (ys.getD h 0)))) (Op.negFloat .f32 (xs.getD i 0)))) (fricF sl (fop .sub .f32 x (fop .add .f32 (Op.negFloat .f32 (fop .mul .f32 lo (stepY dk dc0 dc1 dc2 ds0 ds1 (ys.getD h 0)))) (Op.negFloat .f32 (xs.getD i 0)))))))) ∧ (keptF (fop .add .f32 (Op.negFloat .f32 (xs.getD i 0)) (fop .mul .f32 (fop .sub .f32 x (fop .add .f32 (Op.negFloat .f32 (fop .mul .f32 lo (stepY dk dc0 dc1 dc2 ds0 ds1 (ys.getD h 0)))) (Op.negFloat .f32 (xs.getD i 0)))) (fricF sl (fop .sub .f32 x (fop .add .f32 (Op.negFloat .f32 (fop .mul .f32 lo (stepY dk dc0 dc1 dc2 ds0 ds1 (ys.getD h 0)))) (Op.negFloat .f32 (xs.getD i 0))))))) < wid .f32)) rfl rfl (by kernel_rfl) (.free rfl) rfl (ltb rfl) ⟨_, rfl, keptF_wid hf3 lf3⟩ (vs := [.func (.func 58) #[] #[], vF f3]) rfl (fun wD mD => oc_call (vs := [vF f3]) (cap := []) rfl rfl rfl Try.call58 (c_l02Kept f3 (fop .add .f32 (Op.negFloat .f32 (xs.getD i 0)) (fop .mul .f32 (fop .sub .f32 x (fop .add .f32 (Op.negFloat .f32 (fop .mul .f32 lo (stepY dk dc0 dc1 dc2 ds0 ds1 (ys.getD h 0)))) (Op.negFloat .f32 (xs.getD i 0)))) (fricF sl (fop .sub .f32 x (fop .add .f32 (Op.negFloat .f32 (fop .mul .f32 lo (stepY dk dc0 dc1 dc2 ds0 ds1 (ys.getD h 0)))) (Op.negFloat .f32 (xs.getD i 0))))))) hf3 lf3 wD)) ?_ ?_
  · rintro w1 _ w2 m1 ⟨rfl, p0, m2⟩; exact ⟨⟨rfl, p0⟩, m2⟩
  rintro _ ⟨rfl, h11⟩
  refine DR.done rfl ?_
  intro w10 m7
  refine WO.call rfl (.free rfl) rfl (ltb rfl) (oc_call (vs := [vP p (k + 2), vF (keptF (fop .add .f32 (Op.negFloat .f32 (xs.getD i 0)) (fop .mul .f32 (fop .sub .f32 x (fop .add .f32 (Op.negFloat .f32 (fop .mul .f32 lo (stepY dk dc0 dc1 dc2 ds0 ds1 (ys.getD h 0)))) (Op.negFloat .f32 (xs.getD i 0)))) (fricF sl (fop .sub .f32 x (fop .add .f32 (Op.negFloat .f32 (fop .mul .f32 lo (stepY dk dc0 dc1 dc2 ds0 ds1 (ys.getD h 0)))) (Op.negFloat .f32 (xs.getD i 0))))))))]) (cap := []) rfl rfl rfl Try.call111 (c_l02Push m c2 d ys h p (k + 2) (splice vs k [vS b 0 n c, vI (((i + 1) % n : Nat) : Int), vS d 0 m c2, vI ((h : Nat) : Int), vI dk, vF dc0, vF dc1, vF dc2, vF (stepS dk dc0 dc1 dc2 ds0 ds1 (ys.getD h 0)), vF (stepT dk dc0 dc1 dc2 ds0 ds1 (ys.getD h 0)), vF sl, vF lo]) (keptF (fop .add .f32 (Op.negFloat .f32 (xs.getD i 0)) (fop .mul .f32 (fop .sub .f32 x (fop .add .f32 (Op.negFloat .f32 (fop .mul .f32 lo (stepY dk dc0 dc1 dc2 ds0 ds1 (ys.getD h 0)))) (Op.negFloat .f32 (xs.getD i 0)))) (fricF sl (fop .sub .f32 x (fop .add .f32 (Op.negFloat .f32 (fop .mul .f32 lo (stepY dk dc0 dc1 dc2 ds0 ds1 (ys.getD h 0)))) (Op.negFloat .f32 (xs.getD i 0)))))))) lm (by omega) (by omega) (sub_fit (i := 2) hk (lB rfl)) w10 (Row.congr ((r6.ext md3).ext m7) (sub_same (i := 2) hk (lB rfl) rfl)) ((((((((((ry.ext md1).ext m1).mod m2 (nC (Ne.symm ne2) nN)).ext m3).ext m4).ext md2).ext m5).mod m6 (nC (Ne.symm ne2) (nC (Ne.symm ne3) nN))).ext md3).ext m7) ne2)) ?_
  rintro _ w11 ⟨rfl, r7, r8, m8⟩
  have r9 : Row w11 p 0 (splice vs k [vS b 0 n c, vI (((i + 1) % n : Nat) : Int), vS d 0 m c2, vI (((h + 1) % m : Nat) : Int), vI dk, vF dc0, vF dc1, vF dc2, vF (stepS dk dc0 dc1 dc2 ds0 ds1 (ys.getD h 0)), vF (stepT dk dc0 dc1 dc2 ds0 ds1 (ys.getD h 0)), vF sl, vF lo]) := Row.congr r7 (sub_put (i := 2) hk (lB rfl) rfl)
  refine WO.end ?_
  refine NE.code ?_
  refine CE.seq ?_
  refine CE.region ?_
  refine WL.det (op_move rfl) rfl rfl rfl ?_
  refine WL.det (op_assign rfl) rfl rfl rfl ?_
  refine WL.end ?_
  refine NE.code ?_
  refine CE.ret' ?_
  refine XE.leave1 Try.results84 rfl ?_
  refine ⟨?_, ?_, ?_, ?_, ?_, r9, (((r5.ext md3).ext m7).mod m8 (nC (Ne.symm ne1) (nC ne3 nN))), r8, ((((((((((((Mod.refl [p, b, d] w).nt md1).nt m1).then m2 ((aC (.inl (by simp)) aN))).nt m3).nt m4).nt md2).nt m5).then m6 ((aC (.inl (by simp)) (aC (.inl (by simp)) aN)))).nt md3).nt m7).then m8 ((aC (.inl (by simp)) (aC (.inl (by simp)) aN))))⟩
  all_goals first | assumption | rfl

set_option maxRecDepth 100000 in
set_option maxHeartbeats 2000000 in
theorem c_sSticks (n : Nat) (c : Nat) (b : Nat) (xs : List Nat) (m : Nat) (c2 : Nat) (d : Nat) (ys : List Nat) (i : Nat) (h : Nat) (dk : Int) (dc0 : Nat) (dc1 : Nat) (dc2 : Nat) (ds0 : Nat) (ds1 : Nat) (sl : Nat) (lo : Nat) (a : Nat) (ln : xs.length = n) (lm : ys.length = m) (hi : i < n) (hh : h < m) (hn : n ≤ 1024) (hm : m ≤ 1024) (lds0 : ds0 < wid .f32) (lds1 : ds1 < wid .f32) (wx : W32 xs) (wy : W32 ys) (la : a < wid .f32) (hv : vBow n ((i : Nat) : Int) m ((h : Nat) : Int) xs ys dk dc0 dc1 dc2 ds0 ds1 sl lo = true) (w : World) (r : Rng w b 0 (fl xs)) (ry : Rng w d 0 (fl ys)) : Cl Try.prog 19 #[.agg #[vS b 0 n c, vI ((i : Nat) : Int), vS d 0 m c2, vI ((h : Nat) : Int), vI dk, vF dc0, vF dc1, vF dc2, vF ds0, vF ds1, vF sl, vF lo], vF a] w fun v w' => v = .tuple #[.bool (fEq .f32 (fricF sl (fop .sub .f32 a (fop .add .f32 (Op.negFloat .f32 (fop .mul .f32 lo (stepY dk dc0 dc1 dc2 ds0 ds1 (ys.getD h 0)))) (Op.negFloat .f32 (xs.getD i 0))))) 1065353216), vI 0] ∧ Mod [] w w' := by
  refine Cl.of Try.func19 Try.ntmps19 rfl rfl (ρ := [(0, .agg #[vS b 0 n c, vI ((i : Nat) : Int), vS d 0 m c2, vI ((h : Nat) : Int), vI dk, vF dc0, vF dc1, vF dc2, vF ds0, vF ds1, vF sl, vF lo]), (1, vF a)]) rfl ?_
  refine CE.seq ?_
  refine CE.region ?_
  refine WL.op (op_box (cs := [vS b 0 n c, vI ((i : Nat) : Int), vS d 0 m c2, vI ((h : Nat) : Int), vI dk, vF dc0, vF dc1, vF dc2, vF ds0, vF ds1, vF sl, vF lo]) rfl rfl) rfl rfl (ltb rfl) ?_
  rintro _ w1 ⟨rfl, r1, m1, z1⟩
  refine WL.det (op_assign rfl) rfl rfl rfl ?_
  refine WL.det (op_assign rfl) rfl rfl rfl ?_
  refine WL.end ?_
  refine NE.code ?_
  refine CE.seq ?_
  refine CE.seq ?_
  refine CE.region ?_
  refine WL.call (oc_call (vs := [vP w.heap.size 0]) (cap := []) rfl rfl rfl Try.call55 (c_l05Bow n c b xs m c2 d ys ((i : Nat) : Int) ((h : Nat) : Int) dk dc0 dc1 dc2 ds0 ds1 sl lo w.heap.size 0 [vS b 0 n c, vI ((i : Nat) : Int), vS d 0 m c2, vI ((h : Nat) : Int), vI dk, vF dc0, vF dc1, vF dc2, vF ds0, vF ds1, vF sl, vF lo] ln lm (by omega) (by omega) (lB rfl) w1 (Row.congr r1 rfl).rng (r.ext m1) (ry.ext m1))) rfl rfl (ltb rfl) ?_
  rintro _ w2 ⟨rfl, m2⟩
  refine WL.det (op_not rfl) rfl rfl rfl ?_
  refine WL.end ?_
  refine NE.code ?_
  refine CE.cond_f rfl (bnot_t hv) ?_
  refine CE.skip' ?_
  refine NE.code ?_
  refine CE.seq ?_
  refine CE.region ?_
  refine WL.call (oc_call (vs := [vP w.heap.size 0]) (cap := []) rfl rfl rfl Try.call57 (c_copyBow n c b xs m c2 d ys ((i : Nat) : Int) ((h : Nat) : Int) dk dc0 dc1 dc2 ds0 ds1 sl lo w.heap.size 0 [vS b 0 n c, vI ((i : Nat) : Int), vS d 0 m c2, vI ((h : Nat) : Int), vI dk, vF dc0, vF dc1, vF dc2, vF ds0, vF ds1, vF sl, vF lo] ln lm (by omega) (by omega) (by omega) (by omega) (lB rfl) w2 (Row.congr (r1.ext m2) rfl).rng ((r.ext m1).ext m2) ((ry.ext m1).ext m2))) rfl rfl (ltb rfl) ?_
  rintro _ w3 ⟨b'1, c'1, d'1, c2'1, rfl, r2, r3, ge1, ge2, ne1, m3⟩
  refine WL.op (op_alloc (cs := [.slice none 0 0, vI 0, .slice none 0 0, vI 0, vI 0, vF 0, vF 0, vF 0, vF 0, vF 0, vF 0, vF 0]) Try.zeroValue36 rfl) rfl rfl (ltb rfl) ?_
  rintro _ w4 ⟨rfl, r4, m4, z2⟩
  refine WL.op0 (op_store (i := 0) (cs := [vS b'1 0 n c'1, vI ((i : Nat) : Int), vS d'1 0 m c2'1, vI ((h : Nat) : Int), vI dk, vF dc0, vF dc1, vF dc2, vF ds0, vF ds1, vF sl, vF lo]) rfl rfl rfl Try.sizeOf36 rfl r4 rfl (lB rfl) rfl) rfl rfl ?_
  rintro _ w5 ⟨r5, m5, z3⟩
  have r6 : Row w5 w3.heap.size 0 [vS b'1 0 n c'1, vI ((i : Nat) : Int), vS d'1 0 m c2'1, vI ((h : Nat) : Int), vI dk, vF dc0, vF dc1, vF dc2, vF ds0, vF ds1, vF sl, vF lo] := Row.congr r5 rfl
  refine WL.end ?_
  refine NE.code ?_
  refine CE.seq ?_
  refine CE.region ?_
  refine WL.det (op_move rfl) rfl rfl rfl ?_
  refine WL.call (oc_call (vs := [vP w3.heap.size 0, vF a]) (cap := []) rfl rfl rfl Try.call69 (c_l05Draw n c'1 b'1 xs m c2'1 d'1 ys i h dk dc0 dc1 dc2 ds0 ds1 sl lo w3.heap.size 0 [vS b'1 0 n c'1, vI ((i : Nat) : Int), vS d'1 0 m c2'1, vI ((h : Nat) : Int), vI dk, vF dc0, vF dc1, vF dc2, vF ds0, vF ds1, vF sl, vF lo] a a ln lm (by omega) (by omega) (by omega) (by omega) lds0 lds1 (lB rfl) (by first | assumption | exact W32.set (by assumption) (by first | assumption | exact wid_lt (by assumption)) | exact W32.zeros _ | exact W32.nil) (by first | assumption | exact W32.set (by assumption) (by first | assumption | exact wid_lt (by assumption)) | exact W32.zeros _ | exact W32.nil) rfl la w5 (Row.congr r6 rfl) ((r2.ext m4).mod m5 (nC (lE (lL r2.lt lR)) nN)).rng ((r3.ext m4).mod m5 (nC (lE (lL r3.lt lR)) nN)).rng (lE (lL r2.lt lR)) (lE (lL r3.lt lR)))) rfl rfl (ltb rfl) ?_
  rintro _ w6 ⟨u1, z4, rfl, h1, h2, h3, h4, h5, h6, h7, r7, m6⟩
  have r8 : Row w6 w3.heap.size 0 [vS b'1 0 n c'1, vI ((i : Nat) : Int), vS d'1 0 m c2'1, vI ((h : Nat) : Int), vI dk, vF dc0, vF dc1, vF dc2, vF (stepS dk dc0 dc1 dc2 ds0 ds1 (ys.getD h 0)), vF (stepT dk dc0 dc1 dc2 ds0 ds1 (ys.getD h 0)), vF sl, vF lo] := r7
  refine WL.det (op_move rfl) rfl rfl rfl ?_
  refine WL.det (op_extract rfl rfl) rfl rfl rfl ?_
  refine WL.det (op_extract rfl rfl) rfl rfl rfl ?_
  refine WL.det (op_extract rfl rfl) rfl rfl rfl ?_
  refine WL.det (op_assign rfl) rfl rfl rfl ?_
  refine WL.det (op_assign rfl) rfl rfl rfl ?_
  refine WL.det (op_assign rfl) rfl rfl rfl ?_
  refine WL.end ?_
  refine NE.code ?_
  refine CE.seq ?_
  refine CE.region ?_
  refine WL.det (op_fieldAddr (off' := 10) rfl Try.runUnderlying36 rfl rfl Try.sizeOf25 rfl) rfl rfl rfl ?_
  refine WL.det (op_load1 (i := 10) rfl Try.isAgg25 (((((r1.ext m2).ext m3).ext m4).mod m5 (nC (lE (lL (lL r1.lt (lT m2.size m3.size)) lR)) nN)).mod m6 (nC (lE (lL (lL r1.lt (lT m2.size m3.size)) lR)) nN)).rng rfl rfl) rfl rfl rfl ?_
  refine WL.det (op_move rfl) rfl rfl rfl ?_
  refine WL.call (oc_call (vs := [vF sl, vF z4]) (cap := []) rfl rfl rfl Try.call70 (c_l05Friction sl sl z4 (fop .sub .f32 a (fop .add .f32 (Op.negFloat .f32 (fop .mul .f32 lo (stepY dk dc0 dc1 dc2 ds0 ds1 (ys.getD h 0)))) (Op.negFloat .f32 (xs.getD i 0)))) rfl h4 w6)) rfl rfl (ltb rfl) ?_
  rintro _ w7 ⟨r9, rfl, h8, h9, m7⟩
  refine WL.det (op_feq (c := fEq .f32 (fricF sl (fop .sub .f32 a (fop .add .f32 (Op.negFloat .f32 (fop .mul .f32 lo (stepY dk dc0 dc1 dc2 ds0 ds1 (ys.getD h 0)))) (Op.negFloat .f32 (xs.getD i 0))))) 1065353216) rfl rfl h8 rfl rfl) rfl rfl rfl ?_
  refine WL.det (op_assign rfl) rfl rfl rfl ?_
  refine WL.det (op_assign rfl) rfl rfl rfl ?_
  refine WL.end ?_
  refine NE.code ?_
  refine CE.ret' ?_
  refine XE.leaveT Try.results19 (res_tmp rfl (res_tmp rfl res_nil)) ?_
  refine ⟨?_, ((((((((Mod.refl [] w).nt m1).nt m2).nt m3).nt m4).then m5 ((aC (.inr (lT (lT (lT m1.size m2.size) m3.size) lR)) aN))).then m6 ((aC (.inr (lT (lT (lT m1.size m2.size) m3.size) lR)) aN))).nt m7)⟩
  all_goals first | assumption | rfl

set_option maxRecDepth 100000 in
set_option maxHeartbeats 2000000 in
theorem c_iSticks (n : Nat) (c : Nat) (b : Nat) (xs : List Nat) (m : Nat) (c2 : Nat) (d : Nat) (ys : List Nat) (i : Nat) (h : Nat) (dk : Int) (dc0 : Nat) (dc1 : Nat) (dc2 : Nat) (ds0 : Nat) (ds1 : Nat) (sl : Nat) (lo : Nat) (a : Nat) (ln : xs.length = n) (lm : ys.length = m) (hi : i < n) (hh : h < m) (hn : n ≤ 1024) (hm : m ≤ 1024) (lds0 : ds0 < wid .f32) (lds1 : ds1 < wid .f32) (wx : W32 xs) (wy : W32 ys) (la : a < wid .f32) (hv : vBow n ((i : Nat) : Int) m ((h : Nat) : Int) xs ys dk dc0 dc1 dc2 ds0 ds1 sl lo = true) (w : World) (r : Rng w b 0 (fl xs)) (ry : Rng w d 0 (fl ys)) : Cl Try.prog 20 #[.agg #[vS b 0 n c, vI ((i : Nat) : Int), vS d 0 m c2, vI ((h : Nat) : Int), vI dk, vF dc0, vF dc1, vF dc2, vF ds0, vF ds1, vF sl, vF lo], vF a] w fun v w' => v = .tuple #[.bool (fEq .f32 (fricF sl (fop .sub .f32 a (fop .add .f32 (Op.negFloat .f32 (fop .mul .f32 lo (stepY dk dc0 dc1 dc2 ds0 ds1 (ys.getD h 0)))) (Op.negFloat .f32 (xs.getD i 0))))) 1065353216), vI 0] ∧ Mod [] w w' := by
  refine Cl.of Try.func20 Try.ntmps20 rfl rfl (ρ := [(0, .agg #[vS b 0 n c, vI ((i : Nat) : Int), vS d 0 m c2, vI ((h : Nat) : Int), vI dk, vF dc0, vF dc1, vF dc2, vF ds0, vF ds1, vF sl, vF lo]), (1, vF a)]) rfl ?_
  refine CE.seq ?_
  refine CE.region ?_
  refine WL.op (op_box (cs := [vS b 0 n c, vI ((i : Nat) : Int), vS d 0 m c2, vI ((h : Nat) : Int), vI dk, vF dc0, vF dc1, vF dc2, vF ds0, vF ds1, vF sl, vF lo]) rfl rfl) rfl rfl (ltb rfl) ?_
  rintro _ w1 ⟨rfl, r1, m1, z1⟩
  refine WL.det (op_assign rfl) rfl rfl rfl ?_
  refine WL.det (op_assign rfl) rfl rfl rfl ?_
  refine WL.end ?_
  refine NE.code ?_
  refine CE.seq ?_
  refine CE.seq ?_
  refine CE.region ?_
  refine WL.det (op_loadA (i := 0) (cs := [vS b 0 n c, vI ((i : Nat) : Int), vS d 0 m c2, vI ((h : Nat) : Int), vI dk, vF dc0, vF dc1, vF dc2, vF ds0, vF ds1, vF sl, vF lo]) rfl Try.isAgg36 Try.sizeOf36 r1.rng rfl rfl rfl) rfl rfl rfl ?_
  refine WL.call (oc_call (vs := [.agg #[vS b 0 n c, vI ((i : Nat) : Int), vS d 0 m c2, vI ((h : Nat) : Int), vI dk, vF dc0, vF dc1, vF dc2, vF ds0, vF ds1, vF sl, vF lo]]) (cap := []) rfl rfl rfl Try.call61 (c_ValidBow n c b xs m c2 d ys ((i : Nat) : Int) ((h : Nat) : Int) dk dc0 dc1 dc2 ds0 ds1 sl lo ln lm (by omega) (by omega) w1 (r.ext m1) (ry.ext m1))) rfl rfl (ltb rfl) ?_
  rintro _ w2 ⟨rfl, m2⟩
  refine WL.det (op_not rfl) rfl rfl rfl ?_
  refine WL.end ?_
  refine NE.code ?_
  refine CE.cond_f rfl (bnot_t hv) ?_
  refine CE.skip' ?_
  refine NE.code ?_
  refine CE.seq ?_
  refine CE.region ?_
  refine WL.det (op_move rfl) rfl rfl rfl ?_
  refine WL.call (oc_call (vs := [vP w.heap.size 0, vF a]) (cap := []) rfl rfl rfl Try.call71 (c_meet n c b xs m c2 d ys i h dk dc0 dc1 dc2 ds0 ds1 sl lo w.heap.size 0 [vS b 0 n c, vI ((i : Nat) : Int), vS d 0 m c2, vI ((h : Nat) : Int), vI dk, vF dc0, vF dc1, vF dc2, vF ds0, vF ds1, vF sl, vF lo] a a ln lm (by omega) (by omega) (by omega) (by omega) lds0 lds1 (lB rfl) wx wy rfl la w2 (Row.congr (r1.ext m2) rfl) ((r.ext m1).ext m2) ((ry.ext m1).ext m2) (lE (lL (r.lt (by have eL : List.length xs = n := ln; rw [fl_length]; omega)) lR)) (lE (lL (ry.lt (by have eL : List.length ys = m := lm; rw [fl_length]; omega)) lR)))) rfl rfl (ltb rfl) ?_
  rintro _ w3 ⟨u1, z2, rfl, h1, h2, h3, h4, h5, h6, h7, r2, m3⟩
  have r3 : Row w3 w.heap.size 0 [vS b 0 n c, vI ((i : Nat) : Int), vS d 0 m c2, vI ((h : Nat) : Int), vI dk, vF dc0, vF dc1, vF dc2, vF (stepS dk dc0 dc1 dc2 ds0 ds1 (ys.getD h 0)), vF (stepT dk dc0 dc1 dc2 ds0 ds1 (ys.getD h 0)), vF sl, vF lo] := r2
  refine WL.det (op_move rfl) rfl rfl rfl ?_
  refine WL.det (op_extract rfl rfl) rfl rfl rfl ?_
  refine WL.det (op_extract rfl rfl) rfl rfl rfl ?_
  refine WL.det (op_extract rfl rfl) rfl rfl rfl ?_
  refine WL.det (op_assign rfl) rfl rfl rfl ?_
  refine WL.det (op_assign rfl) rfl rfl rfl ?_
  refine WL.det (op_assign rfl) rfl rfl rfl ?_
  refine WL.end ?_
  refine NE.code ?_
  refine CE.seq ?_
  refine CE.region ?_
  refine WL.det (op_fieldAddr (off' := 10) rfl Try.runUnderlying36 rfl rfl Try.sizeOf25 rfl) rfl rfl rfl ?_
  refine WL.det (op_load1 (i := 10) rfl Try.isAgg25 r3.rng rfl rfl) rfl rfl rfl ?_
  refine WL.det (op_move rfl) rfl rfl rfl ?_
  refine WL.call (oc_call (vs := [vF sl, vF z2]) (cap := []) rfl rfl rfl Try.call24 (c_friction sl sl z2 (fop .sub .f32 a (fop .add .f32 (Op.negFloat .f32 (fop .mul .f32 lo (stepY dk dc0 dc1 dc2 ds0 ds1 (ys.getD h 0)))) (Op.negFloat .f32 (xs.getD i 0)))) rfl h4 w3)) rfl rfl (ltb rfl) ?_
  rintro _ w4 ⟨r4, rfl, h8, h9, m4⟩
  refine WL.det (op_feq (c := fEq .f32 (fricF sl (fop .sub .f32 a (fop .add .f32 (Op.negFloat .f32 (fop .mul .f32 lo (stepY dk dc0 dc1 dc2 ds0 ds1 (ys.getD h 0)))) (Op.negFloat .f32 (xs.getD i 0))))) 1065353216) rfl rfl h8 rfl rfl) rfl rfl rfl ?_
  refine WL.det (op_assign rfl) rfl rfl rfl ?_
  refine WL.det (op_assign rfl) rfl rfl rfl ?_
  refine WL.end ?_
  refine NE.code ?_
  refine CE.ret' ?_
  refine XE.leaveT Try.results20 (res_tmp rfl (res_tmp rfl res_nil)) ?_
  refine ⟨?_, (((((Mod.refl [] w).nt m1).nt m2).then m3 ((aC (.inr lR) aN))).nt m4)⟩
  all_goals first | assumption | rfl

end Go.Proofs.Ytkgdhlhmckdcmaa
