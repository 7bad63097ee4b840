/- What the functions on strings compute. -/
import Derived.Test.YtabfdgpldcegiaaB3
import Derived.Test.YtabfdgpldcegiaaG1
set_option linter.unusedVariables false
set_option linter.unusedSimpArgs false
namespace Go.Proofs.Ytabfdgpldcegiaa

def vStr (n : Nat) (j : Int) (tk : Int) (tc0 tc1 tc2 ts0 ts1 : Nat) (dk : Int) (dc0 dc1 dc2 ds0 ds1 g : Nat) : Bool :=
  vRing n j && (vFil tk tc0 tc1 tc2 ts0 ts1 && (tk == 3)) && (vFil dk dc0 dc1 dc2 ds0 ds1 && (dk == 2)) && finF g
set_option maxRecDepth 100000 in
set_option maxHeartbeats 2000000 in
theorem c_isFilter (kd : Int) (c0 : Nat) (c1 : Nat) (c2 : Nat) (s0 : Nat) (s1 : Nat) (kk : Int) (w : World) : Cl Try.prog 115 #[.agg #[vI kd, vF c0, vF c1, vF c2, vF s0, vF s1], vI kk] w fun v w' => v = .bool (vFil kd c0 c1 c2 s0 s1 && (kd == kk)) ∧ Mod [] w w' := by
  refine Cl.of Try.func115 Try.ntmps115 rfl rfl (ρ := [(0, .agg #[vI kd, vF c0, vF c1, vF c2, vF s0, vF s1]), (1, vI kk)]) rfl ?_
  refine CE.seq ?_
  refine CE.region ?_
  refine WL.op (op_box (cs := [vI kd, vF c0, vF c1, vF c2, vF s0, vF s1]) rfl rfl) rfl rfl (ltb rfl) ?_
  rintro _ w1 ⟨rfl, r1, m1, z1⟩
  refine WL.det (op_assign rfl) rfl rfl rfl ?_
  refine WL.end ?_
  refine NE.code ?_
  refine CE.seq ?_
  refine CE.region ?_
  refine WL.det (op_loadA (i := 0) (cs := [vI kd, vF c0, vF c1, vF c2, vF s0, vF s1]) rfl Try.isAgg31 Try.sizeOf31 r1.rng rfl rfl rfl) rfl rfl rfl ?_
  refine WL.call (oc_call (vs := [.agg #[vI kd, vF c0, vF c1, vF c2, vF s0, vF s1]]) (cap := []) rfl rfl rfl Try.call144 (c_ValidFilter kd c0 c1 c2 s0 s1 w1)) rfl rfl (ltb rfl) ?_
  rintro _ w2 ⟨rfl, m2⟩
  refine WL.det (op_move rfl) rfl rfl rfl ?_
  rcases Bool.eq_false_or_eq_true (vFil kd c0 c1 c2 s0 s1) with hb1 | hb1
  · refine WL.yes rfl rfl rfl (ltb rfl) rfl hb1 ?_
    refine WL.det (op_fieldAddr (off' := 0) rfl Try.runUnderlying31 rfl rfl Try.sizeOf2 rfl) rfl rfl rfl ?_
    refine WL.yes rfl rfl rfl (ltb rfl) rfl hb1 ?_
    refine WL.det (op_load1 (i := 0) rfl Try.isAgg2 (r1.ext m2).rng rfl rfl) rfl rfl rfl ?_
    refine WL.yes rfl rfl rfl (ltb rfl) rfl hb1 ?_
    refine WL.det (op_move rfl) rfl rfl rfl ?_
    refine WL.yes rfl rfl rfl (ltb rfl) rfl hb1 ?_
    refine WL.det (op_eqi rfl rfl) rfl rfl rfl ?_
    refine WL.det (op_pick_t rfl hb1 rfl) rfl rfl rfl ?_
    refine WL.det (op_assign rfl) rfl rfl rfl ?_
    refine WL.end ?_
    refine NE.code ?_
    refine CE.ret' ?_
    refine XE.leave1 Try.results115 rfl ?_
    refine ⟨?_, (((Mod.refl [] w).nt m1).nt m2)⟩
    all_goals simp_all
  · refine WL.no rfl rfl rfl (ltb rfl) rfl hb1 rfl (ltb rfl) ?_
    refine WL.no rfl rfl rfl (ltb rfl) rfl hb1 rfl (ltb rfl) ?_
    refine WL.no rfl rfl rfl (ltb rfl) rfl hb1 rfl (ltb rfl) ?_
    refine WL.no rfl rfl rfl (ltb rfl) rfl hb1 rfl (ltb rfl) ?_
    refine WL.det (op_pick_f rfl hb1 rfl) rfl rfl rfl ?_
    refine WL.det (op_assign rfl) rfl rfl rfl ?_
    refine WL.end ?_
    refine NE.code ?_
    refine CE.ret' ?_
    refine XE.leave1 Try.results115 rfl ?_
    refine ⟨?_, (((Mod.refl [] w).nt m1).nt m2)⟩
    all_goals simp_all

set_option maxRecDepth 100000 in
set_option maxHeartbeats 2000000 in
theorem c_ValidString (n : Nat) (c : Nat) (A : Option Addr) (j : Int) (tk : Int) (tc0 : Nat) (tc1 : Nat) (tc2 : Nat) (ts0 : Nat) (ts1 : Nat) (dk : Int) (dc0 : Nat) (dc1 : Nat) (dc2 : Nat) (ds0 : Nat) (ds1 : Nat) (g : Nat) (hn : n ≤ 9223372036854775807) (w : World) : Cl Try.prog 63 #[.agg #[.slice A n c, vI j, vI tk, vF tc0, vF tc1, vF tc2, vF ts0, vF ts1, vI dk, vF dc0, vF dc1, vF dc2, vF ds0, vF ds1, vF g]] w fun v w' => v = .bool (vStr n j tk tc0 tc1 tc2 ts0 ts1 dk dc0 dc1 dc2 ds0 ds1 g) ∧ Mod [] w w' := by
  refine Cl.of Try.func63 Try.ntmps63 rfl rfl (ρ := [(0, .agg #[.slice A n c, vI j, vI tk, vF tc0, vF tc1, vF tc2, vF ts0, vF ts1, vI dk, vF dc0, vF dc1, vF dc2, vF ds0, vF ds1, vF g])]) rfl ?_
  refine CE.seq ?_
  refine CE.region ?_
  refine WL.op (op_box (cs := [.slice A n c, vI j, vI tk, vF tc0, vF tc1, vF tc2, vF ts0, vF ts1, vI dk, vF dc0, vF dc1, vF dc2, vF ds0, vF ds1, vF g]) rfl rfl) rfl rfl (ltb rfl) ?_
  rintro _ w1 ⟨rfl, r1, m1, z1⟩
  refine WL.det (op_assign rfl) rfl rfl rfl ?_
  refine WL.end ?_
  refine NE.code ?_
  refine CE.seq ?_
  refine CE.region ?_
  refine WL.det (op_fieldAddr (off' := 0) rfl Try.runUnderlying33 rfl rfl Try.sizeOf26 rfl) rfl rfl rfl ?_
  refine WL.det (op_loadA (i := 0) (cs := [.slice A n c, vI j]) rfl Try.isAgg26 Try.sizeOf26 r1.rng rfl rfl rfl) rfl rfl rfl ?_
  refine WL.call (oc_call (vs := [.agg #[.slice A n c, vI j]]) (cap := []) rfl rfl rfl Try.call114 (c_ValidRing n c A j (by omega) w1)) rfl rfl (ltb rfl) ?_
  rintro _ w2 ⟨rfl, m2⟩
  refine WL.det (op_move rfl) rfl rfl rfl ?_
  rcases Bool.eq_false_or_eq_true (vRing n j) with hb1 | hb1
  · refine WL.yes rfl rfl rfl (ltb rfl) rfl hb1 ?_
    refine WL.det (op_fieldAddr (off' := 2) rfl Try.runUnderlying33 rfl rfl Try.sizeOf31 rfl) rfl rfl rfl ?_
    refine WL.yes rfl rfl rfl (ltb rfl) rfl hb1 ?_
    refine WL.det (op_loadA (i := 2) (cs := [vI tk, vF tc0, vF tc1, vF tc2, vF ts0, vF ts1]) rfl Try.isAgg31 Try.sizeOf31 (r1.ext m2).rng rfl rfl rfl) rfl rfl rfl ?_
    refine WL.yes rfl rfl rfl (ltb rfl) rfl hb1 ?_
    refine WL.call (oc_call (vs := [.agg #[vI tk, vF tc0, vF tc1, vF tc2, vF ts0, vF ts1], vI 3]) (cap := []) rfl rfl rfl Try.call115 (c_isFilter tk tc0 tc1 tc2 ts0 ts1 (3 : Int) w2)) rfl rfl (ltb rfl) ?_
    rintro _ w3 ⟨rfl, m3⟩
    refine WL.det (op_pick_t rfl hb1 rfl) rfl rfl rfl ?_
    refine WL.det (op_move rfl) rfl rfl rfl ?_
    rcases Bool.eq_false_or_eq_true ((vFil tk tc0 tc1 tc2 ts0 ts1 && (tk == (3 : Int)))) with hb2 | hb2
    · have hp2 := hb2; try simp only [Bool.and_eq_true, Bool.or_eq_true, Bool.not_eq_true', Bool.not_eq_false', Bool.and_eq_false_iff, Bool.or_eq_false_iff, decide_eq_true_eq, decide_eq_false_iff_not, beq_iff_eq, bne_iff_ne, beq_eq_false_iff_ne, bne_eq_false_iff_eq, ne_eq, Bool.false_eq_true, not_false_eq_true, not_true_eq_false, vIn_t, vIn_f] at hp2
      refine WL.yes rfl rfl rfl (ltb rfl) rfl hb2 ?_
      refine WL.det (op_fieldAddr (off' := 8) rfl Try.runUnderlying33 rfl rfl Try.sizeOf31 rfl) rfl rfl rfl ?_
      refine WL.yes rfl rfl rfl (ltb rfl) rfl hb2 ?_
      refine WL.det (op_loadA (i := 8) (cs := [vI dk, vF dc0, vF dc1, vF dc2, vF ds0, vF ds1]) rfl Try.isAgg31 Try.sizeOf31 ((r1.ext m2).ext m3).rng rfl rfl rfl) rfl rfl rfl ?_
      refine WL.yes rfl rfl rfl (ltb rfl) rfl hb2 ?_
      refine WL.call (oc_call (vs := [.agg #[vI dk, vF dc0, vF dc1, vF dc2, vF ds0, vF ds1], vI 2]) (cap := []) rfl rfl rfl Try.call115 (c_isFilter dk dc0 dc1 dc2 ds0 ds1 (2 : Int) w3)) rfl rfl (ltb rfl) ?_
      rintro _ w4 ⟨rfl, m4⟩
      refine WL.det (op_pick_t rfl hb2 rfl) rfl rfl rfl ?_
      refine WL.det (op_move rfl) rfl rfl rfl ?_
      rcases Bool.eq_false_or_eq_true ((vFil dk dc0 dc1 dc2 ds0 ds1 && (dk == (2 : Int)))) with hb3 | hb3
      · have hp3 := hb3; try simp only [Bool.and_eq_true, Bool.or_eq_true, Bool.not_eq_true', Bool.not_eq_false', Bool.and_eq_false_iff, Bool.or_eq_false_iff, decide_eq_true_eq, decide_eq_false_iff_not, beq_iff_eq, bne_iff_ne, beq_eq_false_iff_ne, bne_eq_false_iff_eq, ne_eq, Bool.false_eq_true, not_false_eq_true, not_true_eq_false, vIn_t, vIn_f] at hp3
        refine WL.yes rfl rfl rfl (ltb rfl) rfl hb3 ?_
        refine WL.det (op_fieldAddr (off' := 14) rfl Try.runUnderlying33 rfl rfl Try.sizeOf27 rfl) rfl rfl rfl ?_
        refine WL.yes rfl rfl rfl (ltb rfl) rfl hb3 ?_
        refine WL.det (op_load1 (i := 14) rfl Try.isAgg27 (((r1.ext m2).ext m3).ext m4).rng rfl rfl) rfl rfl rfl ?_
        refine WL.yes rfl rfl rfl (ltb rfl) rfl hb3 ?_
        refine WL.call (oc_call (vs := [vF g]) (cap := []) rfl rfl rfl Try.call64 (c_isFinite g g rfl w4)) rfl rfl (ltb rfl) ?_
        rintro _ w5 ⟨rfl, m5⟩
        refine WL.det (op_pick_t rfl hb3 rfl) rfl rfl rfl ?_
        refine WL.det (op_assign rfl) rfl rfl rfl ?_
        refine WL.end ?_
        refine NE.code ?_
        refine CE.ret' ?_
        refine XE.leave1 Try.results63 rfl ?_
        refine ⟨?_, ((((((Mod.refl [] w).nt m1).nt m2).nt m3).nt m4).nt m5)⟩
        all_goals simp_all [vStr]
      · have hp3 := hb3; try simp only [Bool.and_eq_true, Bool.or_eq_true, Bool.not_eq_true', Bool.not_eq_false', Bool.and_eq_false_iff, Bool.or_eq_false_iff, decide_eq_true_eq, decide_eq_false_iff_not, beq_iff_eq, bne_iff_ne, beq_eq_false_iff_ne, bne_eq_false_iff_eq, ne_eq, Bool.false_eq_true, not_false_eq_true, not_true_eq_false, vIn_t, vIn_f] at hp3
        refine WL.no rfl rfl rfl (ltb rfl) rfl hb3 rfl (ltb rfl) ?_
        refine WL.no rfl rfl rfl (ltb rfl) rfl hb3 rfl (ltb rfl) ?_
        refine WL.no rfl rfl rfl (ltb rfl) rfl hb3 rfl (ltb rfl) ?_
        refine WL.det (op_pick_f rfl hb3 rfl) rfl rfl rfl ?_
        refine WL.det (op_assign rfl) rfl rfl rfl ?_
        refine WL.end ?_
        refine NE.code ?_
        refine CE.ret' ?_
        refine XE.leave1 Try.results63 rfl ?_
        refine ⟨?_, (((((Mod.refl [] w).nt m1).nt m2).nt m3).nt m4)⟩
        all_goals simp_all [vStr]
    · have hp2 := hb2; try simp only [Bool.and_eq_true, Bool.or_eq_true, Bool.not_eq_true', Bool.not_eq_false', Bool.and_eq_false_iff, Bool.or_eq_false_iff, decide_eq_true_eq, decide_eq_false_iff_not, beq_iff_eq, bne_iff_ne, beq_eq_false_iff_ne, bne_eq_false_iff_eq, ne_eq, Bool.false_eq_true, not_false_eq_true, not_true_eq_false, vIn_t, vIn_f] at hp2
      refine WL.no rfl rfl rfl (ltb rfl) rfl hb2 rfl (ltb rfl) ?_
      refine WL.no rfl rfl rfl (ltb rfl) rfl hb2 rfl (ltb rfl) ?_
      refine WL.no rfl rfl rfl (ltb rfl) rfl hb2 rfl (ltb rfl) ?_
      refine WL.det (op_pick_f rfl hb2 rfl) rfl rfl rfl ?_
      refine WL.det (op_move rfl) rfl rfl rfl ?_
      refine WL.no rfl rfl rfl (ltb rfl) rfl rfl rfl (ltb rfl) ?_
      refine WL.no rfl rfl rfl (ltb rfl) rfl rfl rfl (ltb rfl) ?_
      refine WL.no rfl rfl rfl (ltb rfl) rfl rfl rfl (ltb rfl) ?_
      refine WL.det (op_pick_f rfl rfl rfl) rfl rfl rfl ?_
      refine WL.det (op_assign rfl) rfl rfl rfl ?_
      refine WL.end ?_
      refine NE.code ?_
      refine CE.ret' ?_
      refine XE.leave1 Try.results63 rfl ?_
      refine ⟨?_, ((((Mod.refl [] w).nt m1).nt m2).nt m3)⟩
      all_goals simp_all [vStr]
  · refine WL.no rfl rfl rfl (ltb rfl) rfl hb1 rfl (ltb rfl) ?_
    refine WL.no rfl rfl rfl (ltb rfl) rfl hb1 rfl (ltb rfl) ?_
    refine WL.no rfl rfl rfl (ltb rfl) rfl hb1 rfl (ltb rfl) ?_
    refine WL.det (op_pick_f rfl hb1 rfl) rfl rfl rfl ?_
    refine WL.det (op_move rfl) rfl rfl rfl ?_
    refine WL.no rfl rfl rfl (ltb rfl) rfl rfl rfl (ltb rfl) ?_
    refine WL.no rfl rfl rfl (ltb rfl) rfl rfl rfl (ltb rfl) ?_
    refine WL.no rfl rfl rfl (ltb rfl) rfl rfl rfl (ltb rfl) ?_
    refine WL.det (op_pick_f rfl rfl rfl) rfl rfl rfl ?_
    refine WL.det (op_move rfl) rfl rfl rfl ?_
    refine WL.no rfl rfl rfl (ltb rfl) rfl rfl rfl (ltb rfl) ?_
    refine WL.no rfl rfl rfl (ltb rfl) rfl rfl rfl (ltb rfl) ?_
    refine WL.no rfl rfl rfl (ltb rfl) rfl rfl rfl (ltb rfl) ?_
    refine WL.det (op_pick_f rfl rfl rfl) rfl rfl rfl ?_
    refine WL.det (op_assign rfl) rfl rfl rfl ?_
    refine WL.end ?_
    refine NE.code ?_
    refine CE.ret' ?_
    refine XE.leave1 Try.results63 rfl ?_
    refine ⟨?_, (((Mod.refl [] w).nt m1).nt m2)⟩
    all_goals simp_all [vStr]

set_option maxRecDepth 100000 in
set_option maxHeartbeats 2000000 in
theorem c_l03Ok (n : Nat) (c : Nat) (A : Option Addr) (j : Int) (tk : Int) (tc0 : Nat) (tc1 : Nat) (tc2 : Nat) (ts0 : Nat) (ts1 : Nat) (dk : Int) (dc0 : Nat) (dc1 : Nat) (dc2 : Nat) (ds0 : Nat) (ds1 : Nat) (g : Nat) (p : Nat) (k : Nat) (vs : List Value) (hn : n ≤ 9223372036854775807) (hk : k + 15 ≤ vs.length) (w : World) (q : Rng w p 0 (splice vs k [.slice A n c, vI j, vI tk, vF tc0, vF tc1, vF tc2, vF ts0, vF ts1, vI dk, vF dc0, vF dc1, vF dc2, vF ds0, vF ds1, vF g])) : Cl Try.prog 70 #[vP p k] w fun v w' => v = .bool (vStr n j tk tc0 tc1 tc2 ts0 ts1 dk dc0 dc1 dc2 ds0 ds1 g) ∧ Mod [] w w' := by
  refine Cl.of Try.func70 Try.ntmps70 rfl rfl (ρ := [(0, vP p k)]) rfl ?_
  refine CE.seq ?_
  refine CE.region ?_
  refine WL.det (op_assign rfl) rfl rfl rfl ?_
  refine WL.end ?_
  refine NE.code ?_
  refine CE.seq ?_
  refine CE.region ?_
  refine WL.det (op_move rfl) rfl rfl rfl ?_
  refine WL.det (op_nilCheck rfl) rfl rfl rfl ?_
  refine WL.det (op_fieldAddr (off' := k) rfl Try.runUnderlying33 rfl rfl Try.sizeOf26 rfl) rfl rfl rfl ?_
  refine WL.call (oc_call (vs := [vP p k]) (cap := []) rfl rfl rfl Try.call117 (c_l02Ring n c A j p k (splice vs k [.slice A n c, vI j, vI tk, vF tc0, vF tc1, vF tc2, vF ts0, vF ts1, vI dk, vF dc0, vF dc1, vF dc2, vF ds0, vF ds1, vF g]) (by omega) (sub_fit (i := 0) hk (lB rfl)) w (Rng.congr q (sub_same (i := 0) hk (lB rfl) rfl)))) rfl rfl (ltb rfl) ?_
  rintro _ _ ⟨rfl, rfl⟩
  refine WL.det (op_move rfl) rfl rfl rfl ?_
  rcases Bool.eq_false_or_eq_true (vRing n j) with hb1 | hb1
  · refine WL.yes rfl rfl rfl (ltb rfl) rfl hb1 ?_
    refine WL.det (op_move rfl) rfl rfl rfl ?_
    refine WL.yes rfl rfl rfl (ltb rfl) rfl hb1 ?_
    refine WL.det (op_nilCheck rfl) rfl rfl rfl ?_
    refine WL.yes rfl rfl rfl (ltb rfl) rfl hb1 ?_
    refine WL.det (op_fieldAddr (off' := k + 2) rfl Try.runUnderlying33 rfl rfl Try.sizeOf31 rfl) rfl rfl rfl ?_
    refine WL.yes rfl rfl rfl (ltb rfl) rfl hb1 ?_
    refine WL.call (oc_call (vs := [vP p (k + 2)]) (cap := []) rfl rfl rfl Try.call118 (c_l02Ok tk tc0 tc1 tc2 ts0 ts1 p (k + 2) (splice vs k [.slice A n c, vI j, vI tk, vF tc0, vF tc1, vF tc2, vF ts0, vF ts1, vI dk, vF dc0, vF dc1, vF dc2, vF ds0, vF ds1, vF g]) (sub_fit (i := 2) hk (lB rfl)) w (Rng.congr q (sub_same (i := 2) hk (lB rfl) rfl)))) rfl rfl (ltb rfl) ?_
    rintro _ w1 ⟨rfl, m1⟩
    refine WL.det (op_pick_t rfl hb1 rfl) rfl rfl rfl ?_
    refine WL.det (op_move rfl) rfl rfl rfl ?_
    rcases Bool.eq_false_or_eq_true (vFil tk tc0 tc1 tc2 ts0 ts1) with hb2 | hb2
    · refine WL.yes rfl rfl rfl (ltb rfl) rfl hb2 ?_
      refine WL.det (op_move rfl) rfl rfl rfl ?_
      refine WL.yes rfl rfl rfl (ltb rfl) rfl hb2 ?_
      refine WL.det (op_nilCheck rfl) rfl rfl rfl ?_
      refine WL.yes rfl rfl rfl (ltb rfl) rfl hb2 ?_
      refine WL.det (op_fieldAddr (off' := k + 2) rfl Try.runUnderlying33 rfl rfl Try.sizeOf31 rfl) rfl rfl rfl ?_
      refine WL.yes rfl rfl rfl (ltb rfl) rfl hb2 ?_
      refine WL.det (op_fieldAddr (off' := k + 2) rfl Try.runUnderlying31 rfl rfl Try.sizeOf2 rfl) rfl rfl rfl ?_
      refine WL.yes rfl rfl rfl (ltb rfl) rfl hb2 ?_
      refine WL.det (op_load1 (i := k + 2) rfl Try.isAgg2 (q.ext m1) (Nat.zero_add _) (sub_get (i := 2) hk rfl)) rfl rfl rfl ?_
      refine WL.yes rfl rfl rfl (ltb rfl) rfl hb2 ?_
      refine WL.det (op_eqi rfl rfl) rfl rfl rfl ?_
      refine WL.det (op_pick_t rfl hb2 rfl) rfl rfl rfl ?_
      refine WL.det (op_move rfl) rfl rfl rfl ?_
      rcases Bool.eq_false_or_eq_true ((tk == (3 : Int))) with hb3 | hb3
      · have hp3 := hb3; try simp only [Bool.and_eq_true, Bool.or_eq_true, Bool.not_eq_true', Bool.not_eq_false', Bool.and_eq_false_iff, Bool.or_eq_false_iff, decide_eq_true_eq, decide_eq_false_iff_not, beq_iff_eq, bne_iff_ne, beq_eq_false_iff_ne, bne_eq_false_iff_eq, ne_eq, Bool.false_eq_true, not_false_eq_true, not_true_eq_false, vIn_t, vIn_f] at hp3
        refine WL.yes rfl rfl rfl (ltb rfl) rfl hb3 ?_
        refine WL.det (op_move rfl) rfl rfl rfl ?_
        refine WL.yes rfl rfl rfl (ltb rfl) rfl hb3 ?_
        refine WL.det (op_nilCheck rfl) rfl rfl rfl ?_
        refine WL.yes rfl rfl rfl (ltb rfl) rfl hb3 ?_
        refine WL.det (op_fieldAddr (off' := k + 8) rfl Try.runUnderlying33 rfl rfl Try.sizeOf31 rfl) rfl rfl rfl ?_
        refine WL.yes rfl rfl rfl (ltb rfl) rfl hb3 ?_
        refine WL.call (oc_call (vs := [vP p (k + 8)]) (cap := []) rfl rfl rfl Try.call118 (c_l02Ok dk dc0 dc1 dc2 ds0 ds1 p (k + 8) (splice vs k [.slice A n c, vI j, vI tk, vF tc0, vF tc1, vF tc2, vF ts0, vF ts1, vI dk, vF dc0, vF dc1, vF dc2, vF ds0, vF ds1, vF g]) (sub_fit (i := 8) hk (lB rfl)) w1 (Rng.congr (q.ext m1) (sub_same (i := 8) hk (lB rfl) rfl)))) rfl rfl (ltb rfl) ?_
        rintro _ w2 ⟨rfl, m2⟩
        refine WL.det (op_pick_t rfl hb3 rfl) rfl rfl rfl ?_
        refine WL.det (op_move rfl) rfl rfl rfl ?_
        rcases Bool.eq_false_or_eq_true (vFil dk dc0 dc1 dc2 ds0 ds1) with hb4 | hb4
        · refine WL.yes rfl rfl rfl (ltb rfl) rfl hb4 ?_
          refine WL.det (op_move rfl) rfl rfl rfl ?_
          refine WL.yes rfl rfl rfl (ltb rfl) rfl hb4 ?_
          refine WL.det (op_nilCheck rfl) rfl rfl rfl ?_
          refine WL.yes rfl rfl rfl (ltb rfl) rfl hb4 ?_
          refine WL.det (op_fieldAddr (off' := k + 8) rfl Try.runUnderlying33 rfl rfl Try.sizeOf31 rfl) rfl rfl rfl ?_
          refine WL.yes rfl rfl rfl (ltb rfl) rfl hb4 ?_
          refine WL.det (op_fieldAddr (off' := k + 8) rfl Try.runUnderlying31 rfl rfl Try.sizeOf2 rfl) rfl rfl rfl ?_
          refine WL.yes rfl rfl rfl (ltb rfl) rfl hb4 ?_
          refine WL.det (op_load1 (i := k + 8) rfl Try.isAgg2 ((q.ext m1).ext m2) (Nat.zero_add _) (sub_get (i := 8) hk rfl)) rfl rfl rfl ?_
          refine WL.yes rfl rfl rfl (ltb rfl) rfl hb4 ?_
          refine WL.det (op_eqi rfl rfl) rfl rfl rfl ?_
          refine WL.det (op_pick_t rfl hb4 rfl) rfl rfl rfl ?_
          refine WL.det (op_move rfl) rfl rfl rfl ?_
          rcases Bool.eq_false_or_eq_true ((dk == (2 : Int))) with hb5 | hb5
          · have hp5 := hb5; try simp only [Bool.and_eq_true, Bool.or_eq_true, Bool.not_eq_true', Bool.not_eq_false', Bool.and_eq_false_iff, Bool.or_eq_false_iff, decide_eq_true_eq, decide_eq_false_iff_not, beq_iff_eq, bne_iff_ne, beq_eq_false_iff_ne, bne_eq_false_iff_eq, ne_eq, Bool.false_eq_true, not_false_eq_true, not_true_eq_false, vIn_t, vIn_f] at hp5
            refine WL.yes rfl rfl rfl (ltb rfl) rfl hb5 ?_
            refine WL.det (op_move rfl) rfl rfl rfl ?_
            refine WL.yes rfl rfl rfl (ltb rfl) rfl hb5 ?_
            refine WL.det (op_nilCheck rfl) rfl rfl rfl ?_
            refine WL.yes rfl rfl rfl (ltb rfl) rfl hb5 ?_
            refine WL.det (op_fieldAddr (off' := k + 14) rfl Try.runUnderlying33 rfl rfl Try.sizeOf27 rfl) rfl rfl rfl ?_
            refine WL.yes rfl rfl rfl (ltb rfl) rfl hb5 ?_
            refine WL.det (op_load1 (i := k + 14) rfl Try.isAgg27 ((q.ext m1).ext m2) (Nat.zero_add _) (sub_get (i := 14) hk rfl)) rfl rfl rfl ?_
            refine WL.yes rfl rfl rfl (ltb rfl) rfl hb5 ?_
            refine WL.call (oc_call (vs := [vF g]) (cap := []) rfl rfl rfl Try.call71 (c_l01Finite g g rfl w2)) rfl rfl (ltb rfl) ?_
            rintro _ w3 ⟨rfl, m3⟩
            refine WL.det (op_pick_t rfl hb5 rfl) rfl rfl rfl ?_
            refine WL.det (op_assign rfl) rfl rfl rfl ?_
            refine WL.end ?_
            refine NE.code ?_
            refine CE.ret' ?_
            refine XE.leave1 Try.results70 rfl ?_
            refine ⟨?_, ((((Mod.refl [] w).nt m1).nt m2).nt m3)⟩
            all_goals simp_all [vStr]
          · have hp5 := hb5; try simp only [Bool.and_eq_true, Bool.or_eq_true, Bool.not_eq_true', Bool.not_eq_false', Bool.and_eq_false_iff, Bool.or_eq_false_iff, decide_eq_true_eq, decide_eq_false_iff_not, beq_iff_eq, bne_iff_ne, beq_eq_false_iff_ne, bne_eq_false_iff_eq, ne_eq, Bool.false_eq_true, not_false_eq_true, not_true_eq_false, vIn_t, vIn_f] at hp5
            refine WL.no rfl rfl rfl (ltb rfl) rfl hb5 rfl (ltb rfl) ?_
            refine WL.no rfl rfl rfl (ltb rfl) rfl hb5 rfl (ltb rfl) ?_
            refine WL.no rfl rfl rfl (ltb rfl) rfl hb5 rfl (ltb rfl) ?_
            refine WL.no rfl rfl rfl (ltb rfl) rfl hb5 rfl (ltb rfl) ?_
            refine WL.no rfl rfl rfl (ltb rfl) rfl hb5 rfl (ltb rfl) ?_
            refine WL.det (op_pick_f rfl hb5 rfl) rfl rfl rfl ?_
            refine WL.det (op_assign rfl) rfl rfl rfl ?_
            refine WL.end ?_
            refine NE.code ?_
            refine CE.ret' ?_
            refine XE.leave1 Try.results70 rfl ?_
            refine ⟨?_, (((Mod.refl [] w).nt m1).nt m2)⟩
            all_goals simp_all [vStr]
        · refine WL.no rfl rfl rfl (ltb rfl) rfl hb4 rfl (ltb rfl) ?_
          refine WL.no rfl rfl rfl (ltb rfl) rfl hb4 rfl (ltb rfl) ?_
          refine WL.no rfl rfl rfl (ltb rfl) rfl hb4 rfl (ltb rfl) ?_
          refine WL.no rfl rfl rfl (ltb rfl) rfl hb4 rfl (ltb rfl) ?_
          refine WL.no rfl rfl rfl (ltb rfl) rfl hb4 rfl (ltb rfl) ?_
          refine WL.no rfl rfl rfl (ltb rfl) rfl hb4 rfl (ltb rfl) ?_
          refine WL.det (op_pick_f rfl hb4 rfl) rfl rfl rfl ?_
          refine WL.det (op_move rfl) rfl rfl rfl ?_
          refine WL.no rfl rfl rfl (ltb rfl) rfl rfl rfl (ltb rfl) ?_
          refine WL.no rfl rfl rfl (ltb rfl) rfl rfl rfl (ltb rfl) ?_
          refine WL.no rfl rfl rfl (ltb rfl) rfl rfl rfl (ltb rfl) ?_
          refine WL.no rfl rfl rfl (ltb rfl) rfl rfl rfl (ltb rfl) ?_
          refine WL.no rfl rfl rfl (ltb rfl) rfl rfl rfl (ltb rfl) ?_
          refine WL.det (op_pick_f rfl rfl rfl) rfl rfl rfl ?_
          refine WL.det (op_assign rfl) rfl rfl rfl ?_
          refine WL.end ?_
          refine NE.code ?_
          refine CE.ret' ?_
          refine XE.leave1 Try.results70 rfl ?_
          refine ⟨?_, (((Mod.refl [] w).nt m1).nt m2)⟩
          all_goals simp_all [vStr]
      · have hp3 := hb3; try simp only [Bool.and_eq_true, Bool.or_eq_true, Bool.not_eq_true', Bool.not_eq_false', Bool.and_eq_false_iff, Bool.or_eq_false_iff, decide_eq_true_eq, decide_eq_false_iff_not, beq_iff_eq, bne_iff_ne, beq_eq_false_iff_ne, bne_eq_false_iff_eq, ne_eq, Bool.false_eq_true, not_false_eq_true, not_true_eq_false, vIn_t, vIn_f] at hp3
        refine WL.no rfl rfl rfl (ltb rfl) rfl hb3 rfl (ltb rfl) ?_
        refine WL.no rfl rfl rfl (ltb rfl) rfl hb3 rfl (ltb rfl) ?_
        refine WL.no rfl rfl rfl (ltb rfl) rfl hb3 rfl (ltb rfl) ?_
        refine WL.no rfl rfl rfl (ltb rfl) rfl hb3 rfl (ltb rfl) ?_
        refine WL.det (op_pick_f rfl hb3 rfl) rfl rfl rfl ?_
        refine WL.det (op_move rfl) rfl rfl rfl ?_
        refine WL.no rfl rfl rfl (ltb rfl) rfl rfl rfl (ltb rfl) ?_
        refine WL.no rfl rfl rfl (ltb rfl) rfl rfl rfl (ltb rfl) ?_
        refine WL.no rfl rfl rfl (ltb rfl) rfl rfl rfl (ltb rfl) ?_
        refine WL.no rfl rfl rfl (ltb rfl) rfl rfl rfl (ltb rfl) ?_
        refine WL.no rfl rfl rfl (ltb rfl) rfl rfl rfl (ltb rfl) ?_
        refine WL.no rfl rfl rfl (ltb rfl) rfl rfl rfl (ltb rfl) ?_
        refine WL.det (op_pick_f rfl rfl rfl) rfl rfl rfl ?_
        refine WL.det (op_move rfl) rfl rfl rfl ?_
        refine WL.no rfl rfl rfl (ltb rfl) rfl rfl rfl (ltb rfl) ?_
        refine WL.no rfl rfl rfl (ltb rfl) rfl rfl rfl (ltb rfl) ?_
        refine WL.no rfl rfl rfl (ltb rfl) rfl rfl rfl (ltb rfl) ?_
        refine WL.no rfl rfl rfl (ltb rfl) rfl rfl rfl (ltb rfl) ?_
        refine WL.no rfl rfl rfl (ltb rfl) rfl rfl rfl (ltb rfl) ?_
        refine WL.det (op_pick_f rfl rfl rfl) rfl rfl rfl ?_
        refine WL.det (op_assign rfl) rfl rfl rfl ?_
        refine WL.end ?_
        refine NE.code ?_
        refine CE.ret' ?_
        refine XE.leave1 Try.results70 rfl ?_
        refine ⟨?_, ((Mod.refl [] w).nt m1)⟩
        all_goals simp_all [vStr]
    · refine WL.no rfl rfl rfl (ltb rfl) rfl hb2 rfl (ltb rfl) ?_
      refine WL.no rfl rfl rfl (ltb rfl) rfl hb2 rfl (ltb rfl) ?_
      refine WL.no rfl rfl rfl (ltb rfl) rfl hb2 rfl (ltb rfl) ?_
      refine WL.no rfl rfl rfl (ltb rfl) rfl hb2 rfl (ltb rfl) ?_
      refine WL.no rfl rfl rfl (ltb rfl) rfl hb2 rfl (ltb rfl) ?_
      refine WL.no rfl rfl rfl (ltb rfl) rfl hb2 rfl (ltb rfl) ?_
      refine WL.det (op_pick_f rfl hb2 rfl) rfl rfl rfl ?_
      refine WL.det (op_move rfl) rfl rfl rfl ?_
      refine WL.no rfl rfl rfl (ltb rfl) rfl rfl rfl (ltb rfl) ?_
      refine WL.no rfl rfl rfl (ltb rfl) rfl rfl rfl (ltb rfl) ?_
      refine WL.no rfl rfl rfl (ltb rfl) rfl rfl rfl (ltb rfl) ?_
      refine WL.no rfl rfl rfl (ltb rfl) rfl rfl rfl (ltb rfl) ?_
      refine WL.det (op_pick_f rfl rfl rfl) rfl rfl rfl ?_
      refine WL.det (op_move rfl) rfl rfl rfl ?_
      refine WL.no rfl rfl rfl (ltb rfl) rfl rfl rfl (ltb rfl) ?_
      refine WL.no rfl rfl rfl (ltb rfl) rfl rfl rfl (ltb rfl) ?_
      refine WL.no rfl rfl rfl (ltb rfl) rfl rfl rfl (ltb rfl) ?_
      refine WL.no rfl rfl rfl (ltb rfl) rfl rfl rfl (ltb rfl) ?_
      refine WL.no rfl rfl rfl (ltb rfl) rfl rfl rfl (ltb rfl) ?_
      refine WL.no rfl rfl rfl (ltb rfl) rfl rfl rfl (ltb rfl) ?_
      refine WL.det (op_pick_f rfl rfl rfl) rfl rfl rfl ?_
      refine WL.det (op_move rfl) rfl rfl rfl ?_
      refine WL.no rfl rfl rfl (ltb rfl) rfl rfl rfl (ltb rfl) ?_
      refine WL.no rfl rfl rfl (ltb rfl) rfl rfl rfl (ltb rfl) ?_
      refine WL.no rfl rfl rfl (ltb rfl) rfl rfl rfl (ltb rfl) ?_
      refine WL.no rfl rfl rfl (ltb rfl) rfl rfl rfl (ltb rfl) ?_
      refine WL.no rfl rfl rfl (ltb rfl) rfl rfl rfl (ltb rfl) ?_
      refine WL.det (op_pick_f rfl rfl rfl) rfl rfl rfl ?_
      refine WL.det (op_assign rfl) rfl rfl rfl ?_
      refine WL.end ?_
      refine NE.code ?_
      refine CE.ret' ?_
      refine XE.leave1 Try.results70 rfl ?_
      refine ⟨?_, ((Mod.refl [] w).nt m1)⟩
      all_goals simp_all [vStr]
  · refine WL.no rfl rfl rfl (ltb rfl) rfl hb1 rfl (ltb rfl) ?_
    refine WL.no rfl rfl rfl (ltb rfl) rfl hb1 rfl (ltb rfl) ?_
    refine WL.no rfl rfl rfl (ltb rfl) rfl hb1 rfl (ltb rfl) ?_
    refine WL.no rfl rfl rfl (ltb rfl) rfl hb1 rfl (ltb rfl) ?_
    refine WL.det (op_pick_f rfl hb1 rfl) rfl rfl rfl ?_
    refine WL.det (op_move rfl) rfl rfl rfl ?_
    refine WL.no rfl rfl rfl (ltb rfl) rfl rfl rfl (ltb rfl) ?_
    refine WL.no rfl rfl rfl (ltb rfl) rfl rfl rfl (ltb rfl) ?_
    refine WL.no rfl rfl rfl (ltb rfl) rfl rfl rfl (ltb rfl) ?_
    refine WL.no rfl rfl rfl (ltb rfl) rfl rfl rfl (ltb rfl) ?_
    refine WL.no rfl rfl rfl (ltb rfl) rfl rfl rfl (ltb rfl) ?_
    refine WL.no rfl rfl rfl (ltb rfl) rfl rfl rfl (ltb rfl) ?_
    refine WL.det (op_pick_f rfl rfl rfl) rfl rfl rfl ?_
    refine WL.det (op_move rfl) rfl rfl rfl ?_
    refine WL.no rfl rfl rfl (ltb rfl) rfl rfl rfl (ltb rfl) ?_
    refine WL.no rfl rfl rfl (ltb rfl) rfl rfl rfl (ltb rfl) ?_
    refine WL.no rfl rfl rfl (ltb rfl) rfl rfl rfl (ltb rfl) ?_
    refine WL.no rfl rfl rfl (ltb rfl) rfl rfl rfl (ltb rfl) ?_
    refine WL.det (op_pick_f rfl rfl rfl) rfl rfl rfl ?_
    refine WL.det (op_move rfl) rfl rfl rfl ?_
    refine WL.no rfl rfl rfl (ltb rfl) rfl rfl rfl (ltb rfl) ?_
    refine WL.no rfl rfl rfl (ltb rfl) rfl rfl rfl (ltb rfl) ?_
    refine WL.no rfl rfl rfl (ltb rfl) rfl rfl rfl (ltb rfl) ?_
    refine WL.no rfl rfl rfl (ltb rfl) rfl rfl rfl (ltb rfl) ?_
    refine WL.no rfl rfl rfl (ltb rfl) rfl rfl rfl (ltb rfl) ?_
    refine WL.no rfl rfl rfl (ltb rfl) rfl rfl rfl (ltb rfl) ?_
    refine WL.det (op_pick_f rfl rfl rfl) rfl rfl rfl ?_
    refine WL.det (op_move rfl) rfl rfl rfl ?_
    refine WL.no rfl rfl rfl (ltb rfl) rfl rfl rfl (ltb rfl) ?_
    refine WL.no rfl rfl rfl (ltb rfl) rfl rfl rfl (ltb rfl) ?_
    refine WL.no rfl rfl rfl (ltb rfl) rfl rfl rfl (ltb rfl) ?_
    refine WL.no rfl rfl rfl (ltb rfl) rfl rfl rfl (ltb rfl) ?_
    refine WL.no rfl rfl rfl (ltb rfl) rfl rfl rfl (ltb rfl) ?_
    refine WL.det (op_pick_f rfl rfl rfl) rfl rfl rfl ?_
    refine WL.det (op_assign rfl) rfl rfl rfl ?_
    refine WL.end ?_
    refine NE.code ?_
    refine CE.ret' ?_
    refine XE.leave1 Try.results70 rfl ?_
    refine ⟨?_, (Mod.refl [] w)⟩
    all_goals simp_all [vStr]

set_option maxRecDepth 100000 in
set_option maxHeartbeats 2000000 in
theorem c_l03Copy (n : Nat) (c : Nat) (b : Nat) (xs : List Nat) (j : Int) (tk : Int) (tc0 : Nat) (tc1 : Nat) (tc2 : Nat) (ts0 : Nat) (ts1 : Nat) (dk : Int) (dc0 : Nat) (dc1 : Nat) (dc2 : Nat) (ds0 : Nat) (ds1 : Nat) (g : Nat) (p : Nat) (k : Nat) (vs : List Value) (ln : xs.length = n) (h0 : 0 < n) (hn : n ≤ 1048576) (hk : k + 15 ≤ vs.length) (w : World) (q : Rng w p 0 (splice vs k [vS b 0 n c, vI j, vI tk, vF tc0, vF tc1, vF tc2, vF ts0, vF ts1, vI dk, vF dc0, vF dc1, vF dc2, vF ds0, vF ds1, vF g])) (r : Rng w b 0 (fl xs)) : Cl Try.prog 72 #[vP p k] w fun v w' => ∃ (b' : Nat) (c' : Nat), v = .agg #[vS b' 0 n c', vI j, vI tk, vF tc0, vF tc1, vF tc2, vF ts0, vF ts1, vI dk, vF dc0, vF dc1, vF dc2, vF ds0, vF ds1, vF g] ∧ Row w' b' 0 (fl xs) ∧ w.heap.size ≤ b' ∧ Mod [] w w' := by
  refine Cl.of Try.func72 Try.ntmps72 rfl rfl (ρ := [(0, vP p k)]) rfl ?_
  refine CE.seq ?_
  refine CE.region ?_
  refine WL.op (op_alloc (cs := [.slice none 0 0, vI 0, vI 0, vF 0, vF 0, vF 0, vF 0, vF 0, vI 0, vF 0, vF 0, vF 0, vF 0, vF 0, vF 0]) Try.zeroValue33 rfl) rfl rfl (ltb rfl) ?_
  rintro _ w1 ⟨rfl, r1, m1, z1⟩
  refine WL.end ?_
  refine NE.code ?_
  refine CE.seq ?_
  refine CE.draw (fun | 3 => some (fun _ wA uA wB => ∃ (b' : Nat) (c' : Nat), uA = .agg #[vS b' 0 n c', vI j] ∧ Row wB b' 0 (fl xs) ∧ wA.heap.size ≤ b' ∧ Mod [] wA wB) | _ => none) [0, 1, 2, 3, 4, 5, 6, 7, 8, 9, 10, 11, 12, 13, 14, 15] [16, 17] [] (by kernel_rfl) (by kernel_rfl) ?_
  have md1 : Mod [] w1 w1.drew := (Mod.refl _ _).drew
  generalize w1.drew = w2 at md1 ⊢
  refine DR.det (i := 0) rfl rfl (by kernel_rfl) (.free rfl) rfl rfl (fun wD mD => op_move rfl) ?_
  refine DR.det (i := 1) rfl rfl (by kernel_rfl) (.free rfl) rfl rfl (fun wD mD => op_nilCheck rfl) ?_
  refine DR.det (i := 2) rfl rfl (by kernel_rfl) (.free rfl) rfl rfl (fun wD mD => op_fieldAddr (off' := k) rfl Try.runUnderlying33 rfl rfl Try.sizeOf26 rfl) ?_
  refine DR.det (i := 4) rfl rfl (by kernel_rfl) (.free rfl) rfl rfl (fun wD mD => op_move rfl) ?_
  refine DR.det (i := 5) rfl rfl (by kernel_rfl) (.free rfl) rfl rfl (fun wD mD => op_nilCheck rfl) ?_
  refine DR.det (i := 6) rfl rfl (by kernel_rfl) (.free rfl) rfl rfl (fun wD mD => op_fieldAddr (off' := k + 2) rfl Try.runUnderlying33 rfl rfl Try.sizeOf31 rfl) ?_
  refine DR.det (i := 7) rfl rfl (by kernel_rfl) (.free rfl) rfl rfl (fun wD mD => op_loadA (i := k + 2) (cs := [vI tk, vF tc0, vF tc1, vF tc2, vF ts0, vF ts1]) rfl Try.isAgg31 Try.sizeOf31 (((q.ext m1).ext md1).ext mD) (Nat.zero_add _) (sub_take (i := 2) hk (lB rfl) rfl) rfl) ?_
  refine DR.det (i := 8) rfl rfl (by kernel_rfl) (.free rfl) rfl rfl (fun wD mD => op_move rfl) ?_
  refine DR.det (i := 9) rfl rfl (by kernel_rfl) (.free rfl) rfl rfl (fun wD mD => op_nilCheck rfl) ?_
  refine DR.det (i := 10) rfl rfl (by kernel_rfl) (.free rfl) rfl rfl (fun wD mD => op_fieldAddr (off' := k + 8) rfl Try.runUnderlying33 rfl rfl Try.sizeOf31 rfl) ?_
  refine DR.det (i := 11) rfl rfl (by kernel_rfl) (.free rfl) rfl rfl (fun wD mD => op_loadA (i := k + 8) (cs := [vI dk, vF dc0, vF dc1, vF dc2, vF ds0, vF ds1]) rfl Try.isAgg31 Try.sizeOf31 (((q.ext m1).ext md1).ext mD) (Nat.zero_add _) (sub_take (i := 8) hk (lB rfl) rfl) rfl) ?_
  refine DR.det (i := 12) rfl rfl (by kernel_rfl) (.free rfl) rfl rfl (fun wD mD => op_move rfl) ?_
  refine DR.det (i := 13) rfl rfl (by kernel_rfl) (.free rfl) rfl rfl (fun wD mD => op_nilCheck rfl) ?_
  refine DR.det (i := 14) rfl rfl (by kernel_rfl) (.free rfl) rfl rfl (fun wD mD => op_fieldAddr (off' := k + 14) rfl Try.runUnderlying33 rfl rfl Try.sizeOf27 rfl) ?_
  refine DR.det (i := 15) rfl rfl (by kernel_rfl) (.free rfl) rfl rfl (fun wD mD => op_load1 (i := k + 14) rfl Try.isAgg27 (((q.ext m1).ext md1).ext mD) (Nat.zero_add _) (sub_get (i := 14) hk rfl)) ?_
  refine DR.one (i := 3) rfl rfl (by kernel_rfl) (.free rfl) rfl (ltb rfl) (vs := [.func (.func 119) #[] #[], vP p k]) rfl ?_
  intro w3 m2
  refine ⟨oc_call (vs := [vP p k]) (cap := []) rfl rfl rfl Try.call119 (c_l02Copy n c b xs j p k (splice vs k [vS b 0 n c, vI j, vI tk, vF tc0, vF tc1, vF tc2, vF ts0, vF ts1, vI dk, vF dc0, vF dc1, vF dc2, vF ds0, vF ds1, vF g]) ln (by omega) (by omega) (sub_fit (i := 0) hk (lB rfl)) w3 (Rng.congr (((q.ext m1).ext md1).ext m2) (sub_same (i := 0) hk (lB rfl) rfl)) (((r.ext m1).ext md1).ext m2)), ?_⟩
  rintro _ w4 ⟨b'1, c'1, rfl, r2, ge1, m3⟩
  refine ⟨(((Mod.refl [] w2).nt m2).nt m3), ?_⟩
  refine DR.done rfl ?_
  intro w5 m4
  refine WO.det (op_build (qs := [(0, .agg #[vS b'1 0 n c'1, vI j]), (1, .agg #[vI tk, vF tc0, vF tc1, vF tc2, vF ts0, vF ts1]), (2, .agg #[vI dk, vF dc0, vF dc1, vF dc2, vF ds0, vF ds1]), (3, vF g)]) (cells := #[vS b'1 0 n c'1, vI j, vI tk, vF tc0, vF tc1, vF tc2, vF ts0, vF ts1, vI dk, vF dc0, vF dc1, vF dc2, vF ds0, vF ds1, vF g]) rfl (by kernel_rfl)) rfl (.free rfl) rfl rfl ?_
  refine WO.op0 rfl (.free rfl) rfl (op_store (i := 0) (cs := [vS b'1 0 n c'1, vI j, vI tk, vF tc0, vF tc1, vF tc2, vF ts0, vF ts1, vI dk, vF dc0, vF dc1, vF dc2, vF ds0, vF ds1, vF g]) rfl rfl rfl Try.sizeOf33 rfl ((((r1.ext md1).ext m2).ext m3).ext m4) rfl (lB rfl) rfl) ?_
  rintro _ w6 ⟨r3, m5, z2⟩
  have r4 : Row w6 w.heap.size 0 [vS b'1 0 n c'1, vI j, vI tk, vF tc0, vF tc1, vF tc2, vF ts0, vF ts1, vI dk, vF dc0, vF dc1, vF dc2, vF ds0, vF ds1, vF g] := Row.congr r3 rfl
  refine WO.end ?_
  refine NE.code ?_
  refine CE.ret' ?_
  refine XE.leaveC Try.results72 (res_agg (cs := [vS b'1 0 n c'1, vI j, vI tk, vF tc0, vF tc1, vF tc2, vF ts0, vF ts1, vI dk, vF dc0, vF dc1, vF dc2, vF ds0, vF ds1, vF g]) rfl Try.isAgg33 Try.sizeOf33 r4.rng rfl res_nil) ?_
  refine ⟨b'1, c'1, rfl, ((r2.ext m4).mod m5 (nC (lG (lL (lL r1.lt (lT md1.size m2.size)) ge1)) nN)), (lT (lT (lT m1.size md1.size) m2.size) ge1), (((((((Mod.refl [] w).nt m1).nt md1).nt m2).nt m3).nt m4).then m5 ((aC (.inr lR) aN)))⟩

set_option maxRecDepth 100000 in
set_option maxHeartbeats 2000000 in
theorem c_cloneString (n : Nat) (c : Nat) (b : Nat) (xs : List Nat) (j : Int) (tk : Int) (tc0 : Nat) (tc1 : Nat) (tc2 : Nat) (ts0 : Nat) (ts1 : Nat) (dk : Int) (dc0 : Nat) (dc1 : Nat) (dc2 : Nat) (ds0 : Nat) (ds1 : Nat) (g : Nat) (ln : xs.length = n) (h0 : 0 < n) (hn : n ≤ 1048576) (w : World) (r : Rng w b 0 (fl xs)) : Cl Try.prog 79 #[.agg #[vS b 0 n c, vI j, vI tk, vF tc0, vF tc1, vF tc2, vF ts0, vF ts1, vI dk, vF dc0, vF dc1, vF dc2, vF ds0, vF ds1, vF g]] w fun v w' => ∃ (b' : Nat) (c' : Nat), v = .agg #[vS b' 0 n c', vI j, vI tk, vF tc0, vF tc1, vF tc2, vF ts0, vF ts1, vI dk, vF dc0, vF dc1, vF dc2, vF ds0, vF ds1, vF g] ∧ Row w' b' 0 (fl xs) ∧ w.heap.size ≤ b' ∧ Mod [] w w' := by
  refine Cl.of Try.func79 Try.ntmps79 rfl rfl (ρ := [(0, .agg #[vS b 0 n c, vI j, vI tk, vF tc0, vF tc1, vF tc2, vF ts0, vF ts1, vI dk, vF dc0, vF dc1, vF dc2, vF ds0, vF ds1, vF g])]) rfl ?_
  refine CE.seq ?_
  refine CE.region ?_
  refine WL.op (op_box (cs := [vS b 0 n c, vI j, vI tk, vF tc0, vF tc1, vF tc2, vF ts0, vF ts1, vI dk, vF dc0, vF dc1, vF dc2, vF ds0, vF ds1, vF g]) rfl rfl) rfl rfl (ltb rfl) ?_
  rintro _ w1 ⟨rfl, r1, m1, z1⟩
  refine WL.op (op_alloc (cs := [.slice none 0 0, vI 0, vI 0, vF 0, vF 0, vF 0, vF 0, vF 0, vI 0, vF 0, vF 0, vF 0, vF 0, vF 0, vF 0]) Try.zeroValue33 rfl) rfl rfl (ltb rfl) ?_
  rintro _ w2 ⟨rfl, r2, m2, z2⟩
  refine WL.end ?_
  refine NE.code ?_
  refine CE.seq ?_
  refine CE.region ?_
  refine WL.det (op_fieldAddr (off' := 0) rfl Try.runUnderlying33 rfl rfl Try.sizeOf26 rfl) rfl rfl rfl ?_
  refine WL.det (op_loadA (i := 0) (cs := [vS b 0 n c, vI j]) rfl Try.isAgg26 Try.sizeOf26 (r1.ext m2).rng rfl rfl rfl) rfl rfl rfl ?_
  refine WL.call (oc_call (vs := [.agg #[vS b 0 n c, vI j]]) (cap := []) rfl rfl rfl Try.call122 (c_cloneRing n c b xs j ln (by omega) (by omega) w2 ((r.ext m1).ext m2))) rfl rfl (ltb rfl) ?_
  rintro _ w3 ⟨b'1, c'1, rfl, r3, ge1, m3⟩
  refine WL.det (op_fieldAddr (off' := 0) rfl Try.runUnderlying33 rfl rfl Try.sizeOf26 rfl) rfl rfl rfl ?_
  refine WL.op0 (op_store (i := 0) (cs := [vS b'1 0 n c'1, vI j]) rfl rfl rfl Try.sizeOf26 rfl ((r1.ext m2).ext m3) rfl (lB rfl) rfl) rfl rfl ?_
  rintro _ w4 ⟨r4, m4, z3⟩
  have r5 : Row w4 w.heap.size 0 [vS b'1 0 n c'1, vI j, vI tk, vF tc0, vF tc1, vF tc2, vF ts0, vF ts1, vI dk, vF dc0, vF dc1, vF dc2, vF ds0, vF ds1, vF g] := Row.congr r4 rfl
  refine WL.end ?_
  refine NE.code ?_
  refine CE.seq ?_
  refine CE.region ?_
  refine WL.det (op_loadA (i := 0) (cs := [vS b'1 0 n c'1, vI j, vI tk, vF tc0, vF tc1, vF tc2, vF ts0, vF ts1, vI dk, vF dc0, vF dc1, vF dc2, vF ds0, vF ds1, vF g]) rfl Try.isAgg33 Try.sizeOf33 r5.rng rfl rfl rfl) rfl rfl rfl ?_
  refine WL.op0 (op_store (i := 0) (cs := [vS b'1 0 n c'1, vI j, vI tk, vF tc0, vF tc1, vF tc2, vF ts0, vF ts1, vI dk, vF dc0, vF dc1, vF dc2, vF ds0, vF ds1, vF g]) rfl rfl rfl Try.sizeOf33 rfl ((r2.ext m3).mod m4 (nC (lG (lL r1.lt lR)) nN)) rfl (lB rfl) rfl) rfl rfl ?_
  rintro _ w5 ⟨r6, m5, z4⟩
  have r7 : Row w5 w1.heap.size 0 [vS b'1 0 n c'1, vI j, vI tk, vF tc0, vF tc1, vF tc2, vF ts0, vF ts1, vI dk, vF dc0, vF dc1, vF dc2, vF ds0, vF ds1, vF g] := Row.congr r6 rfl
  refine WL.end ?_
  refine NE.code ?_
  refine CE.ret' ?_
  refine XE.leaveC Try.results79 (res_agg (cs := [vS b'1 0 n c'1, vI j, vI tk, vF tc0, vF tc1, vF tc2, vF ts0, vF ts1, vI dk, vF dc0, vF dc1, vF dc2, vF ds0, vF ds1, vF g]) rfl Try.isAgg33 Try.sizeOf33 r7.rng rfl res_nil) ?_
  refine ⟨b'1, c'1, rfl, ((r3.mod m4 (nC (lG (lL (lL r1.lt m2.size) ge1)) nN)).mod m5 (nC (lG (lL r2.lt ge1)) nN)), (lT (lT m1.size m2.size) ge1), ((((((Mod.refl [] w).nt m1).nt m2).nt m3).then m4 ((aC (.inr lR) aN))).then m5 ((aC (.inr (lT m1.size lR)) aN)))⟩

set_option maxRecDepth 100000 in
set_option maxHeartbeats 2000000 in
theorem c_back_all (n : Nat) (c : Nat) (b : Nat) (xs : List Nat) (i : Nat) (ln : xs.length = n) (hi : i < n) (hn : n ≤ 1048576) (w : World) (r : Rng w b 0 (fl xs)) : Cl Try.prog 102 #[.agg #[vS b 0 n c, vI ((i : Nat) : Int)], vI ((n : Nat) : Int)] w fun v w' => v = vF (xs.getD i 0) ∧ Mod [] w w' := by
  refine Cl.of Try.func102 Try.ntmps102 rfl rfl (ρ := [(0, .agg #[vS b 0 n c, vI ((i : Nat) : Int)]), (1, vI ((n : Nat) : Int))]) rfl ?_
  refine CE.seq ?_
  refine CE.region ?_
  refine WL.op (op_box (cs := [vS b 0 n c, vI ((i : Nat) : Int)]) rfl rfl) rfl rfl (ltb rfl) ?_
  rintro _ w1 ⟨rfl, r1, m1, z1⟩
  refine WL.det (op_assign rfl) rfl rfl rfl ?_
  refine WL.end ?_
  refine NE.code ?_
  refine CE.seq ?_
  refine CE.region ?_
  refine WL.det (op_fieldAddr (off' := 0) rfl Try.runUnderlying26 rfl rfl Try.sizeOf24 rfl) rfl rfl rfl ?_
  refine WL.det (op_load1 (i := 0) rfl Try.isAgg24 r1.rng rfl rfl) rfl rfl rfl ?_
  refine WL.call (oc_call (vs := [vS b 0 n c]) (cap := []) rfl rfl rfl Try.call103 (c_length32 n c (some ⟨b, 0, none⟩) w1)) rfl rfl (ltb rfl) ?_
  rintro _ _ ⟨rfl, rfl⟩
  refine WL.det (op_assign rfl) rfl rfl rfl ?_
  refine WL.end ?_
  refine NE.code ?_
  refine CE.seq ?_
  refine CE.draw (fun _ => none) [0, 1, 2, 3, 4, 5, 6, 7, 8, 9] [10, 11, 12] [] (by kernel_rfl) (by kernel_rfl) ?_
  have md1 : Mod [] w1 w1.drew := (Mod.refl _ _).drew
  generalize w1.drew = w2 at md1 ⊢
  refine DR.det (i := 0) rfl rfl (by kernel_rfl) (.free rfl) rfl rfl (fun wD mD => op_fieldAddr (off' := 0) rfl Try.runUnderlying26 rfl rfl Try.sizeOf24 rfl) ?_
  refine DR.det (i := 1) rfl rfl (by kernel_rfl) (.free rfl) rfl rfl (fun wD mD => op_load1 (i := 0) rfl Try.isAgg24 ((r1.ext md1).ext mD).rng rfl rfl) ?_
  refine DR.det (i := 2) rfl rfl (by kernel_rfl) (.free rfl) rfl rfl (fun wD mD => op_fieldAddr (off' := 1) rfl Try.runUnderlying26 rfl rfl Try.sizeOf2 rfl) ?_
  refine DR.det (i := 3) rfl rfl (by kernel_rfl) (.free rfl) rfl rfl (fun wD mD => op_load1 (i := 1) rfl Try.isAgg2 ((r1.ext md1).ext mD).rng rfl rfl) ?_
  refine DR.det (i := 4) rfl rfl (by kernel_rfl) (.free rfl) rfl rfl (fun wD mD => op_move rfl) ?_
  refine DR.det (i := 5) rfl rfl (by kernel_rfl) (.free rfl) rfl rfl (fun wD mD => op_sub (r := (((i : Nat) : Int) - ((n : Nat) : Int))) rfl rfl (w_i64 (by omega) (by omega))) ?_
  refine DR.det (i := 6) rfl rfl (by kernel_rfl) (.free rfl) rfl rfl (fun wD mD => op_move rfl) ?_
  refine DR.det (i := 7) rfl rfl (by kernel_rfl) (.free rfl) rfl rfl (fun wD mD => op_add (r := ((((i : Nat) : Int) - ((n : Nat) : Int)) + ((n : Nat) : Int))) rfl rfl (w_i64 (by omega) (by omega))) ?_
  refine DR.det (i := 8) rfl rfl (by kernel_rfl) (.free rfl) rfl rfl (fun wD mD => op_move rfl) ?_
  have hm1 : i % n < n := Nat.mod_lt _ (by omega)
  refine DR.det (i := 9) rfl rfl (by kernel_rfl) (.free rfl) rfl rfl (fun wD mD => op_rem (r := ((i % n : Nat) : Int)) rfl rfl (by omega) (rem_nat (by omega))) ?_
  refine DR.done rfl ?_
  intro w3 m2
  refine WO.det (op_indexSl (off' := 0 + (i % n)) rfl rfl rfl Try.runUnderlying24 Try.sizeOf27 (by omega) (by omega) (by omega)) rfl (.free rfl) rfl rfl ?_
  refine WO.det (op_load1 (i := (i % n)) rfl Try.isAgg27 (((r.ext m1).ext md1).ext m2) rfl (fl_get (by have eL : List.length xs = n := ln; omega))) rfl (.free rfl) rfl rfl ?_
  refine WO.det (op_assign rfl) rfl (.free rfl) rfl rfl ?_
  refine WO.end ?_
  refine NE.code ?_
  refine CE.ret' ?_
  refine XE.leave1 Try.results102 rfl ?_
  refine ⟨?_, ((((Mod.refl [] w).nt m1).nt md1).nt m2)⟩
  all_goals rw [Nat.mod_eq_of_lt hi]

set_option maxRecDepth 100000 in
set_option maxHeartbeats 2000000 in
theorem c_l03Step (n : Nat) (c : Nat) (b : Nat) (xs : List Nat) (i : Nat) (tk : Int) (tc0 : Nat) (tc1 : Nat) (tc2 : Nat) (ts0 : Nat) (ts1 : Nat) (dk : Int) (dc0 : Nat) (dc1 : Nat) (dc2 : Nat) (ds0 : Nat) (ds1 : Nat) (g : Nat) (p : Nat) (k : Nat) (vs : List Value) (a : Nat) (x : Nat) (ln : xs.length = n) (hi : i < n) (hn : n ≤ 1048576) (lts0 : ts0 < wid .f32) (lts1 : ts1 < wid .f32) (lds0 : ds0 < wid .f32) (lds1 : ds1 < wid .f32) (hk : k + 15 ≤ vs.length) (ha : cn .f32 a = cn .f32 x) (la : a < wid .f32) (wx : W32 xs) (w : World) (q : Row w p 0 (splice vs k [vS b 0 n c, vI ((i : Nat) : Int), vI tk, vF tc0, vF tc1, vF tc2, vF ts0, vF ts1, vI dk, vF dc0, vF dc1, vF dc2, vF ds0, vF ds1, vF g])) (r : Row w b 0 (fl xs)) (hne : p ≠ b) : Cl Try.prog 87 #[vP p k, vF a] w fun v w' => v = vF (xs.getD i 0) ∧ (keptF (fop .add .f32 (fop .mul .f32 (stepY dk dc0 dc1 dc2 ds0 ds1 (stepY tk tc0 tc1 tc2 ts0 ts1 (xs.getD i 0))) g) x) < wid .f32) ∧ ((stepS tk tc0 tc1 tc2 ts0 ts1 (xs.getD i 0)) < wid .f32) ∧ ((stepT tk tc0 tc1 tc2 ts0 ts1 (xs.getD i 0)) < wid .f32) ∧ ((stepS dk dc0 dc1 dc2 ds0 ds1 (stepY tk tc0 tc1 tc2 ts0 ts1 (xs.getD i 0))) < wid .f32) ∧ ((stepT dk dc0 dc1 dc2 ds0 ds1 (stepY tk tc0 tc1 tc2 ts0 ts1 (xs.getD i 0))) < wid .f32) ∧ Row w' p 0 (splice vs k [vS b 0 n c, vI (((i + 1) % n : Nat) : Int), vI tk, vF tc0, vF tc1, vF tc2, vF (stepS tk tc0 tc1 tc2 ts0 ts1 (xs.getD i 0)), vF (stepT tk tc0 tc1 tc2 ts0 ts1 (xs.getD i 0)), vI dk, vF dc0, vF dc1, vF dc2, vF (stepS dk dc0 dc1 dc2 ds0 ds1 (stepY tk tc0 tc1 tc2 ts0 ts1 (xs.getD i 0))), vF (stepT dk dc0 dc1 dc2 ds0 ds1 (stepY tk tc0 tc1 tc2 ts0 ts1 (xs.getD i 0))), vF g]) ∧ Row w' b 0 (fl (xs.set i (keptF (fop .add .f32 (fop .mul .f32 (stepY dk dc0 dc1 dc2 ds0 ds1 (stepY tk tc0 tc1 tc2 ts0 ts1 (xs.getD i 0))) g) x)))) ∧ Mod [p, b] w w' := by
  refine Cl.of Try.func87 Try.ntmps87 rfl rfl (ρ := [(0, vP p k), (1, vF a)]) rfl ?_
  refine CE.seq ?_
  refine CE.region ?_
  refine WL.det (op_assign rfl) rfl rfl rfl ?_
  refine WL.end ?_
  refine NE.code ?_
  refine CE.seq ?_
  refine CE.draw (fun _ => none) [0, 1, 2, 3, 4, 5, 6, 7, 8, 9] [10, 11, 12] [] (by kernel_rfl) (by kernel_rfl) ?_
  have md1 : Mod [] w w.drew := (Mod.refl _ _).drew
  generalize w.drew = w1 at md1 ⊢
  refine DR.det (i := 0) rfl rfl (by kernel_rfl) (.free rfl) rfl rfl (fun wD mD => op_move rfl) ?_
  refine DR.det (i := 1) rfl rfl (by kernel_rfl) (.free rfl) rfl rfl (fun wD mD => op_nilCheck rfl) ?_
  refine DR.det (i := 2) rfl rfl (by kernel_rfl) (.free rfl) rfl rfl (fun wD mD => op_fieldAddr (off' := k) rfl Try.runUnderlying33 rfl rfl Try.sizeOf26 rfl) ?_
  refine DR.det (i := 3) rfl rfl (by kernel_rfl) (.free rfl) rfl rfl (fun wD mD => op_fieldAddr (off' := k) rfl Try.runUnderlying26 rfl rfl Try.sizeOf24 rfl) ?_
  refine DR.det (i := 4) rfl rfl (by kernel_rfl) (.free rfl) rfl rfl (fun wD mD => op_load1 (i := k) rfl Try.isAgg24 ((q.ext md1).ext mD).rng (Nat.zero_add _) (sub_get (i := 0) hk rfl)) ?_
  refine DR.det (i := 5) rfl rfl (by kernel_rfl) (.free rfl) rfl rfl (fun wD mD => op_move rfl) ?_
  refine DR.det (i := 6) rfl rfl (by kernel_rfl) (.free rfl) rfl rfl (fun wD mD => op_nilCheck rfl) ?_
  refine DR.det (i := 7) rfl rfl (by kernel_rfl) (.free rfl) rfl rfl (fun wD mD => op_fieldAddr (off' := k) rfl Try.runUnderlying33 rfl rfl Try.sizeOf26 rfl) ?_
  refine DR.det (i := 8) rfl rfl (by kernel_rfl) (.free rfl) rfl rfl (fun wD mD => op_fieldAddr (off' := k + 1) rfl Try.runUnderlying26 rfl rfl Try.sizeOf2 rfl) ?_
  refine DR.det (i := 9) rfl rfl (by kernel_rfl) (.free rfl) rfl rfl (fun wD mD => op_load1 (i := k + 1) rfl Try.isAgg2 ((q.ext md1).ext mD).rng (Nat.zero_add _) (sub_get (i := 1) hk rfl)) ?_
  refine DR.done rfl ?_
  intro w2 m1
  refine WO.det (op_indexSl (off' := 0 + i) rfl rfl rfl Try.runUnderlying24 Try.sizeOf27 (by omega) (by omega) (by omega)) rfl (.free rfl) rfl rfl ?_
  refine WO.det (op_load1 (i := i) rfl Try.isAgg27 ((r.ext md1).ext m1).rng rfl (fl_get (by have eL : List.length xs = n := ln; omega))) rfl (.free rfl) rfl rfl ?_
  refine WO.det (op_assign rfl) rfl (.free rfl) rfl rfl ?_
  refine WO.end ?_
  refine NE.code ?_
  refine CE.seq ?_
  refine CE.draw (fun | 7 => some (fun _ wA uA wB => ∃ (y : Nat), uA = vF y ∧ (cn .f32 y = cn .f32 (stepY tk tc0 tc1 tc2 ts0 ts1 (xs.getD i 0))) ∧ (y < wid .f32) ∧ (stepS tk tc0 tc1 tc2 ts0 ts1 (xs.getD i 0) < wid .f32) ∧ (stepT tk tc0 tc1 tc2 ts0 ts1 (xs.getD i 0) < wid .f32) ∧ Row wB p 0 (splice (splice vs k [vS b 0 n c, vI ((i : Nat) : Int), vI tk, vF tc0, vF tc1, vF tc2, vF ts0, vF ts1, vI dk, vF dc0, vF dc1, vF dc2, vF ds0, vF ds1, vF g]) (k + 2) [vI tk, vF tc0, vF tc1, vF tc2, vF (stepS tk tc0 tc1 tc2 ts0 ts1 (xs.getD i 0)), vF (stepT tk tc0 tc1 tc2 ts0 ts1 (xs.getD i 0))]) ∧ Mod [p] wA wB) | _ => none) [0, 1, 2, 3, 4, 5, 6, 7] [8, 9] [p] (by kernel_rfl) (by kernel_rfl) ?_
  have md2 : Mod [] w2 w2.drew := (Mod.refl _ _).drew
  generalize w2.drew = w3 at md2 ⊢
  refine DR.det (i := 0) rfl rfl (by kernel_rfl) (.free rfl) rfl rfl (fun wD mD => op_move rfl) ?_
  refine DR.det (i := 1) rfl rfl (by kernel_rfl) (.free rfl) rfl rfl (fun wD mD => op_nilCheck rfl) ?_
  refine DR.det (i := 2) rfl rfl (by kernel_rfl) (.free rfl) rfl rfl (fun wD mD => op_fieldAddr (off' := k + 8) rfl Try.runUnderlying33 rfl rfl Try.sizeOf31 rfl) ?_
  refine DR.det (i := 3) rfl rfl (by kernel_rfl) (.free rfl) rfl rfl (fun wD mD => op_move rfl) ?_
  refine DR.det (i := 4) rfl rfl (by kernel_rfl) (.free rfl) rfl rfl (fun wD mD => op_nilCheck rfl) ?_
  refine DR.det (i := 5) rfl rfl (by kernel_rfl) (.free rfl) rfl rfl (fun wD mD => op_fieldAddr (off' := k + 2) rfl Try.runUnderlying33 rfl rfl Try.sizeOf31 rfl) ?_
  refine DR.det (i := 6) rfl rfl (by kernel_rfl) (.free rfl) rfl rfl (fun wD mD => op_move rfl) ?_
  refine DR.one (i := 7) rfl rfl (by kernel_rfl) (.free rfl) rfl (ltb rfl) (vs := [.func (.func 128) #[] #[], vP p (k + 2), vF (xs.getD i 0)]) rfl ?_
  intro w4 m2
  refine ⟨oc_call (vs := [vP p (k + 2), vF (xs.getD i 0)]) (cap := []) rfl rfl rfl Try.call128 (c_l02Step tk tc0 tc1 tc2 ts0 ts1 p (k + 2) (splice vs k [vS b 0 n c, vI ((i : Nat) : Int), vI tk, vF tc0, vF tc1, vF tc2, vF ts0, vF ts1, vI dk, vF dc0, vF dc1, vF dc2, vF ds0, vF ds1, vF g]) (xs.getD i 0) (xs.getD i 0) lts0 lts1 (sub_fit (i := 2) hk (lB rfl)) rfl (wx.get _) w4 (Row.congr ((((q.ext md1).ext m1).ext md2).ext m2) (sub_same (i := 2) hk (lB rfl) rfl))), ?_⟩
  rintro _ w5 ⟨y1, rfl, h1, h2, h3, h4, r1, m3⟩
  have r2 : Row w5 p 0 (splice vs k [vS b 0 n c, vI ((i : Nat) : Int), vI tk, vF tc0, vF tc1, vF tc2, vF (stepS tk tc0 tc1 tc2 ts0 ts1 (xs.getD i 0)), vF (stepT tk tc0 tc1 tc2 ts0 ts1 (xs.getD i 0)), vI dk, vF dc0, vF dc1, vF dc2, vF ds0, vF ds1, vF g]) := Row.congr r1 (sub_put (i := 2) hk (lB rfl) rfl)
  refine ⟨(((Mod.refl [p] w3).nt m2).then m3 ((aC (.inl (by simp)) aN))), ?_⟩
  refine DR.done rfl ?_
  intro w6 m4
  refine WO.call rfl (.free rfl) rfl (ltb rfl) (oc_call (vs := [vP p (k + 8), vF y1]) (cap := []) rfl rfl rfl Try.call128 (c_l02Step dk dc0 dc1 dc2 ds0 ds1 p (k + 8) (splice vs k [vS b 0 n c, vI ((i : Nat) : Int), vI tk, vF tc0, vF tc1, vF tc2, vF (stepS tk tc0 tc1 tc2 ts0 ts1 (xs.getD i 0)), vF (stepT tk tc0 tc1 tc2 ts0 ts1 (xs.getD i 0)), vI dk, vF dc0, vF dc1, vF dc2, vF ds0, vF ds1, vF g]) y1 (stepY tk tc0 tc1 tc2 ts0 ts1 (xs.getD i 0)) lds0 lds1 (sub_fit (i := 8) hk (lB rfl)) h1 h2 w6 (Row.congr (r2.ext m4) (sub_same (i := 8) hk (lB rfl) rfl)))) ?_
  rintro _ w7 ⟨y2, rfl, h5, h6, h7, h8, r3, m5⟩
  have r4 : Row w7 p 0 (splice vs k [vS b 0 n c, vI ((i : Nat) : Int), vI tk, vF tc0, vF tc1, vF tc2, vF (stepS tk tc0 tc1 tc2 ts0 ts1 (xs.getD i 0)), vF (stepT tk tc0 tc1 tc2 ts0 ts1 (xs.getD i 0)), vI dk, vF dc0, vF dc1, vF dc2, vF (stepS dk dc0 dc1 dc2 ds0 ds1 (stepY tk tc0 tc1 tc2 ts0 ts1 (xs.getD i 0))), vF (stepT dk dc0 dc1 dc2 ds0 ds1 (stepY tk tc0 tc1 tc2 ts0 ts1 (xs.getD i 0))), vF g]) := Row.congr r3 (sub_put (i := 8) hk (lB rfl) rfl)
  refine WO.det (op_assign rfl) rfl (.free rfl) rfl rfl ?_
  refine WO.end ?_
  refine NE.code ?_
  refine CE.seq ?_
  refine CE.draw (fun | 11 => some (fun _ wA uA wB => uA = vF (keptF (fop .add .f32 (fop .mul .f32 (stepY dk dc0 dc1 dc2 ds0 ds1 (stepY tk tc0 tc1 tc2 ts0 ts1 (xs.getD i 0))) g) x)) ∧ (keptF (fop .add .f32 (fop .mul .f32 (stepY dk dc0 dc1 dc2 ds0 ds1 (stepY tk tc0 tc1 tc2 ts0 ts1 (xs.getD i 0))) g) x) < wid .f32) ∧ Mod [] wA wB) | _ => none) [0, 1, 2, 3, 4, 5, 6, 7, 8, 9, 10, 11] [12] [] (by kernel_rfl) (by kernel_rfl) ?_
  have md3 : Mod [] w7 w7.drew := (Mod.refl _ _).drew
  generalize w7.drew = w8 at md3 ⊢
  refine DR.det (i := 0) rfl rfl (by kernel_rfl) (.free rfl) rfl rfl (fun wD mD => op_move rfl) ?_
  refine DR.det (i := 1) rfl rfl (by kernel_rfl) (.free rfl) rfl rfl (fun wD mD => op_nilCheck rfl) ?_
  refine DR.det (i := 2) rfl rfl (by kernel_rfl) (.free rfl) rfl rfl (fun wD mD => op_fieldAddr (off' := k) rfl Try.runUnderlying33 rfl rfl Try.sizeOf26 rfl) ?_
  refine DR.det (i := 3) rfl rfl (by kernel_rfl) (.free rfl) rfl rfl (fun wD mD => op_move rfl) ?_
  refine DR.det (i := 4) rfl rfl (by kernel_rfl) (.free rfl) rfl rfl (fun wD mD => op_move rfl) ?_
  refine DR.det (i := 5) rfl rfl (by kernel_rfl) (.free rfl) rfl rfl (fun wD mD => op_nilCheck rfl) ?_
  refine DR.det (i := 6) rfl rfl (by kernel_rfl) (.free rfl) rfl rfl (fun wD mD => op_fieldAddr (off' := k + 14) rfl Try.runUnderlying33 rfl rfl Try.sizeOf27 rfl) ?_
  refine DR.det (i := 7) rfl rfl (by kernel_rfl) (.free rfl) rfl rfl (fun wD mD => op_load1 (i := k + 14) rfl Try.isAgg27 ((r4.ext md3).ext mD).rng (Nat.zero_add _) (sub_get (i := 14) hk rfl)) ?_
  refine DR.op (i := 8) (FOut .f32 (fop .mul .f32 (stepY dk dc0 dc1 dc2 ds0 ds1 (stepY tk tc0 tc1 tc2 ts0 ts1 (xs.getD i 0))) g)) rfl rfl (by kernel_rfl) (.free rfl) rfl (ltb rfl) (fun wD mD => op_farith (e := (fop .mul .f32 (stepY dk dc0 dc1 dc2 ds0 ds1 (stepY tk tc0 tc1 tc2 ts0 ts1 (xs.getD i 0))) g)) (.inr (.inr (.inl rfl))) rfl rfl h5 rfl rfl) ?_
  rintro _ ⟨f1, rfl, hf1, lf1⟩
  refine DR.det (i := 9) rfl rfl (by kernel_rfl) (.free rfl) rfl rfl (fun wD mD => op_move rfl) ?_
  refine DR.op (i := 10) (FOut .f32 (fop .add .f32 (fop .mul .f32 (stepY dk dc0 dc1 dc2 ds0 ds1 (stepY tk tc0 tc1 tc2 ts0 ts1 (xs.getD i 0))) g) x)) rfl rfl (by kernel_rfl) (.free rfl) rfl (ltb rfl) (fun wD mD => op_farith (e := (fop .add .f32 (fop .mul .f32 (stepY dk dc0 dc1 dc2 ds0 ds1 (stepY tk tc0 tc1 tc2 ts0 ts1 (xs.getD i 0))) g) x)) (.inl rfl) rfl rfl hf1 ha rfl) ?_
  rintro _ ⟨f2, rfl, hf2, lf2⟩
  refine DR.call (i := 11) (fun uA => uA = vF (keptF (fop .add .f32 (fop .mul .f32 (stepY dk dc0 dc1 dc2 ds0 ds1 (stepY tk tc0 tc1 tc2 ts0 ts1 (xs.getD i 0))) g) x)) ∧ (keptF (fop .add .f32 (fop .mul .f32 (stepY dk dc0 dc1 dc2 ds0 ds1 (stepY tk tc0 tc1 tc2 ts0 ts1 (xs.getD i 0))) g) x) < wid .f32)) rfl rfl (by kernel_rfl) (.free rfl) rfl (ltb rfl) ⟨_, rfl, keptF_wid hf2 lf2⟩ (vs := [.func (.func 130) #[] #[], vF f2]) rfl (fun wD mD => oc_call (vs := [vF f2]) (cap := []) rfl rfl rfl Try.call130 (c_l02Kept f2 (fop .add .f32 (fop .mul .f32 (stepY dk dc0 dc1 dc2 ds0 ds1 (stepY tk tc0 tc1 tc2 ts0 ts1 (xs.getD i 0))) g) x) hf2 lf2 wD)) ?_ ?_
  · rintro w1 _ w2 m1 ⟨rfl, p0, m2⟩; exact ⟨⟨rfl, p0⟩, m2⟩
  rintro _ ⟨rfl, h9⟩
  refine DR.done rfl ?_
  intro w9 m6
  refine WO.call rfl (.free rfl) rfl (ltb rfl) (oc_call (vs := [vP p k, vF (keptF (fop .add .f32 (fop .mul .f32 (stepY dk dc0 dc1 dc2 ds0 ds1 (stepY tk tc0 tc1 tc2 ts0 ts1 (xs.getD i 0))) g) x))]) (cap := []) rfl rfl rfl Try.call129 (c_l02Push n c b xs i p k (splice vs k [vS b 0 n c, vI ((i : Nat) : Int), vI tk, vF tc0, vF tc1, vF tc2, vF (stepS tk tc0 tc1 tc2 ts0 ts1 (xs.getD i 0)), vF (stepT tk tc0 tc1 tc2 ts0 ts1 (xs.getD i 0)), vI dk, vF dc0, vF dc1, vF dc2, vF (stepS dk dc0 dc1 dc2 ds0 ds1 (stepY tk tc0 tc1 tc2 ts0 ts1 (xs.getD i 0))), vF (stepT dk dc0 dc1 dc2 ds0 ds1 (stepY tk tc0 tc1 tc2 ts0 ts1 (xs.getD i 0))), vF g]) (keptF (fop .add .f32 (fop .mul .f32 (stepY dk dc0 dc1 dc2 ds0 ds1 (stepY tk tc0 tc1 tc2 ts0 ts1 (xs.getD i 0))) g) x)) ln (by omega) (by omega) (sub_fit (i := 0) hk (lB rfl)) w9 (Row.congr ((r4.ext md3).ext m6) (sub_same (i := 0) hk (lB rfl) rfl)) (((((((((r.ext md1).ext m1).ext md2).ext m2).mod m3 (nC (Ne.symm hne) nN)).ext m4).mod m5 (nC (Ne.symm hne) nN)).ext md3).ext m6) hne)) ?_
  rintro _ w10 ⟨rfl, r5, r6, m7⟩
  have r7 : Row w10 p 0 (splice vs k [vS b 0 n c, vI (((i + 1) % n : Nat) : Int), vI tk, vF tc0, vF tc1, vF tc2, vF (stepS tk tc0 tc1 tc2 ts0 ts1 (xs.getD i 0)), vF (stepT tk tc0 tc1 tc2 ts0 ts1 (xs.getD i 0)), vI dk, vF dc0, vF dc1, vF dc2, vF (stepS dk dc0 dc1 dc2 ds0 ds1 (stepY tk tc0 tc1 tc2 ts0 ts1 (xs.getD i 0))), vF (stepT dk dc0 dc1 dc2 ds0 ds1 (stepY tk tc0 tc1 tc2 ts0 ts1 (xs.getD i 0))), vF g]) := Row.congr r5 (sub_put (i := 0) hk (lB rfl) rfl)
  refine WO.end ?_
  refine NE.code ?_
  refine CE.seq ?_
  refine CE.region ?_
  refine WL.det (op_move rfl) rfl rfl rfl ?_
  refine WL.det (op_assign rfl) rfl rfl rfl ?_
  refine WL.end ?_
  refine NE.code ?_
  refine CE.ret' ?_
  refine XE.leave1 Try.results87 rfl ?_
  refine ⟨?_, ?_, ?_, ?_, ?_, ?_, r7, r6, (((((((((((Mod.refl [p, b] w).nt md1).nt m1).nt md2).nt m2).then m3 ((aC (.inl (by simp)) aN))).nt m4).then m5 ((aC (.inl (by simp)) aN))).nt md3).nt m6).then m7 ((aC (.inl (by simp)) (aC (.inl (by simp)) aN))))⟩
  all_goals first | assumption | rfl

set_option maxRecDepth 100000 in
set_option maxHeartbeats 2000000 in
theorem c_strStep (n : Nat) (c : Nat) (b : Nat) (xs : List Nat) (i : Nat) (tk : Int) (tc0 : Nat) (tc1 : Nat) (tc2 : Nat) (ts0 : Nat) (ts1 : Nat) (dk : Int) (dc0 : Nat) (dc1 : Nat) (dc2 : Nat) (ds0 : Nat) (ds1 : Nat) (g : Nat) (p : Nat) (k : Nat) (vs : List Value) (a : Nat) (x : Nat) (ln : xs.length = n) (hi : i < n) (hn : n ≤ 1048576) (lts0 : ts0 < wid .f32) (lts1 : ts1 < wid .f32) (lds0 : ds0 < wid .f32) (lds1 : ds1 < wid .f32) (hk : k + 15 ≤ vs.length) (ha : cn .f32 a = cn .f32 x) (la : a < wid .f32) (wx : W32 xs) (w : World) (q : Row w p 0 (splice vs k [vS b 0 n c, vI ((i : Nat) : Int), vI tk, vF tc0, vF tc1, vF tc2, vF ts0, vF ts1, vI dk, vF dc0, vF dc1, vF dc2, vF ds0, vF ds1, vF g])) (r : Row w b 0 (fl xs)) (hne : p ≠ b) : Cl Try.prog 84 #[vP p k, vF a] w fun v w' => v = vF (xs.getD i 0) ∧ (keptF (fop .add .f32 (fop .mul .f32 (stepY dk dc0 dc1 dc2 ds0 ds1 (stepY tk tc0 tc1 tc2 ts0 ts1 (xs.getD i 0))) g) x) < wid .f32) ∧ ((stepS tk tc0 tc1 tc2 ts0 ts1 (xs.getD i 0)) < wid .f32) ∧ ((stepT tk tc0 tc1 tc2 ts0 ts1 (xs.getD i 0)) < wid .f32) ∧ ((stepS dk dc0 dc1 dc2 ds0 ds1 (stepY tk tc0 tc1 tc2 ts0 ts1 (xs.getD i 0))) < wid .f32) ∧ ((stepT dk dc0 dc1 dc2 ds0 ds1 (stepY tk tc0 tc1 tc2 ts0 ts1 (xs.getD i 0))) < wid .f32) ∧ Row w' p 0 (splice vs k [vS b 0 n c, vI (((i + 1) % n : Nat) : Int), vI tk, vF tc0, vF tc1, vF tc2, vF (stepS tk tc0 tc1 tc2 ts0 ts1 (xs.getD i 0)), vF (stepT tk tc0 tc1 tc2 ts0 ts1 (xs.getD i 0)), vI dk, vF dc0, vF dc1, vF dc2, vF (stepS dk dc0 dc1 dc2 ds0 ds1 (stepY tk tc0 tc1 tc2 ts0 ts1 (xs.getD i 0))), vF (stepT dk dc0 dc1 dc2 ds0 ds1 (stepY tk tc0 tc1 tc2 ts0 ts1 (xs.getD i 0))), vF g]) ∧ Row w' b 0 (fl (xs.set i (keptF (fop .add .f32 (fop .mul .f32 (stepY dk dc0 dc1 dc2 ds0 ds1 (stepY tk tc0 tc1 tc2 ts0 ts1 (xs.getD i 0))) g) x)))) ∧ Mod [p, b] w w' := by
  refine Cl.of Try.func84 Try.ntmps84 rfl rfl (ρ := [(0, vP p k), (1, vF a)]) rfl ?_
  refine CE.seq ?_
  refine CE.region ?_
  refine WL.det (op_assign rfl) rfl rfl rfl ?_
  refine WL.end ?_
  refine NE.code ?_
  refine CE.seq ?_
  refine CE.draw (fun | 9 => some (fun _ wA uA wB => uA = vI ((n : Nat) : Int) ∧ wA = wB) | _ => none) [0, 1, 2, 3, 4, 5, 6, 7, 8, 9] [10, 11] [] (by kernel_rfl) (by kernel_rfl) ?_
  have md1 : Mod [] w w.drew := (Mod.refl _ _).drew
  generalize w.drew = w1 at md1 ⊢
  refine DR.det (i := 0) rfl rfl (by kernel_rfl) (.free rfl) rfl rfl (fun wD mD => op_move rfl) ?_
  refine DR.det (i := 1) rfl rfl (by kernel_rfl) (.free rfl) rfl rfl (fun wD mD => op_nilCheck rfl) ?_
  refine DR.det (i := 2) rfl rfl (by kernel_rfl) (.free rfl) rfl rfl (fun wD mD => op_fieldAddr (off' := k) rfl Try.runUnderlying33 rfl rfl Try.sizeOf26 rfl) ?_
  refine DR.det (i := 3) rfl rfl (by kernel_rfl) (.free rfl) rfl rfl (fun wD mD => op_loadA (i := k) (cs := [vS b 0 n c, vI ((i : Nat) : Int)]) rfl Try.isAgg26 Try.sizeOf26 ((q.ext md1).ext mD).rng (Nat.zero_add _) (sub_take (i := 0) hk (lB rfl) rfl) rfl) ?_
  refine DR.det (i := 4) rfl rfl (by kernel_rfl) (.free rfl) rfl rfl (fun wD mD => op_move rfl) ?_
  refine DR.det (i := 5) rfl rfl (by kernel_rfl) (.free rfl) rfl rfl (fun wD mD => op_nilCheck rfl) ?_
  refine DR.det (i := 6) rfl rfl (by kernel_rfl) (.free rfl) rfl rfl (fun wD mD => op_fieldAddr (off' := k) rfl Try.runUnderlying33 rfl rfl Try.sizeOf26 rfl) ?_
  refine DR.det (i := 7) rfl rfl (by kernel_rfl) (.free rfl) rfl rfl (fun wD mD => op_fieldAddr (off' := k) rfl Try.runUnderlying26 rfl rfl Try.sizeOf24 rfl) ?_
  refine DR.det (i := 8) rfl rfl (by kernel_rfl) (.free rfl) rfl rfl (fun wD mD => op_load1 (i := k) rfl Try.isAgg24 ((q.ext md1).ext mD).rng (Nat.zero_add _) (sub_get (i := 0) hk rfl)) ?_
  refine DR.call (i := 9) (fun uA => uA = vI ((n : Nat) : Int)) rfl rfl (by kernel_rfl) (.free rfl) rfl (ltb rfl) ⟨_, rfl⟩ (vs := [.func (.func 103) #[] #[], vS b 0 n c]) rfl (fun wD mD => oc_call (vs := [vS b 0 n c]) (cap := []) rfl rfl rfl Try.call103 (c_length32 n c (some ⟨b, 0, none⟩) wD)) ?_ ?_
  · rintro w1 _ _ m1 ⟨rfl, rfl⟩; exact ⟨rfl, Mod.refl _ _⟩
  rintro _ rfl
  refine DR.done rfl ?_
  intro w2 m1
  refine WO.call rfl (.free rfl) rfl (ltb rfl) (oc_call (vs := [.agg #[vS b 0 n c, vI ((i : Nat) : Int)], vI ((n : Nat) : Int)]) (cap := []) rfl rfl rfl Try.call102 (c_back_all n c b xs i ln (by first | omega | exact Nat.mod_lt _ (by omega)) (by omega) w2 ((r.ext md1).ext m1).rng)) ?_
  rintro _ w3 ⟨rfl, m2⟩
  refine WO.det (op_assign rfl) rfl (.free rfl) rfl rfl ?_
  refine WO.end ?_
  refine NE.code ?_
  refine CE.seq ?_
  refine CE.draw (fun | 7 => some (fun _ wA uA wB => ∃ (y : Nat), uA = vF y ∧ (cn .f32 y = cn .f32 (stepY tk tc0 tc1 tc2 ts0 ts1 (xs.getD i 0))) ∧ (y < wid .f32) ∧ (stepS tk tc0 tc1 tc2 ts0 ts1 (xs.getD i 0) < wid .f32) ∧ (stepT tk tc0 tc1 tc2 ts0 ts1 (xs.getD i 0) < wid .f32) ∧ Row wB p 0 (splice (splice vs k [vS b 0 n c, vI ((i : Nat) : Int), vI tk, vF tc0, vF tc1, vF tc2, vF ts0, vF ts1, vI dk, vF dc0, vF dc1, vF dc2, vF ds0, vF ds1, vF g]) (k + 2) [vI tk, vF tc0, vF tc1, vF tc2, vF (stepS tk tc0 tc1 tc2 ts0 ts1 (xs.getD i 0)), vF (stepT tk tc0 tc1 tc2 ts0 ts1 (xs.getD i 0))]) ∧ Mod [p] wA wB) | _ => none) [0, 1, 2, 3, 4, 5, 6, 7] [8, 9] [p] (by kernel_rfl) (by kernel_rfl) ?_
  have md2 : Mod [] w3 w3.drew := (Mod.refl _ _).drew
  generalize w3.drew = w4 at md2 ⊢
  refine DR.det (i := 0) rfl rfl (by kernel_rfl) (.free rfl) rfl rfl (fun wD mD => op_move rfl) ?_
  refine DR.det (i := 1) rfl rfl (by kernel_rfl) (.free rfl) rfl rfl (fun wD mD => op_nilCheck rfl) ?_
  refine DR.det (i := 2) rfl rfl (by kernel_rfl) (.free rfl) rfl rfl (fun wD mD => op_fieldAddr (off' := k + 8) rfl Try.runUnderlying33 rfl rfl Try.sizeOf31 rfl) ?_
  refine DR.det (i := 3) rfl rfl (by kernel_rfl) (.free rfl) rfl rfl (fun wD mD => op_move rfl) ?_
  refine DR.det (i := 4) rfl rfl (by kernel_rfl) (.free rfl) rfl rfl (fun wD mD => op_nilCheck rfl) ?_
  refine DR.det (i := 5) rfl rfl (by kernel_rfl) (.free rfl) rfl rfl (fun wD mD => op_fieldAddr (off' := k + 2) rfl Try.runUnderlying33 rfl rfl Try.sizeOf31 rfl) ?_
  refine DR.det (i := 6) rfl rfl (by kernel_rfl) (.free rfl) rfl rfl (fun wD mD => op_move rfl) ?_
  refine DR.one (i := 7) rfl rfl (by kernel_rfl) (.free rfl) rfl (ltb rfl) (vs := [.func (.func 124) #[] #[], vP p (k + 2), vF (xs.getD i 0)]) rfl ?_
  intro w5 m3
  refine ⟨oc_call (vs := [vP p (k + 2), vF (xs.getD i 0)]) (cap := []) rfl rfl rfl Try.call124 (c_fstep tk tc0 tc1 tc2 ts0 ts1 p (k + 2) (splice vs k [vS b 0 n c, vI ((i : Nat) : Int), vI tk, vF tc0, vF tc1, vF tc2, vF ts0, vF ts1, vI dk, vF dc0, vF dc1, vF dc2, vF ds0, vF ds1, vF g]) (xs.getD i 0) (xs.getD i 0) lts0 lts1 (sub_fit (i := 2) hk (lB rfl)) rfl (by first | assumption | exact W32.get (by assumption) _ | decide +kernel) w5 (Row.congr (((((q.ext md1).ext m1).ext m2).ext md2).ext m3) (sub_same (i := 2) hk (lB rfl) rfl))), ?_⟩
  rintro _ w6 ⟨y1, rfl, h1, h2, h3, h4, r1, m4⟩
  have r2 : Row w6 p 0 (splice vs k [vS b 0 n c, vI ((i : Nat) : Int), vI tk, vF tc0, vF tc1, vF tc2, vF (stepS tk tc0 tc1 tc2 ts0 ts1 (xs.getD i 0)), vF (stepT tk tc0 tc1 tc2 ts0 ts1 (xs.getD i 0)), vI dk, vF dc0, vF dc1, vF dc2, vF ds0, vF ds1, vF g]) := Row.congr r1 (sub_put (i := 2) hk (lB rfl) rfl)
  refine ⟨(((Mod.refl [p] w4).nt m3).then m4 ((aC (.inl (by simp)) aN))), ?_⟩
  refine DR.done rfl ?_
  intro w7 m5
  refine WO.call rfl (.free rfl) rfl (ltb rfl) (oc_call (vs := [vP p (k + 8), vF y1]) (cap := []) rfl rfl rfl Try.call124 (c_fstep dk dc0 dc1 dc2 ds0 ds1 p (k + 8) (splice vs k [vS b 0 n c, vI ((i : Nat) : Int), vI tk, vF tc0, vF tc1, vF tc2, vF (stepS tk tc0 tc1 tc2 ts0 ts1 (xs.getD i 0)), vF (stepT tk tc0 tc1 tc2 ts0 ts1 (xs.getD i 0)), vI dk, vF dc0, vF dc1, vF dc2, vF ds0, vF ds1, vF g]) y1 (stepY tk tc0 tc1 tc2 ts0 ts1 (xs.getD i 0)) lds0 lds1 (sub_fit (i := 8) hk (lB rfl)) h1 h2 w7 (Row.congr (r2.ext m5) (sub_same (i := 8) hk (lB rfl) rfl)))) ?_
  rintro _ w8 ⟨y2, rfl, h5, h6, h7, h8, r3, m6⟩
  have r4 : Row w8 p 0 (splice vs k [vS b 0 n c, vI ((i : Nat) : Int), vI tk, vF tc0, vF tc1, vF tc2, vF (stepS tk tc0 tc1 tc2 ts0 ts1 (xs.getD i 0)), vF (stepT tk tc0 tc1 tc2 ts0 ts1 (xs.getD i 0)), vI dk, vF dc0, vF dc1, vF dc2, vF (stepS dk dc0 dc1 dc2 ds0 ds1 (stepY tk tc0 tc1 tc2 ts0 ts1 (xs.getD i 0))), vF (stepT dk dc0 dc1 dc2 ds0 ds1 (stepY tk tc0 tc1 tc2 ts0 ts1 (xs.getD i 0))), vF g]) := Row.congr r3 (sub_put (i := 8) hk (lB rfl) rfl)
  refine WO.det (op_assign rfl) rfl (.free rfl) rfl rfl ?_
  refine WO.end ?_
  refine NE.code ?_
  refine CE.seq ?_
  refine CE.draw (fun | 11 => some (fun _ wA uA wB => uA = vF (keptF (fop .add .f32 (fop .mul .f32 (stepY dk dc0 dc1 dc2 ds0 ds1 (stepY tk tc0 tc1 tc2 ts0 ts1 (xs.getD i 0))) g) x)) ∧ (keptF (fop .add .f32 (fop .mul .f32 (stepY dk dc0 dc1 dc2 ds0 ds1 (stepY tk tc0 tc1 tc2 ts0 ts1 (xs.getD i 0))) g) x) < wid .f32) ∧ Mod [] wA wB) | _ => none) [0, 1, 2, 3, 4, 5, 6, 7, 8, 9, 10, 11] [12] [] (by kernel_rfl) (by kernel_rfl) ?_
  have md3 : Mod [] w8 w8.drew := (Mod.refl _ _).drew
  generalize w8.drew = w9 at md3 ⊢
  refine DR.det (i := 0) rfl rfl (by kernel_rfl) (.free rfl) rfl rfl (fun wD mD => op_move rfl) ?_
  refine DR.det (i := 1) rfl rfl (by kernel_rfl) (.free rfl) rfl rfl (fun wD mD => op_nilCheck rfl) ?_
  refine DR.det (i := 2) rfl rfl (by kernel_rfl) (.free rfl) rfl rfl (fun wD mD => op_fieldAddr (off' := k) rfl Try.runUnderlying33 rfl rfl Try.sizeOf26 rfl) ?_
  refine DR.det (i := 3) rfl rfl (by kernel_rfl) (.free rfl) rfl rfl (fun wD mD => op_move rfl) ?_
  refine DR.det (i := 4) rfl rfl (by kernel_rfl) (.free rfl) rfl rfl (fun wD mD => op_move rfl) ?_
  refine DR.det (i := 5) rfl rfl (by kernel_rfl) (.free rfl) rfl rfl (fun wD mD => op_nilCheck rfl) ?_
  refine DR.det (i := 6) rfl rfl (by kernel_rfl) (.free rfl) rfl rfl (fun wD mD => op_fieldAddr (off' := k + 14) rfl Try.runUnderlying33 rfl rfl Try.sizeOf27 rfl) ?_
  refine DR.det (i := 7) rfl rfl (by kernel_rfl) (.free rfl) rfl rfl (fun wD mD => op_load1 (i := k + 14) rfl Try.isAgg27 ((r4.ext md3).ext mD).rng (Nat.zero_add _) (sub_get (i := 14) hk rfl)) ?_
  refine DR.op (i := 8) (FOut .f32 (fop .mul .f32 (stepY dk dc0 dc1 dc2 ds0 ds1 (stepY tk tc0 tc1 tc2 ts0 ts1 (xs.getD i 0))) g)) rfl rfl (by kernel_rfl) (.free rfl) rfl (ltb rfl) (fun wD mD => op_farith (e := (fop .mul .f32 (stepY dk dc0 dc1 dc2 ds0 ds1 (stepY tk tc0 tc1 tc2 ts0 ts1 (xs.getD i 0))) g)) (.inr (.inr (.inl rfl))) rfl rfl h5 rfl rfl) ?_
  rintro _ ⟨f1, rfl, hf1, lf1⟩
  refine DR.det (i := 9) rfl rfl (by kernel_rfl) (.free rfl) rfl rfl (fun wD mD => op_move rfl) ?_
  refine DR.op (i := 10) (FOut .f32 (fop .add .f32 (fop .mul .f32 (stepY dk dc0 dc1 dc2 ds0 ds1 (stepY tk tc0 tc1 tc2 ts0 ts1 (xs.getD i 0))) g) x)) rfl rfl (by kernel_rfl) (.free rfl) rfl (ltb rfl) (fun wD mD => op_farith (e := (fop .add .f32 (fop .mul .f32 (stepY dk dc0 dc1 dc2 ds0 ds1 (stepY tk tc0 tc1 tc2 ts0 ts1 (xs.getD i 0))) g) x)) (.inl rfl) rfl rfl hf1 ha rfl) ?_
  rintro _ ⟨f2, rfl, hf2, lf2⟩
  refine DR.call (i := 11) (fun uA => uA = vF (keptF (fop .add .f32 (fop .mul .f32 (stepY dk dc0 dc1 dc2 ds0 ds1 (stepY tk tc0 tc1 tc2 ts0 ts1 (xs.getD i 0))) g) x)) ∧ (keptF (fop .add .f32 (fop .mul .f32 (stepY dk dc0 dc1 dc2 ds0 ds1 (stepY tk tc0 tc1 tc2 ts0 ts1 (xs.getD i 0))) g) x) < wid .f32)) rfl rfl (by kernel_rfl) (.free rfl) rfl (ltb rfl) ⟨_, rfl, keptF_wid hf2 lf2⟩ (vs := [.func (.func 126) #[] #[], vF f2]) rfl (fun wD mD => oc_call (vs := [vF f2]) (cap := []) rfl rfl rfl Try.call126 (c_kept f2 (fop .add .f32 (fop .mul .f32 (stepY dk dc0 dc1 dc2 ds0 ds1 (stepY tk tc0 tc1 tc2 ts0 ts1 (xs.getD i 0))) g) x) hf2 lf2 wD)) ?_ ?_
  · rintro w1 _ w2 m1 ⟨rfl, p0, m2⟩; exact ⟨⟨rfl, p0⟩, m2⟩
  rintro _ ⟨rfl, h9⟩
  refine DR.done rfl ?_
  intro w10 m7
  refine WO.call rfl (.free rfl) rfl (ltb rfl) (oc_call (vs := [vP p k, vF (keptF (fop .add .f32 (fop .mul .f32 (stepY dk dc0 dc1 dc2 ds0 ds1 (stepY tk tc0 tc1 tc2 ts0 ts1 (xs.getD i 0))) g) x))]) (cap := []) rfl rfl rfl Try.call125 (c_push n c b xs i p k (splice vs k [vS b 0 n c, vI ((i : Nat) : Int), vI tk, vF tc0, vF tc1, vF tc2, vF (stepS tk tc0 tc1 tc2 ts0 ts1 (xs.getD i 0)), vF (stepT tk tc0 tc1 tc2 ts0 ts1 (xs.getD i 0)), vI dk, vF dc0, vF dc1, vF dc2, vF (stepS dk dc0 dc1 dc2 ds0 ds1 (stepY tk tc0 tc1 tc2 ts0 ts1 (xs.getD i 0))), vF (stepT dk dc0 dc1 dc2 ds0 ds1 (stepY tk tc0 tc1 tc2 ts0 ts1 (xs.getD i 0))), vF g]) (keptF (fop .add .f32 (fop .mul .f32 (stepY dk dc0 dc1 dc2 ds0 ds1 (stepY tk tc0 tc1 tc2 ts0 ts1 (xs.getD i 0))) g) x)) ln (by omega) (by omega) (sub_fit (i := 0) hk (lB rfl)) w10 (Row.congr ((r4.ext md3).ext m7) (sub_same (i := 0) hk (lB rfl) rfl)) ((((((((((r.ext md1).ext m1).ext m2).ext md2).ext m3).mod m4 (nC (Ne.symm hne) nN)).ext m5).mod m6 (nC (Ne.symm hne) nN)).ext md3).ext m7) hne)) ?_
  rintro _ w11 ⟨rfl, r5, r6, m8⟩
  have r7 : Row w11 p 0 (splice vs k [vS b 0 n c, vI (((i + 1) % n : Nat) : Int), vI tk, vF tc0, vF tc1, vF tc2, vF (stepS tk tc0 tc1 tc2 ts0 ts1 (xs.getD i 0)), vF (stepT tk tc0 tc1 tc2 ts0 ts1 (xs.getD i 0)), vI dk, vF dc0, vF dc1, vF dc2, vF (stepS dk dc0 dc1 dc2 ds0 ds1 (stepY tk tc0 tc1 tc2 ts0 ts1 (xs.getD i 0))), vF (stepT dk dc0 dc1 dc2 ds0 ds1 (stepY tk tc0 tc1 tc2 ts0 ts1 (xs.getD i 0))), vF g]) := Row.congr r5 (sub_put (i := 0) hk (lB rfl) rfl)
  refine WO.end ?_
  refine NE.code ?_
  refine CE.seq ?_
  refine CE.region ?_
  refine WL.det (op_move rfl) rfl rfl rfl ?_
  refine WL.det (op_assign rfl) rfl rfl rfl ?_
  refine WL.end ?_
  refine NE.code ?_
  refine CE.ret' ?_
  refine XE.leave1 Try.results84 rfl ?_
  refine ⟨rfl, ?_, ?_, ?_, ?_, ?_, r7, r6, ((((((((((((Mod.refl [p, b] w).nt md1).nt m1).nt m2).nt md2).nt m3).then m4 ((aC (.inl (by simp)) aN))).nt m5).then m6 ((aC (.inl (by simp)) aN))).nt md3).nt m7).then m8 ((aC (.inl (by simp)) (aC (.inl (by simp)) aN))))⟩
  all_goals first | assumption | rfl

set_option maxRecDepth 100000 in
set_option maxHeartbeats 2000000 in
theorem c_iStepStr (n : Nat) (c : Nat) (b : Nat) (xs : List Nat) (i : Nat) (tk : Int) (tc0 : Nat) (tc1 : Nat) (tc2 : Nat) (ts0 : Nat) (ts1 : Nat) (dk : Int) (dc0 : Nat) (dc1 : Nat) (dc2 : Nat) (ds0 : Nat) (ds1 : Nat) (g : Nat) (a : Nat) (ln : xs.length = n) (hi : i < n) (hn : n ≤ 1024) (lts0 : ts0 < wid .f32) (lts1 : ts1 < wid .f32) (lds0 : ds0 < wid .f32) (lds1 : ds1 < wid .f32) (la : a < wid .f32) (wx : W32 xs) (hv : vStr n ((i : Nat) : Int) tk tc0 tc1 tc2 ts0 ts1 dk dc0 dc1 dc2 ds0 ds1 g = true) (w : World) (r : Rng w b 0 (fl xs)) : Cl Try.prog 34 #[.agg #[vS b 0 n c, vI ((i : Nat) : Int), vI tk, vF tc0, vF tc1, vF tc2, vF ts0, vF ts1, vI dk, vF dc0, vF dc1, vF dc2, vF ds0, vF ds1, vF g], vF a] w fun v w' => ∃ (b' : Nat) (c' : Nat), v = .tuple #[.agg #[vS b' 0 n c', vI (((i + 1) % n : Nat) : Int), vI tk, vF tc0, vF tc1, vF tc2, vF (stepS tk tc0 tc1 tc2 ts0 ts1 (xs.getD i 0)), vF (stepT tk tc0 tc1 tc2 ts0 ts1 (xs.getD i 0)), vI dk, vF dc0, vF dc1, vF dc2, vF (stepS dk dc0 dc1 dc2 ds0 ds1 (stepY tk tc0 tc1 tc2 ts0 ts1 (xs.getD i 0))), vF (stepT dk dc0 dc1 dc2 ds0 ds1 (stepY tk tc0 tc1 tc2 ts0 ts1 (xs.getD i 0))), vF g], vF (xs.getD i 0), vI 0] ∧ Row w' b' 0 (fl (xs.set i (keptF (fop .add .f32 (fop .mul .f32 (stepY dk dc0 dc1 dc2 ds0 ds1 (stepY tk tc0 tc1 tc2 ts0 ts1 (xs.getD i 0))) g) a)))) ∧ w.heap.size ≤ b' ∧ Mod [] w w' := by
  refine Cl.of Try.func34 Try.ntmps34 rfl rfl (ρ := [(0, .agg #[vS b 0 n c, vI ((i : Nat) : Int), vI tk, vF tc0, vF tc1, vF tc2, vF ts0, vF ts1, vI dk, vF dc0, vF dc1, vF dc2, vF ds0, vF ds1, vF g]), (1, vF a)]) rfl ?_
  refine CE.seq ?_
  refine CE.region ?_
  refine WL.op (op_box (cs := [vS b 0 n c, vI ((i : Nat) : Int), vI tk, vF tc0, vF tc1, vF tc2, vF ts0, vF ts1, vI dk, vF dc0, vF dc1, vF dc2, vF ds0, vF ds1, vF g]) rfl rfl) rfl rfl (ltb rfl) ?_
  rintro _ w1 ⟨rfl, r1, m1, z1⟩
  refine WL.op (op_alloc (cs := [.slice none 0 0, vI 0, vI 0, vF 0, vF 0, vF 0, vF 0, vF 0, vI 0, vF 0, vF 0, vF 0, vF 0, vF 0, vF 0]) Try.zeroValue33 rfl) rfl rfl (ltb rfl) ?_
  rintro _ w2 ⟨rfl, r2, m2, z2⟩
  refine WL.det (op_assign rfl) rfl rfl rfl ?_
  refine WL.det (op_assign rfl) rfl rfl rfl ?_
  refine WL.end ?_
  refine NE.code ?_
  refine CE.seq ?_
  refine CE.seq ?_
  refine CE.region ?_
  refine WL.det (op_loadA (i := 0) (cs := [vS b 0 n c, vI ((i : Nat) : Int), vI tk, vF tc0, vF tc1, vF tc2, vF ts0, vF ts1, vI dk, vF dc0, vF dc1, vF dc2, vF ds0, vF ds1, vF g]) rfl Try.isAgg33 Try.sizeOf33 (r1.ext m2).rng rfl rfl rfl) rfl rfl rfl ?_
  refine WL.call (oc_call (vs := [.agg #[vS b 0 n c, vI ((i : Nat) : Int), vI tk, vF tc0, vF tc1, vF tc2, vF ts0, vF ts1, vI dk, vF dc0, vF dc1, vF dc2, vF ds0, vF ds1, vF g]]) (cap := []) rfl rfl rfl Try.call63 (c_ValidString n c (some ⟨b, 0, none⟩) ((i : Nat) : Int) tk tc0 tc1 tc2 ts0 ts1 dk dc0 dc1 dc2 ds0 ds1 g (by omega) w2)) rfl rfl (ltb rfl) ?_
  rintro _ w3 ⟨rfl, m3⟩
  refine WL.det (op_not rfl) rfl rfl rfl ?_
  refine WL.end ?_
  refine NE.code ?_
  refine CE.cond_f rfl (bnot_t hv) ?_
  refine CE.skip' ?_
  refine NE.code ?_
  refine CE.seq ?_
  refine CE.region ?_
  refine WL.det (op_loadA (i := 0) (cs := [vS b 0 n c, vI ((i : Nat) : Int), vI tk, vF tc0, vF tc1, vF tc2, vF ts0, vF ts1, vI dk, vF dc0, vF dc1, vF dc2, vF ds0, vF ds1, vF g]) rfl Try.isAgg33 Try.sizeOf33 ((r1.ext m2).ext m3).rng rfl rfl rfl) rfl rfl rfl ?_
  refine WL.call (oc_call (vs := [.agg #[vS b 0 n c, vI ((i : Nat) : Int), vI tk, vF tc0, vF tc1, vF tc2, vF ts0, vF ts1, vI dk, vF dc0, vF dc1, vF dc2, vF ds0, vF ds1, vF g]]) (cap := []) rfl rfl rfl Try.call79 (c_cloneString n c b xs ((i : Nat) : Int) tk tc0 tc1 tc2 ts0 ts1 dk dc0 dc1 dc2 ds0 ds1 g ln (by omega) (by omega) w3 (((r.ext m1).ext m2).ext m3))) rfl rfl (ltb rfl) ?_
  rintro _ w4 ⟨b'1, c'1, rfl, r3, ge1, m4⟩
  refine WL.op0 (op_store (i := 0) (cs := [vS b'1 0 n c'1, vI ((i : Nat) : Int), vI tk, vF tc0, vF tc1, vF tc2, vF ts0, vF ts1, vI dk, vF dc0, vF dc1, vF dc2, vF ds0, vF ds1, vF g]) rfl rfl rfl Try.sizeOf33 rfl (((r1.ext m2).ext m3).ext m4) rfl (lB rfl) rfl) rfl rfl ?_
  rintro _ w5 ⟨r4, m5, z3⟩
  have r5 : Row w5 w.heap.size 0 [vS b'1 0 n c'1, vI ((i : Nat) : Int), vI tk, vF tc0, vF tc1, vF tc2, vF ts0, vF ts1, vI dk, vF dc0, vF dc1, vF dc2, vF ds0, vF ds1, vF g] := Row.congr r4 rfl
  refine WL.end ?_
  refine NE.code ?_
  refine CE.seq ?_
  refine CE.region ?_
  refine WL.det (op_move rfl) rfl rfl rfl ?_
  refine WL.call (oc_call (vs := [vP w.heap.size 0, vF a]) (cap := []) rfl rfl rfl Try.call84 (c_strStep n c'1 b'1 xs i tk tc0 tc1 tc2 ts0 ts1 dk dc0 dc1 dc2 ds0 ds1 g w.heap.size 0 [vS b'1 0 n c'1, vI ((i : Nat) : Int), vI tk, vF tc0, vF tc1, vF tc2, vF ts0, vF ts1, vI dk, vF dc0, vF dc1, vF dc2, vF ds0, vF ds1, vF g] a a ln (by first | omega | exact Nat.mod_lt _ (by omega)) (by omega) lts0 lts1 lds0 lds1 (lB rfl) rfl la (by first | assumption | exact W32.set (by assumption) (by first | assumption | exact wid_lt (by assumption)) | exact W32.zeros _ | exact W32.nil) w5 (Row.congr r5 rfl) (r3.mod m5 (nC (lG (lL (lL r1.lt (lT m2.size m3.size)) ge1)) nN)) (lE (lL (lL r1.lt (lT m2.size m3.size)) ge1)))) rfl rfl (ltb rfl) ?_
  rintro _ w6 ⟨rfl, h1, h2, h3, h4, h5, r6, r7, m6⟩
  have r8 : Row w6 w.heap.size 0 [vS b'1 0 n c'1, vI (((i + 1) % n : Nat) : Int), vI tk, vF tc0, vF tc1, vF tc2, vF (stepS tk tc0 tc1 tc2 ts0 ts1 (xs.getD i 0)), vF (stepT tk tc0 tc1 tc2 ts0 ts1 (xs.getD i 0)), vI dk, vF dc0, vF dc1, vF dc2, vF (stepS dk dc0 dc1 dc2 ds0 ds1 (stepY tk tc0 tc1 tc2 ts0 ts1 (xs.getD i 0))), vF (stepT dk dc0 dc1 dc2 ds0 ds1 (stepY tk tc0 tc1 tc2 ts0 ts1 (xs.getD i 0))), vF g] := r6
  refine WL.det (op_assign rfl) rfl rfl rfl ?_
  refine WL.end ?_
  refine NE.code ?_
  refine CE.seq ?_
  refine CE.region ?_
  refine WL.det (op_loadA (i := 0) (cs := [vS b'1 0 n c'1, vI (((i + 1) % n : Nat) : Int), vI tk, vF tc0, vF tc1, vF tc2, vF (stepS tk tc0 tc1 tc2 ts0 ts1 (xs.getD i 0)), vF (stepT tk tc0 tc1 tc2 ts0 ts1 (xs.getD i 0)), vI dk, vF dc0, vF dc1, vF dc2, vF (stepS dk dc0 dc1 dc2 ds0 ds1 (stepY tk tc0 tc1 tc2 ts0 ts1 (xs.getD i 0))), vF (stepT dk dc0 dc1 dc2 ds0 ds1 (stepY tk tc0 tc1 tc2 ts0 ts1 (xs.getD i 0))), vF g]) rfl Try.isAgg33 Try.sizeOf33 r8.rng rfl rfl rfl) rfl rfl rfl ?_
  refine WL.det (op_move rfl) rfl rfl rfl ?_
  refine WL.op0 (op_store (i := 0) (cs := [vS b'1 0 n c'1, vI (((i + 1) % n : Nat) : Int), vI tk, vF tc0, vF tc1, vF tc2, vF (stepS tk tc0 tc1 tc2 ts0 ts1 (xs.getD i 0)), vF (stepT tk tc0 tc1 tc2 ts0 ts1 (xs.getD i 0)), vI dk, vF dc0, vF dc1, vF dc2, vF (stepS dk dc0 dc1 dc2 ds0 ds1 (stepY tk tc0 tc1 tc2 ts0 ts1 (xs.getD i 0))), vF (stepT dk dc0 dc1 dc2 ds0 ds1 (stepY tk tc0 tc1 tc2 ts0 ts1 (xs.getD i 0))), vF g]) rfl rfl rfl Try.sizeOf33 rfl ((((r2.ext m3).ext m4).mod m5 (nC (lG (lL r1.lt lR)) nN)).mod m6 (nC (lG (lL r1.lt lR)) (nC (lE (lL (lL r2.lt m3.size) ge1)) nN))) rfl (lB rfl) rfl) rfl rfl ?_
  rintro _ w7 ⟨r9, m7, z4⟩
  have r10 : Row w7 w1.heap.size 0 [vS b'1 0 n c'1, vI (((i + 1) % n : Nat) : Int), vI tk, vF tc0, vF tc1, vF tc2, vF (stepS tk tc0 tc1 tc2 ts0 ts1 (xs.getD i 0)), vF (stepT tk tc0 tc1 tc2 ts0 ts1 (xs.getD i 0)), vI dk, vF dc0, vF dc1, vF dc2, vF (stepS dk dc0 dc1 dc2 ds0 ds1 (stepY tk tc0 tc1 tc2 ts0 ts1 (xs.getD i 0))), vF (stepT dk dc0 dc1 dc2 ds0 ds1 (stepY tk tc0 tc1 tc2 ts0 ts1 (xs.getD i 0))), vF g] := Row.congr r9 rfl
  refine WL.det (op_assign rfl) rfl rfl rfl ?_
  refine WL.det (op_assign rfl) rfl rfl rfl ?_
  refine WL.end ?_
  refine NE.code ?_
  refine CE.ret' ?_
  refine XE.leaveT Try.results34 (res_agg (cs := [vS b'1 0 n c'1, vI (((i + 1) % n : Nat) : Int), vI tk, vF tc0, vF tc1, vF tc2, vF (stepS tk tc0 tc1 tc2 ts0 ts1 (xs.getD i 0)), vF (stepT tk tc0 tc1 tc2 ts0 ts1 (xs.getD i 0)), vI dk, vF dc0, vF dc1, vF dc2, vF (stepS dk dc0 dc1 dc2 ds0 ds1 (stepY tk tc0 tc1 tc2 ts0 ts1 (xs.getD i 0))), vF (stepT dk dc0 dc1 dc2 ds0 ds1 (stepY tk tc0 tc1 tc2 ts0 ts1 (xs.getD i 0))), vF g]) rfl Try.isAgg33 Try.sizeOf33 r10.rng rfl (res_tmp rfl (res_tmp rfl res_nil))) ?_
  refine ⟨b'1, c'1, rfl, (r7.mod m7 (nC (lG (lL (lL r2.lt m3.size) ge1)) nN)), (lT (lT (lT m1.size m2.size) m3.size) ge1), ((((((((Mod.refl [] w).nt m1).nt m2).nt m3).nt m4).then m5 ((aC (.inr lR) aN))).then m6 ((aC (.inr lR) (aC (.inr (lT (lT (lT m1.size m2.size) m3.size) ge1)) aN)))).then m7 ((aC (.inr (lT m1.size lR)) aN)))⟩

end Go.Proofs.Ytabfdgpldcegiaa
