/- What the functions on lists and rings compute. -/
import Derived.Test.YtabfdgpldcegiaaB2
set_option linter.unusedVariables false
set_option linter.unusedSimpArgs false
namespace Go.Proofs.Ytabfdgpldcegiaa

def vRing (n : Nat) (j : Int) : Bool := vIn n 1 1024 && vIn j 0 ((n : Int) - 1)
/-- the first `n` words are finite -/
def allF (xs : List Nat) (n : Nat) : Bool := (List.range n).all fun j => finF (xs.getD j 0)
def vRingF (n : Nat) (j : Int) (xs : List Nat) : Bool := vRing n j && allF xs n

set_option maxRecDepth 100000 in
set_option maxHeartbeats 2000000 in
theorem c_Clone32 (n : Nat) (c : Nat) (b : Nat) (xs : List Nat) (ln : xs.length = n) (h0 : 0 < n) (hn : n ≤ 1048576) (w : World) (r : Rng w b 0 (fl xs)) : Cl Try.prog 147 #[vS b 0 n c] w fun v w' => ∃ (b' : Nat) (c' : Nat), v = vS b' 0 n c' ∧ Row w' b' 0 (fl xs) ∧ w.heap.size ≤ b' ∧ Mod [] w w' := by
  refine Cl.of Try.func147 Try.ntmps147 rfl rfl (ρ := [(0, vS b 0 n c)]) rfl ?_
  refine CE.seq ?_
  refine CE.region ?_
  refine WL.det (op_assign rfl) rfl rfl rfl ?_
  refine WL.end ?_
  refine NE.code ?_
  refine CE.seq ?_
  refine CE.seq ?_
  refine CE.region ?_
  refine WL.det (op_move rfl) rfl rfl rfl ?_
  refine WL.det (op_sl_nil rfl rfl Try.underlying24) rfl rfl rfl ?_
  refine WL.end ?_
  refine NE.code ?_
  refine CE.cond_f rfl rfl ?_
  refine CE.skip' ?_
  refine NE.code ?_
  refine CE.seq ?_
  refine CE.region ?_
  refine WL.op (op_emptySl rfl Try.runUnderlying24 Try.sizeOf27) rfl rfl (ltb rfl) ?_
  rintro _ w1 ⟨rfl, r1, m1, z1⟩
  refine WL.det (op_move rfl) rfl rfl rfl ?_
  refine WL.op (op_appendF (i := Try.t27) rfl rfl Try.underlying24 rfl rfl rfl rfl (r.ext m1) ln (by omega) (by omega)) rfl rfl (ltb rfl) ?_
  rintro _ w2 ⟨b1, c1, rfl, ge1, r2, m2⟩
  refine WL.det (op_assign rfl) rfl rfl rfl ?_
  refine WL.end ?_
  refine NE.code ?_
  refine CE.ret' ?_
  refine XE.leave1 Try.results147 rfl ?_
  refine ⟨b1, c1, rfl, r2, (lT m1.size ge1), (((Mod.refl [] w).nt m1).nt m2)⟩

set_option maxRecDepth 100000 in
set_option maxHeartbeats 2000000 in
theorem c_l02Ring (n : Nat) (c : Nat) (A : Option Addr) (j : Int) (p : Nat) (k : Nat) (vs : List Value) (hn : n ≤ 9223372036854775807) (hk : k + 2 ≤ vs.length) (w : World) (q : Rng w p 0 (splice vs k [.slice A n c, vI j])) : Cl Try.prog 117 #[vP p k] w fun v w' => v = .bool (vRing n j) ∧ w = w' := by
  refine Cl.of Try.func117 Try.ntmps117 rfl rfl (ρ := [(0, vP p k)]) rfl ?_
  refine CE.seq ?_
  refine CE.region ?_
  refine WL.det (op_assign rfl) rfl rfl rfl ?_
  refine WL.end ?_
  refine NE.code ?_
  refine CE.seq ?_
  refine CE.region ?_
  refine WL.det (op_move rfl) rfl rfl rfl ?_
  refine WL.det (op_nilCheck rfl) rfl rfl rfl ?_
  refine WL.det (op_fieldAddr (off' := k) rfl Try.runUnderlying26 rfl rfl Try.sizeOf24 rfl) rfl rfl rfl ?_
  refine WL.det (op_load1 (i := k) rfl Try.isAgg24 q (Nat.zero_add _) (sub_get (i := 0) hk rfl)) rfl rfl rfl ?_
  refine WL.det (op_len rfl Try.runUnderlying24) rfl rfl rfl ?_
  refine WL.det (op_assign rfl) rfl rfl rfl ?_
  refine WL.end ?_
  refine NE.code ?_
  refine CE.seq ?_
  refine CE.region ?_
  refine WL.det (op_move rfl) rfl rfl rfl ?_
  refine WL.call (oc_call (vs := [vI ((n : Nat) : Int), vI 1, vI 1024]) (cap := []) rfl rfl rfl Try.call85 (c_l00In ((n : Nat) : Int) (1 : Int) (1024 : Int) w)) rfl rfl (ltb rfl) ?_
  rintro _ _ ⟨rfl, rfl⟩
  refine WL.det (op_move rfl) rfl rfl rfl ?_
  rcases Bool.eq_false_or_eq_true (vIn ((n : Nat) : Int) (1 : Int) (1024 : Int)) with hb1 | hb1
  · have hp1 := hb1; try simp only [Bool.and_eq_true, Bool.or_eq_true, Bool.not_eq_true', Bool.not_eq_false', Bool.and_eq_false_iff, Bool.or_eq_false_iff, decide_eq_true_eq, decide_eq_false_iff_not, beq_iff_eq, bne_iff_ne, beq_eq_false_iff_ne, bne_eq_false_iff_eq, ne_eq, Bool.false_eq_true, not_false_eq_true, not_true_eq_false, vIn_t, vIn_f] at hp1
    refine WL.yes rfl rfl rfl (ltb rfl) rfl hb1 ?_
    refine WL.det (op_move rfl) rfl rfl rfl ?_
    refine WL.yes rfl rfl rfl (ltb rfl) rfl hb1 ?_
    refine WL.det (op_nilCheck rfl) rfl rfl rfl ?_
    refine WL.yes rfl rfl rfl (ltb rfl) rfl hb1 ?_
    refine WL.det (op_fieldAddr (off' := k + 1) rfl Try.runUnderlying26 rfl rfl Try.sizeOf2 rfl) rfl rfl rfl ?_
    refine WL.yes rfl rfl rfl (ltb rfl) rfl hb1 ?_
    refine WL.det (op_load1 (i := k + 1) rfl Try.isAgg2 q (Nat.zero_add _) (sub_get (i := 1) hk rfl)) rfl rfl rfl ?_
    refine WL.yes rfl rfl rfl (ltb rfl) rfl hb1 ?_
    refine WL.det (op_move rfl) rfl rfl rfl ?_
    refine WL.yes rfl rfl rfl (ltb rfl) rfl hb1 ?_
    refine WL.det (op_sub (r := (((n : Nat) : Int) - (1 : Int))) rfl rfl (w_i64 (by omega) (by omega))) rfl rfl rfl ?_
    refine WL.yes rfl rfl rfl (ltb rfl) rfl hb1 ?_
    refine WL.call (oc_call (vs := [vI j, vI 0, vI (((n : Nat) : Int) - (1 : Int))]) (cap := []) rfl rfl rfl Try.call85 (c_l00In j (0 : Int) (((n : Nat) : Int) - (1 : Int)) w)) rfl rfl (ltb rfl) ?_
    rintro _ _ ⟨rfl, rfl⟩
    refine WL.det (op_pick_t rfl hb1 rfl) rfl rfl rfl ?_
    refine WL.det (op_assign rfl) rfl rfl rfl ?_
    refine WL.end ?_
    refine NE.code ?_
    refine CE.ret' ?_
    refine XE.leave1 Try.results117 rfl ?_
    refine ⟨?_, rfl⟩
    all_goals simp_all [vRing]
  · have hp1 := hb1; try simp only [Bool.and_eq_true, Bool.or_eq_true, Bool.not_eq_true', Bool.not_eq_false', Bool.and_eq_false_iff, Bool.or_eq_false_iff, decide_eq_true_eq, decide_eq_false_iff_not, beq_iff_eq, bne_iff_ne, beq_eq_false_iff_ne, bne_eq_false_iff_eq, ne_eq, Bool.false_eq_true, not_false_eq_true, not_true_eq_false, vIn_t, vIn_f] at hp1
    refine WL.no rfl rfl rfl (ltb rfl) rfl hb1 rfl (ltb rfl) ?_
    refine WL.no rfl rfl rfl (ltb rfl) rfl hb1 rfl (ltb rfl) ?_
    refine WL.no rfl rfl rfl (ltb rfl) rfl hb1 rfl (ltb rfl) ?_
    refine WL.no rfl rfl rfl (ltb rfl) rfl hb1 rfl (ltb rfl) ?_
    refine WL.no rfl rfl rfl (ltb rfl) rfl hb1 rfl (ltb rfl) ?_
    refine WL.no rfl rfl rfl (ltb rfl) rfl hb1 rfl (ltb rfl) ?_
    refine WL.no rfl rfl rfl (ltb rfl) rfl hb1 rfl (ltb rfl) ?_
    refine WL.det (op_pick_f rfl hb1 rfl) rfl rfl rfl ?_
    refine WL.det (op_assign rfl) rfl rfl rfl ?_
    refine WL.end ?_
    refine NE.code ?_
    refine CE.ret' ?_
    refine XE.leave1 Try.results117 rfl ?_
    refine ⟨?_, rfl⟩
    all_goals simp_all [vRing]

set_option maxRecDepth 100000 in
set_option maxHeartbeats 2000000 in
theorem c_ValidRing (n : Nat) (c : Nat) (A : Option Addr) (j : Int) (hn : n ≤ 9223372036854775807) (w : World) : Cl Try.prog 114 #[.agg #[.slice A n c, vI j]] w fun v w' => v = .bool (vRing n j) ∧ Mod [] w w' := by
  refine Cl.of Try.func114 Try.ntmps114 rfl rfl (ρ := [(0, .agg #[.slice A n c, vI j])]) rfl ?_
  refine CE.seq ?_
  refine CE.region ?_
  refine WL.op (op_box (cs := [.slice A n c, vI j]) rfl rfl) rfl rfl (ltb rfl) ?_
  rintro _ w1 ⟨rfl, r1, m1, z1⟩
  refine WL.det (op_assign rfl) rfl rfl rfl ?_
  refine WL.end ?_
  refine NE.code ?_
  refine CE.seq ?_
  rcases Bool.eq_false_or_eq_true (vIn ((n : Nat) : Int) (1 : Int) (1024 : Int)) with hb1 | hb1
  · have hp1 := hb1; try simp only [Bool.and_eq_true, Bool.or_eq_true, Bool.not_eq_true', Bool.not_eq_false', Bool.and_eq_false_iff, Bool.or_eq_false_iff, decide_eq_true_eq, decide_eq_false_iff_not, beq_iff_eq, bne_iff_ne, beq_eq_false_iff_ne, bne_eq_false_iff_eq, ne_eq, Bool.false_eq_true, not_false_eq_true, not_true_eq_false, vIn_t, vIn_f] at hp1
    refine CE.draw (fun | 2 => some (fun _ wA uA wB => uA = vI ((n : Nat) : Int) ∧ wA = wB) | 3 => some (fun _ wA uA wB => uA = .bool (vIn ((n : Nat) : Int) (1 : Int) (1024 : Int)) ∧ wA = wB) | 9 => some (fun _ wA uA wB => uA = vI ((n : Nat) : Int) ∧ wA = wB) | _ => none) [0, 1, 2, 3, 4, 5, 6, 7, 8, 9, 10] [11, 12, 13] [] (by kernel_rfl) (by kernel_rfl) ?_
    have md1 : Mod [] w1 w1.drew := (Mod.refl _ _).drew
    generalize w1.drew = w2 at md1 ⊢
    refine DR.det (i := 0) rfl rfl (by kernel_rfl) (.free rfl) rfl rfl (fun wD mD => op_fieldAddr (off' := 0) rfl Try.runUnderlying26 rfl rfl Try.sizeOf24 rfl) ?_
    refine DR.det (i := 1) rfl rfl (by kernel_rfl) (.free rfl) rfl rfl (fun wD mD => op_load1 (i := 0) rfl Try.isAgg24 ((r1.ext md1).ext mD).rng rfl rfl) ?_
    refine DR.call (i := 2) (fun uA => uA = vI ((n : Nat) : Int)) rfl rfl (by kernel_rfl) (.free rfl) rfl (ltb rfl) ⟨_, rfl⟩ (vs := [.func (.func 103) #[] #[], .slice A n c]) rfl (fun wD mD => oc_call (vs := [.slice A n c]) (cap := []) rfl rfl rfl Try.call103 (c_length32 n c A wD)) ?_ ?_
    · rintro w1 _ _ m1 ⟨rfl, rfl⟩; exact ⟨rfl, Mod.refl _ _⟩
    rintro _ rfl
    refine DR.call (i := 3) (fun uA => uA = .bool (vIn ((n : Nat) : Int) (1 : Int) (1024 : Int))) rfl rfl (by kernel_rfl) (.free rfl) rfl (ltb rfl) ⟨_, rfl⟩ (vs := [.func (.func 78) #[] #[], vI ((n : Nat) : Int), vI 1, vI 1024]) rfl (fun wD mD => oc_call (vs := [vI ((n : Nat) : Int), vI 1, vI 1024]) (cap := []) rfl rfl rfl Try.call78 (c_within ((n : Nat) : Int) (1 : Int) (1024 : Int) wD)) ?_ ?_
    · rintro w1 _ _ m1 ⟨rfl, rfl⟩; exact ⟨rfl, Mod.refl _ _⟩
    rintro _ rfl
    refine DR.det (i := 4) rfl rfl (by kernel_rfl) (.free rfl) rfl rfl (fun wD mD => op_move rfl) ?_
    refine DR.det (i := 5) rfl rfl (by kernel_rfl) (.yes rfl rfl rfl (ltb rfl) rfl hb1) rfl rfl (fun wD mD => op_fieldAddr (off' := 1) rfl Try.runUnderlying26 rfl rfl Try.sizeOf2 rfl) ?_
    refine DR.det (i := 6) rfl rfl (by kernel_rfl) (.yes rfl rfl rfl (ltb rfl) rfl hb1) rfl rfl (fun wD mD => op_load1 (i := 1) rfl Try.isAgg2 ((r1.ext md1).ext mD).rng rfl rfl) ?_
    refine DR.det (i := 7) rfl rfl (by kernel_rfl) (.yes rfl rfl rfl (ltb rfl) rfl hb1) rfl rfl (fun wD mD => op_fieldAddr (off' := 0) rfl Try.runUnderlying26 rfl rfl Try.sizeOf24 rfl) ?_
    refine DR.det (i := 8) rfl rfl (by kernel_rfl) (.yes rfl rfl rfl (ltb rfl) rfl hb1) rfl rfl (fun wD mD => op_load1 (i := 0) rfl Try.isAgg24 ((r1.ext md1).ext mD).rng rfl rfl) ?_
    refine DR.call (i := 9) (fun uA => uA = vI ((n : Nat) : Int)) rfl rfl (by kernel_rfl) (.yes rfl rfl rfl (ltb rfl) rfl hb1) rfl (ltb rfl) ⟨_, rfl⟩ (vs := [.func (.func 103) #[] #[], .slice A n c]) rfl (fun wD mD => oc_call (vs := [.slice A n c]) (cap := []) rfl rfl rfl Try.call103 (c_length32 n c A wD)) ?_ ?_
    · rintro w1 _ _ m1 ⟨rfl, rfl⟩; exact ⟨rfl, Mod.refl _ _⟩
    rintro _ rfl
    refine DR.det (i := 10) rfl rfl (by kernel_rfl) (.yes rfl rfl rfl (ltb rfl) rfl hb1) rfl rfl (fun wD mD => op_sub (r := (((n : Nat) : Int) - (1 : Int))) rfl rfl (w_i64 (by omega) (by omega))) ?_
    refine DR.done rfl ?_
    intro w3 m2
    refine WO.call rfl (.yes rfl rfl rfl (ltb rfl) rfl hb1) rfl (ltb rfl) (oc_call (vs := [vI j, vI 0, vI (((n : Nat) : Int) - (1 : Int))]) (cap := []) rfl rfl rfl Try.call78 (c_within j (0 : Int) (((n : Nat) : Int) - (1 : Int)) w3)) ?_
    rintro _ _ ⟨rfl, rfl⟩
    refine WO.det (op_pick_t rfl hb1 rfl) rfl (.free rfl) rfl rfl ?_
    refine WO.det (op_assign rfl) rfl (.free rfl) rfl rfl ?_
    refine WO.end ?_
    refine NE.code ?_
    refine CE.ret' ?_
    refine XE.leave1 Try.results114 rfl ?_
    refine ⟨?_, ((((Mod.refl [] w).nt m1).nt md1).nt m2)⟩
    all_goals simp_all [vRing]
  · have hp1 := hb1; try simp only [Bool.and_eq_true, Bool.or_eq_true, Bool.not_eq_true', Bool.not_eq_false', Bool.and_eq_false_iff, Bool.or_eq_false_iff, decide_eq_true_eq, decide_eq_false_iff_not, beq_iff_eq, bne_iff_ne, beq_eq_false_iff_ne, bne_eq_false_iff_eq, ne_eq, Bool.false_eq_true, not_false_eq_true, not_true_eq_false, vIn_t, vIn_f] at hp1
    refine CE.draw (fun | 2 => some (fun _ wA uA wB => uA = vI ((n : Nat) : Int) ∧ wA = wB) | 3 => some (fun _ wA uA wB => uA = .bool (vIn ((n : Nat) : Int) (1 : Int) (1024 : Int)) ∧ wA = wB) | _ => none) [0, 1, 2, 3, 4, 5, 6, 7, 8, 9, 10] [11, 12, 13] [] (by kernel_rfl) (by kernel_rfl) ?_
    have md2 : Mod [] w1 w1.drew := (Mod.refl _ _).drew
    generalize w1.drew = w4 at md2 ⊢
    refine DR.det (i := 0) rfl rfl (by kernel_rfl) (.free rfl) rfl rfl (fun wD mD => op_fieldAddr (off' := 0) rfl Try.runUnderlying26 rfl rfl Try.sizeOf24 rfl) ?_
    refine DR.det (i := 1) rfl rfl (by kernel_rfl) (.free rfl) rfl rfl (fun wD mD => op_load1 (i := 0) rfl Try.isAgg24 ((r1.ext md2).ext mD).rng rfl rfl) ?_
    refine DR.call (i := 2) (fun uA => uA = vI ((n : Nat) : Int)) rfl rfl (by kernel_rfl) (.free rfl) rfl (ltb rfl) ⟨_, rfl⟩ (vs := [.func (.func 103) #[] #[], .slice A n c]) rfl (fun wD mD => oc_call (vs := [.slice A n c]) (cap := []) rfl rfl rfl Try.call103 (c_length32 n c A wD)) ?_ ?_
    · rintro w1 _ _ m1 ⟨rfl, rfl⟩; exact ⟨rfl, Mod.refl _ _⟩
    rintro _ rfl
    refine DR.call (i := 3) (fun uA => uA = .bool (vIn ((n : Nat) : Int) (1 : Int) (1024 : Int))) rfl rfl (by kernel_rfl) (.free rfl) rfl (ltb rfl) ⟨_, rfl⟩ (vs := [.func (.func 78) #[] #[], vI ((n : Nat) : Int), vI 1, vI 1024]) rfl (fun wD mD => oc_call (vs := [vI ((n : Nat) : Int), vI 1, vI 1024]) (cap := []) rfl rfl rfl Try.call78 (c_within ((n : Nat) : Int) (1 : Int) (1024 : Int) wD)) ?_ ?_
    · rintro w1 _ _ m1 ⟨rfl, rfl⟩; exact ⟨rfl, Mod.refl _ _⟩
    rintro _ rfl
    refine DR.det (i := 4) rfl rfl (by kernel_rfl) (.free rfl) rfl rfl (fun wD mD => op_move rfl) ?_
    refine DR.skip (i := 5) rfl (by kernel_rfl) (.no rfl rfl rfl (ltb rfl) rfl hb1) rfl (ltb rfl) ?_
    refine DR.skip (i := 6) rfl (by kernel_rfl) (.no rfl rfl rfl (ltb rfl) rfl hb1) rfl (ltb rfl) ?_
    refine DR.skip (i := 7) rfl (by kernel_rfl) (.no rfl rfl rfl (ltb rfl) rfl hb1) rfl (ltb rfl) ?_
    refine DR.skip (i := 8) rfl (by kernel_rfl) (.no rfl rfl rfl (ltb rfl) rfl hb1) rfl (ltb rfl) ?_
    refine DR.skip (i := 9) rfl (by kernel_rfl) (.no rfl rfl rfl (ltb rfl) rfl hb1) rfl (ltb rfl) ?_
    refine DR.skip (i := 10) rfl (by kernel_rfl) (.no rfl rfl rfl (ltb rfl) rfl hb1) rfl (ltb rfl) ?_
    refine DR.done rfl ?_
    intro w5 m3
    refine WO.skip rfl (.no rfl rfl rfl (ltb rfl) rfl hb1) rfl (ltb rfl) ?_
    refine WO.det (op_pick_f rfl hb1 rfl) rfl (.free rfl) rfl rfl ?_
    refine WO.det (op_assign rfl) rfl (.free rfl) rfl rfl ?_
    refine WO.end ?_
    refine NE.code ?_
    refine CE.ret' ?_
    refine XE.leave1 Try.results114 rfl ?_
    refine ⟨?_, ((((Mod.refl [] w).nt m1).nt md2).nt m3)⟩
    all_goals simp_all [vRing]

set_option maxRecDepth 100000 in
set_option maxHeartbeats 2000000 in
theorem c_cloneRing (n : Nat) (c : Nat) (b : Nat) (xs : List Nat) (j : Int) (ln : xs.length = n) (h0 : 0 < n) (hn : n ≤ 1048576) (w : World) (r : Rng w b 0 (fl xs)) : Cl Try.prog 122 #[.agg #[vS b 0 n c, vI j]] w fun v w' => ∃ (b' : Nat) (c' : Nat), v = .agg #[vS b' 0 n c', vI j] ∧ Row w' b' 0 (fl xs) ∧ w.heap.size ≤ b' ∧ Mod [] w w' := by
  refine Cl.of Try.func122 Try.ntmps122 rfl rfl (ρ := [(0, .agg #[vS b 0 n c, vI j])]) rfl ?_
  refine CE.seq ?_
  refine CE.region ?_
  refine WL.op (op_box (cs := [vS b 0 n c, vI j]) rfl rfl) rfl rfl (ltb rfl) ?_
  rintro _ w1 ⟨rfl, r1, m1, z1⟩
  refine WL.op (op_alloc (cs := [.slice none 0 0, vI 0]) Try.zeroValue26 rfl) rfl rfl (ltb rfl) ?_
  rintro _ w2 ⟨rfl, r2, m2, z2⟩
  refine WL.end ?_
  refine NE.code ?_
  refine CE.seq ?_
  refine CE.draw (fun | 2 => some (fun _ wA uA wB => ∃ (b' : Nat) (c' : Nat), uA = vS b' 0 n c' ∧ Row wB b' 0 (fl xs) ∧ wA.heap.size ≤ b' ∧ Mod [] wA wB) | _ => none) [0, 1, 2, 3, 4] [5, 6] [] (by kernel_rfl) (by kernel_rfl) ?_
  have md1 : Mod [] w2 w2.drew := (Mod.refl _ _).drew
  generalize w2.drew = w3 at md1 ⊢
  refine DR.det (i := 0) rfl rfl (by kernel_rfl) (.free rfl) rfl rfl (fun wD mD => op_fieldAddr (off' := 0) rfl Try.runUnderlying26 rfl rfl Try.sizeOf24 rfl) ?_
  refine DR.det (i := 1) rfl rfl (by kernel_rfl) (.free rfl) rfl rfl (fun wD mD => op_load1 (i := 0) rfl Try.isAgg24 (((r1.ext m2).ext md1).ext mD).rng rfl rfl) ?_
  refine DR.det (i := 3) rfl rfl (by kernel_rfl) (.free rfl) rfl rfl (fun wD mD => op_fieldAddr (off' := 1) rfl Try.runUnderlying26 rfl rfl Try.sizeOf2 rfl) ?_
  refine DR.det (i := 4) rfl rfl (by kernel_rfl) (.free rfl) rfl rfl (fun wD mD => op_load1 (i := 1) rfl Try.isAgg2 (((r1.ext m2).ext md1).ext mD).rng rfl rfl) ?_
  refine DR.one (i := 2) rfl rfl (by kernel_rfl) (.free rfl) rfl (ltb rfl) (vs := [.func (.func 147) #[] #[], vS b 0 n c]) rfl ?_
  intro w4 m3
  refine ⟨oc_call (vs := [vS b 0 n c]) (cap := []) rfl rfl rfl Try.call147 (c_Clone32 n c b xs ln (by omega) (by omega) w4 ((((r.ext m1).ext m2).ext md1).ext m3)), ?_⟩
  rintro _ w5 ⟨b'1, c'1, rfl, r3, ge1, m4⟩
  refine ⟨(((Mod.refl [] w3).nt m3).nt m4), ?_⟩
  refine DR.done rfl ?_
  intro w6 m5
  refine WO.det (op_build (qs := [(0, vS b'1 0 n c'1), (1, vI j)]) (cells := #[vS b'1 0 n c'1, vI j]) rfl (by kernel_rfl)) rfl (.free rfl) rfl rfl ?_
  refine WO.op0 rfl (.free rfl) rfl (op_store (i := 0) (cs := [vS b'1 0 n c'1, vI j]) rfl rfl rfl Try.sizeOf26 rfl ((((r2.ext md1).ext m3).ext m4).ext m5) rfl (lB rfl) rfl) ?_
  rintro _ w7 ⟨r4, m6, z3⟩
  have r5 : Row w7 w1.heap.size 0 [vS b'1 0 n c'1, vI j] := Row.congr r4 rfl
  refine WO.end ?_
  refine NE.code ?_
  refine CE.ret' ?_
  refine XE.leaveC Try.results122 (res_agg (cs := [vS b'1 0 n c'1, vI j]) rfl Try.isAgg26 Try.sizeOf26 r5.rng rfl res_nil) ?_
  refine ⟨b'1, c'1, rfl, ((r3.ext m5).mod m6 (nC (lG (lL (lL r2.lt (lT md1.size m3.size)) ge1)) nN)), (lT (lT (lT (lT m1.size m2.size) md1.size) m3.size) ge1), ((((((((Mod.refl [] w).nt m1).nt m2).nt md1).nt m3).nt m4).nt m5).then m6 ((aC (.inr (lT m1.size lR)) aN)))⟩

set_option maxRecDepth 100000 in
set_option maxHeartbeats 2000000 in
theorem c_l02Copy (n : Nat) (c : Nat) (b : Nat) (xs : List Nat) (j : Int) (p : Nat) (k : Nat) (vs : List Value) (ln : xs.length = n) (h0 : 0 < n) (hn : n ≤ 1048576) (hk : k + 2 ≤ vs.length) (w : World) (q : Rng w p 0 (splice vs k [vS b 0 n c, vI j])) (r : Rng w b 0 (fl xs)) : Cl Try.prog 119 #[vP p k] w fun v w' => ∃ (b' : Nat) (c' : Nat), v = .agg #[vS b' 0 n c', vI j] ∧ Row w' b' 0 (fl xs) ∧ w.heap.size ≤ b' ∧ Mod [] w w' := by
  refine Cl.of Try.func119 Try.ntmps119 rfl rfl (ρ := [(0, vP p k)]) rfl ?_
  refine CE.seq ?_
  refine CE.region ?_
  refine WL.op (op_alloc (cs := [.slice none 0 0, vI 0]) Try.zeroValue26 rfl) rfl rfl (ltb rfl) ?_
  rintro _ w1 ⟨rfl, r1, m1, z1⟩
  refine WL.end ?_
  refine NE.code ?_
  refine CE.seq ?_
  refine CE.draw (fun _ => none) [0, 1, 2, 3, 4, 5, 6, 7, 8, 9] [10, 11] [] (by kernel_rfl) (by kernel_rfl) ?_
  have md1 : Mod [] w1 w1.drew := (Mod.refl _ _).drew
  generalize w1.drew = w2 at md1 ⊢
  refine DR.det (i := 1) rfl rfl (by kernel_rfl) (.free rfl) rfl rfl (fun wD mD => op_move rfl) ?_
  refine DR.det (i := 2) rfl rfl (by kernel_rfl) (.free rfl) rfl rfl (fun wD mD => op_nilCheck rfl) ?_
  refine DR.det (i := 3) rfl rfl (by kernel_rfl) (.free rfl) rfl rfl (fun wD mD => op_fieldAddr (off' := k) rfl Try.runUnderlying26 rfl rfl Try.sizeOf24 rfl) ?_
  refine DR.det (i := 4) rfl rfl (by kernel_rfl) (.free rfl) rfl rfl (fun wD mD => op_load1 (i := k) rfl Try.isAgg24 (((q.ext m1).ext md1).ext mD) (Nat.zero_add _) (sub_get (i := 0) hk rfl)) ?_
  refine DR.det (i := 6) rfl rfl (by kernel_rfl) (.free rfl) rfl rfl (fun wD mD => op_move rfl) ?_
  refine DR.det (i := 7) rfl rfl (by kernel_rfl) (.free rfl) rfl rfl (fun wD mD => op_nilCheck rfl) ?_
  refine DR.det (i := 8) rfl rfl (by kernel_rfl) (.free rfl) rfl rfl (fun wD mD => op_fieldAddr (off' := k + 1) rfl Try.runUnderlying26 rfl rfl Try.sizeOf2 rfl) ?_
  refine DR.det (i := 9) rfl rfl (by kernel_rfl) (.free rfl) rfl rfl (fun wD mD => op_load1 (i := k + 1) rfl Try.isAgg2 (((q.ext m1).ext md1).ext mD) (Nat.zero_add _) (sub_get (i := 1) hk rfl)) ?_
  refine DR.one1 (i := 0) rfl rfl (by kernel_rfl) (.free rfl) rfl (ltb rfl) ?_
  intro w3 m2
  refine Op1.mono (op_emptySl rfl Try.runUnderlying24 Try.sizeOf27) ?_
  rintro _ w4 ⟨rfl, r2, m3, z2⟩
  refine ⟨(((Mod.refl [] w2).nt m2).nt m3), ?_⟩
  refine DR.rebase ?_
  refine DR.one1 (i := 5) rfl rfl (by kernel_rfl) (.free rfl) rfl (ltb rfl) ?_
  intro w5 m4
  refine Op1.mono (op_appendF (i := Try.t27) rfl rfl Try.underlying24 rfl rfl rfl rfl (((((r.ext m1).ext md1).ext m2).ext m3).ext m4) ln (by omega) (by omega)) ?_
  rintro _ w6 ⟨b1, c1, rfl, ge1, r3, m5⟩
  refine ⟨(((Mod.refl [] w4).nt m4).nt m5), ?_⟩
  refine DR.done rfl ?_
  intro w7 m6
  refine WO.det (op_build (qs := [(0, vS b1 0 n c1), (1, vI j)]) (cells := #[vS b1 0 n c1, vI j]) rfl (by kernel_rfl)) rfl (.free rfl) rfl rfl ?_
  refine WO.op0 rfl (.free rfl) rfl (op_store (i := 0) (cs := [vS b1 0 n c1, vI j]) rfl rfl rfl Try.sizeOf26 rfl ((((((r1.ext md1).ext m2).ext m3).ext m4).ext m5).ext m6) rfl (lB rfl) rfl) ?_
  rintro _ w8 ⟨r4, m7, z3⟩
  have r5 : Row w8 w.heap.size 0 [vS b1 0 n c1, vI j] := Row.congr r4 rfl
  refine WO.end ?_
  refine NE.code ?_
  refine CE.ret' ?_
  refine XE.leaveC Try.results119 (res_agg (cs := [vS b1 0 n c1, vI j]) rfl Try.isAgg26 Try.sizeOf26 r5.rng rfl res_nil) ?_
  refine ⟨b1, c1, rfl, ((r3.ext m6).mod m7 (nC (lG (lL (lL r1.lt (lT (lT (lT md1.size m2.size) m3.size) m4.size)) ge1)) nN)), (lT (lT (lT (lT (lT m1.size md1.size) m2.size) m3.size) m4.size) ge1), (((((((((Mod.refl [] w).nt m1).nt md1).nt m2).nt m3).nt m4).nt m5).nt m6).then m7 ((aC (.inr lR) aN)))⟩

set_option maxRecDepth 100000 in
set_option maxHeartbeats 2000000 in
theorem c_l02Push (n : Nat) (c : Nat) (b : Nat) (xs : List Nat) (i : Nat) (p : Nat) (k : Nat) (vs : List Value) (a : Nat) (ln : xs.length = n) (hi : i < n) (hn : n ≤ 1048576) (hk : k + 2 ≤ vs.length) (w : World) (q : Row w p 0 (splice vs k [vS b 0 n c, vI ((i : Nat) : Int)])) (r : Row w b 0 (fl xs)) (hne : p ≠ b) : Cl Try.prog 129 #[vP p k, vF a] w fun v w' => v = vF (xs.getD i 0) ∧ Row w' p 0 (splice vs k [vS b 0 n c, vI (((i + 1) % n : Nat) : Int)]) ∧ Row w' b 0 (fl (xs.set i a)) ∧ Mod [p, b] w w' := by
  refine Cl.of Try.func129 Try.ntmps129 rfl rfl (ρ := [(0, vP p k), (1, vF a)]) rfl ?_
  refine CE.seq ?_
  refine CE.region ?_
  refine WL.det (op_assign rfl) rfl rfl rfl ?_
  refine WL.end ?_
  refine NE.code ?_
  refine CE.seq ?_
  refine CE.draw (fun _ => none) [0, 1, 2, 3, 4, 5, 6, 7] [8, 9, 10] [] (by kernel_rfl) (by kernel_rfl) ?_
  have md1 : Mod [] w w.drew := (Mod.refl _ _).drew
  generalize w.drew = w1 at md1 ⊢
  refine DR.det (i := 0) rfl rfl (by kernel_rfl) (.free rfl) rfl rfl (fun wD mD => op_move rfl) ?_
  refine DR.det (i := 1) rfl rfl (by kernel_rfl) (.free rfl) rfl rfl (fun wD mD => op_nilCheck rfl) ?_
  refine DR.det (i := 2) rfl rfl (by kernel_rfl) (.free rfl) rfl rfl (fun wD mD => op_fieldAddr (off' := k) rfl Try.runUnderlying26 rfl rfl Try.sizeOf24 rfl) ?_
  refine DR.det (i := 3) rfl rfl (by kernel_rfl) (.free rfl) rfl rfl (fun wD mD => op_load1 (i := k) rfl Try.isAgg24 ((q.ext md1).ext mD).rng (Nat.zero_add _) (sub_get (i := 0) hk rfl)) ?_
  refine DR.det (i := 4) rfl rfl (by kernel_rfl) (.free rfl) rfl rfl (fun wD mD => op_move rfl) ?_
  refine DR.det (i := 5) rfl rfl (by kernel_rfl) (.free rfl) rfl rfl (fun wD mD => op_nilCheck rfl) ?_
  refine DR.det (i := 6) rfl rfl (by kernel_rfl) (.free rfl) rfl rfl (fun wD mD => op_fieldAddr (off' := k + 1) rfl Try.runUnderlying26 rfl rfl Try.sizeOf2 rfl) ?_
  refine DR.det (i := 7) rfl rfl (by kernel_rfl) (.free rfl) rfl rfl (fun wD mD => op_load1 (i := k + 1) rfl Try.isAgg2 ((q.ext md1).ext mD).rng (Nat.zero_add _) (sub_get (i := 1) hk rfl)) ?_
  refine DR.done rfl ?_
  intro w2 m1
  refine WO.det (op_indexSl (off' := 0 + i) rfl rfl rfl Try.runUnderlying24 Try.sizeOf27 (by omega) (by omega) (by omega)) rfl (.free rfl) rfl rfl ?_
  refine WO.det (op_load1 (i := i) rfl Try.isAgg27 ((r.ext md1).ext m1).rng rfl (fl_get (by have eL : List.length xs = n := ln; omega))) rfl (.free rfl) rfl rfl ?_
  refine WO.det (op_assign rfl) rfl (.free rfl) rfl rfl ?_
  refine WO.end ?_
  refine NE.code ?_
  refine CE.seq ?_
  refine CE.draw (fun _ => none) [0, 1, 2, 3, 4, 5, 6, 7, 8] [9, 10] [] (by kernel_rfl) (by kernel_rfl) ?_
  have md2 : Mod [] w2 w2.drew := (Mod.refl _ _).drew
  generalize w2.drew = w3 at md2 ⊢
  refine DR.det (i := 0) rfl rfl (by kernel_rfl) (.free rfl) rfl rfl (fun wD mD => op_move rfl) ?_
  refine DR.det (i := 1) rfl rfl (by kernel_rfl) (.free rfl) rfl rfl (fun wD mD => op_nilCheck rfl) ?_
  refine DR.det (i := 2) rfl rfl (by kernel_rfl) (.free rfl) rfl rfl (fun wD mD => op_fieldAddr (off' := k) rfl Try.runUnderlying26 rfl rfl Try.sizeOf24 rfl) ?_
  refine DR.det (i := 3) rfl rfl (by kernel_rfl) (.free rfl) rfl rfl (fun wD mD => op_load1 (i := k) rfl Try.isAgg24 ((((q.ext md1).ext m1).ext md2).ext mD).rng (Nat.zero_add _) (sub_get (i := 0) hk rfl)) ?_
  refine DR.det (i := 4) rfl rfl (by kernel_rfl) (.free rfl) rfl rfl (fun wD mD => op_move rfl) ?_
  refine DR.det (i := 5) rfl rfl (by kernel_rfl) (.free rfl) rfl rfl (fun wD mD => op_nilCheck rfl) ?_
  refine DR.det (i := 6) rfl rfl (by kernel_rfl) (.free rfl) rfl rfl (fun wD mD => op_fieldAddr (off' := k + 1) rfl Try.runUnderlying26 rfl rfl Try.sizeOf2 rfl) ?_
  refine DR.det (i := 7) rfl rfl (by kernel_rfl) (.free rfl) rfl rfl (fun wD mD => op_load1 (i := k + 1) rfl Try.isAgg2 ((((q.ext md1).ext m1).ext md2).ext mD).rng (Nat.zero_add _) (sub_get (i := 1) hk rfl)) ?_
  refine DR.det (i := 8) rfl rfl (by kernel_rfl) (.free rfl) rfl rfl (fun wD mD => op_move rfl) ?_
  refine DR.done rfl ?_
  intro w4 m2
  refine WO.det (op_indexSl (off' := 0 + i) rfl rfl rfl Try.runUnderlying24 Try.sizeOf27 (by omega) (by omega) (by omega)) rfl (.free rfl) rfl rfl ?_
  refine WO.op0 rfl (.free rfl) rfl (op_store (i := i) (cs := [vF a]) rfl rfl rfl Try.sizeOf27 rfl ((((r.ext md1).ext m1).ext md2).ext m2) rfl (by rw [fl_length]; have eL : List.length xs = n := ln; omega) rfl) ?_
  rintro _ w5 ⟨r1, m3, z1⟩
  have r2 : Row w5 b 0 (fl (xs.set i a)) := Row.congr r1 (fl_splice (by have eL : List.length xs = n := ln; omega))
  refine WO.end ?_
  refine NE.code ?_
  refine CE.seq ?_
  refine CE.draw (fun _ => none) [0, 1, 2, 3, 4, 5, 6, 7, 8, 9, 10, 11] [12, 13, 14] [] (by kernel_rfl) (by kernel_rfl) ?_
  have md3 : Mod [] w5 w5.drew := (Mod.refl _ _).drew
  generalize w5.drew = w6 at md3 ⊢
  refine DR.det (i := 0) rfl rfl (by kernel_rfl) (.free rfl) rfl rfl (fun wD mD => op_move rfl) ?_
  refine DR.det (i := 1) rfl rfl (by kernel_rfl) (.free rfl) rfl rfl (fun wD mD => op_move rfl) ?_
  refine DR.det (i := 2) rfl rfl (by kernel_rfl) (.free rfl) rfl rfl (fun wD mD => op_nilCheck rfl) ?_
  refine DR.det (i := 3) rfl rfl (by kernel_rfl) (.free rfl) rfl rfl (fun wD mD => op_fieldAddr (off' := k + 1) rfl Try.runUnderlying26 rfl rfl Try.sizeOf2 rfl) ?_
  refine DR.det (i := 4) rfl rfl (by kernel_rfl) (.free rfl) rfl rfl (fun wD mD => op_load1 (i := k + 1) rfl Try.isAgg2 (((((((q.ext md1).ext m1).ext md2).ext m2).mod m3 (nC hne nN)).ext md3).ext mD).rng (Nat.zero_add _) (sub_get (i := 1) hk rfl)) ?_
  refine DR.det (i := 5) rfl rfl (by kernel_rfl) (.free rfl) rfl rfl (fun wD mD => op_add (r := ((i + 1 : Nat) : Int)) rfl rfl (w_i64 (by omega) (by omega))) ?_
  refine DR.det (i := 6) rfl rfl (by kernel_rfl) (.free rfl) rfl rfl (fun wD mD => op_move rfl) ?_
  refine DR.det (i := 7) rfl rfl (by kernel_rfl) (.free rfl) rfl rfl (fun wD mD => op_nilCheck rfl) ?_
  refine DR.det (i := 8) rfl rfl (by kernel_rfl) (.free rfl) rfl rfl (fun wD mD => op_fieldAddr (off' := k) rfl Try.runUnderlying26 rfl rfl Try.sizeOf24 rfl) ?_
  refine DR.det (i := 9) rfl rfl (by kernel_rfl) (.free rfl) rfl rfl (fun wD mD => op_load1 (i := k) rfl Try.isAgg24 (((((((q.ext md1).ext m1).ext md2).ext m2).mod m3 (nC hne nN)).ext md3).ext mD).rng (Nat.zero_add _) (sub_get (i := 0) hk rfl)) ?_
  refine DR.det (i := 10) rfl rfl (by kernel_rfl) (.free rfl) rfl rfl (fun wD mD => op_len rfl Try.runUnderlying24) ?_
  have hm1 : (i + 1) % n < n := Nat.mod_lt _ (by omega)
  refine DR.det (i := 11) rfl rfl (by kernel_rfl) (.free rfl) rfl rfl (fun wD mD => op_rem (r := (((i + 1) % n : Nat) : Int)) rfl rfl (by omega) rfl) ?_
  refine DR.done rfl ?_
  intro w7 m4
  refine WO.det (op_nilCheck rfl) rfl (.free rfl) rfl rfl ?_
  refine WO.det (op_fieldAddr (off' := k + 1) rfl Try.runUnderlying26 rfl rfl Try.sizeOf2 rfl) rfl (.free rfl) rfl rfl ?_
  refine WO.op0 rfl (.free rfl) rfl (op_store (i := k + 1) (cs := [vI (((i + 1) % n : Nat) : Int)]) rfl rfl rfl Try.sizeOf2 rfl (((((((q.ext md1).ext m1).ext md2).ext m2).mod m3 (nC hne nN)).ext md3).ext m4) (Nat.zero_add _) (sub_fit (i := 1) hk (lB rfl)) rfl) ?_
  rintro _ w8 ⟨r3, m5, z2⟩
  have r4 : Row w8 p 0 (splice vs k [vS b 0 n c, vI (((i + 1) % n : Nat) : Int)]) := Row.congr r3 (sub_put (i := 1) hk (lB rfl) rfl)
  refine WO.end ?_
  refine NE.code ?_
  refine CE.seq ?_
  refine CE.region ?_
  refine WL.det (op_move rfl) rfl rfl rfl ?_
  refine WL.det (op_assign rfl) rfl rfl rfl ?_
  refine WL.end ?_
  refine NE.code ?_
  refine CE.ret' ?_
  refine XE.leave1 Try.results129 rfl ?_
  refine ⟨?_, r4, (((r2.ext md3).ext m4).mod m5 (nC (Ne.symm hne) nN)), (((((((((Mod.refl [p, b] w).nt md1).nt m1).nt md2).nt m2).then m3 ((aC (.inl (by simp)) aN))).nt md3).nt m4).then m5 ((aC (.inl (by simp)) aN)))⟩
  all_goals simp_all

set_option maxRecDepth 100000 in
set_option maxHeartbeats 2000000 in
theorem c_push (n : Nat) (c : Nat) (b : Nat) (xs : List Nat) (i : Nat) (p : Nat) (k : Nat) (vs : List Value) (a : Nat) (ln : xs.length = n) (hi : i < n) (hn : n ≤ 1048576) (hk : k + 2 ≤ vs.length) (w : World) (q : Row w p 0 (splice vs k [vS b 0 n c, vI ((i : Nat) : Int)])) (r : Row w b 0 (fl xs)) (hne : p ≠ b) : Cl Try.prog 125 #[vP p k, vF a] w fun v w' => v = vF (xs.getD i 0) ∧ Row w' p 0 (splice vs k [vS b 0 n c, vI (((i + 1) % n : Nat) : Int)]) ∧ Row w' b 0 (fl (xs.set i a)) ∧ Mod [p, b] w w' := by
  refine Cl.of Try.func125 Try.ntmps125 rfl rfl (ρ := [(0, vP p k), (1, vF a)]) rfl ?_
  refine CE.seq ?_
  refine CE.region ?_
  refine WL.det (op_assign rfl) rfl rfl rfl ?_
  refine WL.end ?_
  refine NE.code ?_
  refine CE.seq ?_
  refine CE.draw (fun _ => none) [0, 1, 2, 3, 4, 5, 6, 7] [8, 9, 10] [] (by kernel_rfl) (by kernel_rfl) ?_
  have md1 : Mod [] w w.drew := (Mod.refl _ _).drew
  generalize w.drew = w1 at md1 ⊢
  refine DR.det (i := 0) rfl rfl (by kernel_rfl) (.free rfl) rfl rfl (fun wD mD => op_move rfl) ?_
  refine DR.det (i := 1) rfl rfl (by kernel_rfl) (.free rfl) rfl rfl (fun wD mD => op_nilCheck rfl) ?_
  refine DR.det (i := 2) rfl rfl (by kernel_rfl) (.free rfl) rfl rfl (fun wD mD => op_fieldAddr (off' := k) rfl Try.runUnderlying26 rfl rfl Try.sizeOf24 rfl) ?_
  refine DR.det (i := 3) rfl rfl (by kernel_rfl) (.free rfl) rfl rfl (fun wD mD => op_load1 (i := k) rfl Try.isAgg24 ((q.ext md1).ext mD).rng (Nat.zero_add _) (sub_get (i := 0) hk rfl)) ?_
  refine DR.det (i := 4) rfl rfl (by kernel_rfl) (.free rfl) rfl rfl (fun wD mD => op_move rfl) ?_
  refine DR.det (i := 5) rfl rfl (by kernel_rfl) (.free rfl) rfl rfl (fun wD mD => op_nilCheck rfl) ?_
  refine DR.det (i := 6) rfl rfl (by kernel_rfl) (.free rfl) rfl rfl (fun wD mD => op_fieldAddr (off' := k + 1) rfl Try.runUnderlying26 rfl rfl Try.sizeOf2 rfl) ?_
  refine DR.det (i := 7) rfl rfl (by kernel_rfl) (.free rfl) rfl rfl (fun wD mD => op_load1 (i := k + 1) rfl Try.isAgg2 ((q.ext md1).ext mD).rng (Nat.zero_add _) (sub_get (i := 1) hk rfl)) ?_
  refine DR.done rfl ?_
  intro w2 m1
  refine WO.det (op_indexSl (off' := 0 + i) rfl rfl rfl Try.runUnderlying24 Try.sizeOf27 (by omega) (by omega) (by omega)) rfl (.free rfl) rfl rfl ?_
  refine WO.det (op_load1 (i := i) rfl Try.isAgg27 ((r.ext md1).ext m1).rng rfl (fl_get (by have eL : List.length xs = n := ln; omega))) rfl (.free rfl) rfl rfl ?_
  refine WO.det (op_assign rfl) rfl (.free rfl) rfl rfl ?_
  refine WO.end ?_
  refine NE.code ?_
  refine CE.seq ?_
  refine CE.draw (fun _ => none) [0, 1, 2, 3, 4, 5, 6, 7, 8] [9, 10] [] (by kernel_rfl) (by kernel_rfl) ?_
  have md2 : Mod [] w2 w2.drew := (Mod.refl _ _).drew
  generalize w2.drew = w3 at md2 ⊢
  refine DR.det (i := 0) rfl rfl (by kernel_rfl) (.free rfl) rfl rfl (fun wD mD => op_move rfl) ?_
  refine DR.det (i := 1) rfl rfl (by kernel_rfl) (.free rfl) rfl rfl (fun wD mD => op_nilCheck rfl) ?_
  refine DR.det (i := 2) rfl rfl (by kernel_rfl) (.free rfl) rfl rfl (fun wD mD => op_fieldAddr (off' := k) rfl Try.runUnderlying26 rfl rfl Try.sizeOf24 rfl) ?_
  refine DR.det (i := 3) rfl rfl (by kernel_rfl) (.free rfl) rfl rfl (fun wD mD => op_load1 (i := k) rfl Try.isAgg24 ((((q.ext md1).ext m1).ext md2).ext mD).rng (Nat.zero_add _) (sub_get (i := 0) hk rfl)) ?_
  refine DR.det (i := 4) rfl rfl (by kernel_rfl) (.free rfl) rfl rfl (fun wD mD => op_move rfl) ?_
  refine DR.det (i := 5) rfl rfl (by kernel_rfl) (.free rfl) rfl rfl (fun wD mD => op_nilCheck rfl) ?_
  refine DR.det (i := 6) rfl rfl (by kernel_rfl) (.free rfl) rfl rfl (fun wD mD => op_fieldAddr (off' := k + 1) rfl Try.runUnderlying26 rfl rfl Try.sizeOf2 rfl) ?_
  refine DR.det (i := 7) rfl rfl (by kernel_rfl) (.free rfl) rfl rfl (fun wD mD => op_load1 (i := k + 1) rfl Try.isAgg2 ((((q.ext md1).ext m1).ext md2).ext mD).rng (Nat.zero_add _) (sub_get (i := 1) hk rfl)) ?_
  refine DR.det (i := 8) rfl rfl (by kernel_rfl) (.free rfl) rfl rfl (fun wD mD => op_move rfl) ?_
  refine DR.done rfl ?_
  intro w4 m2
  refine WO.det (op_indexSl (off' := 0 + i) rfl rfl rfl Try.runUnderlying24 Try.sizeOf27 (by omega) (by omega) (by omega)) rfl (.free rfl) rfl rfl ?_
  refine WO.op0 rfl (.free rfl) rfl (op_store (i := i) (cs := [vF a]) rfl rfl rfl Try.sizeOf27 rfl ((((r.ext md1).ext m1).ext md2).ext m2) rfl (by rw [fl_length]; have eL : List.length xs = n := ln; omega) rfl) ?_
  rintro _ w5 ⟨r1, m3, z1⟩
  have r2 : Row w5 b 0 (fl (xs.set i a)) := Row.congr r1 (fl_splice (by have eL : List.length xs = n := ln; omega))
  refine WO.end ?_
  refine NE.code ?_
  refine CE.seq ?_
  refine CE.draw (fun | 10 => some (fun _ wA uA wB => uA = vI ((n : Nat) : Int) ∧ wA = wB) | _ => none) [0, 1, 2, 3, 4, 5, 6, 7, 8, 9, 10, 11] [12, 13, 14] [] (by kernel_rfl) (by kernel_rfl) ?_
  have md3 : Mod [] w5 w5.drew := (Mod.refl _ _).drew
  generalize w5.drew = w6 at md3 ⊢
  refine DR.det (i := 0) rfl rfl (by kernel_rfl) (.free rfl) rfl rfl (fun wD mD => op_move rfl) ?_
  refine DR.det (i := 1) rfl rfl (by kernel_rfl) (.free rfl) rfl rfl (fun wD mD => op_move rfl) ?_
  refine DR.det (i := 2) rfl rfl (by kernel_rfl) (.free rfl) rfl rfl (fun wD mD => op_nilCheck rfl) ?_
  refine DR.det (i := 3) rfl rfl (by kernel_rfl) (.free rfl) rfl rfl (fun wD mD => op_fieldAddr (off' := k + 1) rfl Try.runUnderlying26 rfl rfl Try.sizeOf2 rfl) ?_
  refine DR.det (i := 4) rfl rfl (by kernel_rfl) (.free rfl) rfl rfl (fun wD mD => op_load1 (i := k + 1) rfl Try.isAgg2 (((((((q.ext md1).ext m1).ext md2).ext m2).mod m3 (nC hne nN)).ext md3).ext mD).rng (Nat.zero_add _) (sub_get (i := 1) hk rfl)) ?_
  refine DR.det (i := 5) rfl rfl (by kernel_rfl) (.free rfl) rfl rfl (fun wD mD => op_add (r := ((i + 1 : Nat) : Int)) rfl rfl (w_i64 (by omega) (by omega))) ?_
  refine DR.det (i := 6) rfl rfl (by kernel_rfl) (.free rfl) rfl rfl (fun wD mD => op_move rfl) ?_
  refine DR.det (i := 7) rfl rfl (by kernel_rfl) (.free rfl) rfl rfl (fun wD mD => op_nilCheck rfl) ?_
  refine DR.det (i := 8) rfl rfl (by kernel_rfl) (.free rfl) rfl rfl (fun wD mD => op_fieldAddr (off' := k) rfl Try.runUnderlying26 rfl rfl Try.sizeOf24 rfl) ?_
  refine DR.det (i := 9) rfl rfl (by kernel_rfl) (.free rfl) rfl rfl (fun wD mD => op_load1 (i := k) rfl Try.isAgg24 (((((((q.ext md1).ext m1).ext md2).ext m2).mod m3 (nC hne nN)).ext md3).ext mD).rng (Nat.zero_add _) (sub_get (i := 0) hk rfl)) ?_
  refine DR.call (i := 10) (fun uA => uA = vI ((n : Nat) : Int)) rfl rfl (by kernel_rfl) (.free rfl) rfl (ltb rfl) ⟨_, rfl⟩ (vs := [.func (.func 103) #[] #[], vS b 0 n c]) rfl (fun wD mD => oc_call (vs := [vS b 0 n c]) (cap := []) rfl rfl rfl Try.call103 (c_length32 n c (some ⟨b, 0, none⟩) wD)) ?_ ?_
  · rintro w1 _ _ m1 ⟨rfl, rfl⟩; exact ⟨rfl, Mod.refl _ _⟩
  rintro _ rfl
  have hm1 : (i + 1) % n < n := Nat.mod_lt _ (by omega)
  refine DR.det (i := 11) rfl rfl (by kernel_rfl) (.free rfl) rfl rfl (fun wD mD => op_rem (r := (((i + 1) % n : Nat) : Int)) rfl rfl (by omega) rfl) ?_
  refine DR.done rfl ?_
  intro w7 m4
  refine WO.det (op_nilCheck rfl) rfl (.free rfl) rfl rfl ?_
  refine WO.det (op_fieldAddr (off' := k + 1) rfl Try.runUnderlying26 rfl rfl Try.sizeOf2 rfl) rfl (.free rfl) rfl rfl ?_
  refine WO.op0 rfl (.free rfl) rfl (op_store (i := k + 1) (cs := [vI (((i + 1) % n : Nat) : Int)]) rfl rfl rfl Try.sizeOf2 rfl (((((((q.ext md1).ext m1).ext md2).ext m2).mod m3 (nC hne nN)).ext md3).ext m4) (Nat.zero_add _) (sub_fit (i := 1) hk (lB rfl)) rfl) ?_
  rintro _ w8 ⟨r3, m5, z2⟩
  have r4 : Row w8 p 0 (splice vs k [vS b 0 n c, vI (((i + 1) % n : Nat) : Int)]) := Row.congr r3 (sub_put (i := 1) hk (lB rfl) rfl)
  refine WO.end ?_
  refine NE.code ?_
  refine CE.seq ?_
  refine CE.region ?_
  refine WL.det (op_move rfl) rfl rfl rfl ?_
  refine WL.det (op_assign rfl) rfl rfl rfl ?_
  refine WL.end ?_
  refine NE.code ?_
  refine CE.ret' ?_
  refine XE.leave1 Try.results125 rfl ?_
  refine ⟨?_, r4, (((r2.ext md3).ext m4).mod m5 (nC (Ne.symm hne) nN)), (((((((((Mod.refl [p, b] w).nt md1).nt m1).nt md2).nt m2).then m3 ((aC (.inl (by simp)) aN))).nt md3).nt m4).then m5 ((aC (.inl (by simp)) aN)))⟩
  all_goals simp_all

end Go.Proofs.Ytabfdgpldcegiaa
