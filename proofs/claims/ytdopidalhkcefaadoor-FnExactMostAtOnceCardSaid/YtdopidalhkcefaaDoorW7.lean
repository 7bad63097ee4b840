/- Notes, the end, the most at once. -/
import Derived.Test.YtdopidalhkcefaaDoorW6
import Derived.Test.YtdopidalhkcefaaDoorE31
set_option linter.unusedVariables false
set_option linter.unusedSimpArgs false
namespace Go.Proofs.YtdopidalhkcefaaDoor

def endF (es : List EvR) (n : Nat) : Int := if n = 0 then 0 else (es.getD (n - 1) EvR.d).at_
/-- how many notes sound, and the most at once so far -/
def curF (es : List EvR) : Nat → Int
  | 0 => 0
  | i + 1 => if (es.getD i EvR.d).kind = 2 then curF es i + 1 else curF es i - 1
def mostF (es : List EvR) : Nat → Int
  | 0 => 0
  | i + 1 => max (mostF es i) (curF es (i + 1))
theorem cur_le (es : List EvR) : ∀ i, -((i : Nat) : Int) ≤ curF es i ∧ curF es i ≤ ((i : Nat) : Int)
  | 0 => ⟨Int.le_refl _, Int.le_refl _⟩
  | i + 1 => by
    have := cur_le es i
    unfold curF
    split <;> omega
theorem cur_2 {es : List EvR} {i : Nat} (h : (es.getD i EvR.d).kind = 2) : curF es (i + 1) = curF es i + 1 := if_pos h
theorem cur_1 {es : List EvR} {i : Nat} (h : ¬ (es.getD i EvR.d).kind = 2) : curF es (i + 1) = curF es i - 1 := if_neg h
theorem most_s (es : List EvR) (i : Nat) : mostF es (i + 1) = max (mostF es i) (curF es (i + 1)) := rfl

set_option maxRecDepth 100000 in
set_option maxHeartbeats 2000000 in
theorem c_l00Max (a : Int) (b : Int) (w : World) : Cl Tryd.prog 55 #[vI a, vI b] w fun v w' => v = vI (max a b) ∧ w = w' := by
  refine Cl.of Tryd.func55 Tryd.ntmps55 rfl rfl (ρ := [(0, vI a), (1, vI b)]) rfl ?_
  refine CE.seq ?_
  refine CE.region ?_
  refine WL.det (op_assign rfl) rfl rfl rfl ?_
  refine WL.end ?_
  refine NE.code ?_
  refine CE.seq ?_
  refine CE.seq ?_
  refine CE.region ?_
  refine WL.det (op_move rfl) rfl rfl rfl ?_
  refine WL.det (op_move rfl) rfl rfl rfl ?_
  refine WL.det (op_gti rfl rfl) rfl rfl rfl ?_
  refine WL.end ?_
  refine NE.code ?_
  rcases Bool.eq_false_or_eq_true (decide (b < a)) with hb1 | hb1
  · have hp1 := of_decide_eq_true hb1
    refine CE.cond_t rfl hb1 ?_
    refine CE.seq ?_
    refine CE.region ?_
    refine WL.det (op_move rfl) rfl rfl rfl ?_
    refine WL.det (op_assign rfl) rfl rfl rfl ?_
    refine WL.end ?_
    refine NE.code ?_
    refine CE.ret' ?_
    refine XE.ret_then ?_
    refine XE.leave1 Tryd.results55 rfl ?_
    refine ⟨?_, rfl⟩
    all_goals exact congrArg (Value.int .i64) (by omega)
  · have hp1 := of_decide_eq_false hb1
    refine CE.cond_f rfl hb1 ?_
    refine CE.skip' ?_
    refine NE.code ?_
    refine CE.seq ?_
    refine CE.region ?_
    refine WL.det (op_move rfl) rfl rfl rfl ?_
    refine WL.det (op_assign rfl) rfl rfl rfl ?_
    refine WL.end ?_
    refine NE.code ?_
    refine CE.ret' ?_
    refine XE.leave1 Tryd.results55 rfl ?_
    refine ⟨?_, rfl⟩
    all_goals exact congrArg (Value.int .i64) (by omega)

set_option maxRecDepth 100000 in
set_option maxHeartbeats 2000000 in
theorem c_sNotesOf (ra : Nat) (ba : Nat) (oc : Nat) (nD : Nat) (bD : Nat) (esD : List Nat) (nI : Nat) (bI : Nat) (esI : List InR) (nE : Nat) (bE : Nat) (es : List EvR) (lnD : esD.length = nD) (lnI : esI.length = nI) (lnE : es.length = nE) (hnD : nD ≤ 1048576) (hnI : nI ≤ 1048576) (hnE : nE ≤ 1048576) (hS : ∀ i, (esI.getD i InR.d).name.size ≤ 9223372036854775807) (hW : ∀ i, EvW (es.getD i EvR.d)) (hv : vScS ra ba oc esD nD esI nI es nE = true) (w : World) (rD : Rng w bD 0 (fl esD)) (rI : Rng w bI 0 (cat InR.cells esI)) (rE : Rng w bE 0 (cat EvR.cells es)) : Cl Tryd.prog 18 #[.agg #[vF ra, vF ba, vF oc, vS bD 0 nD nD, vS bI 0 nI nI, vS bE 0 nE nE]] w fun v w' => v = .tuple #[vI (((nE / 2) : Nat) : Int), vI 0] ∧ Mod [] w w' := by
  refine Cl.of Tryd.func18 Tryd.ntmps18 rfl rfl (ρ := [(0, .agg #[vF ra, vF ba, vF oc, vS bD 0 nD nD, vS bI 0 nI nI, vS bE 0 nE nE])]) rfl ?_
  refine CE.seq ?_
  refine CE.region ?_
  refine WL.op (op_box (cs := [vF ra, vF ba, vF oc, vS bD 0 nD nD, vS bI 0 nI nI, vS bE 0 nE nE]) rfl rfl) rfl rfl (ltb rfl) ?_
  rintro _ w1 ⟨rfl, r1, m1, z1⟩
  refine WL.det (op_assign rfl) rfl rfl rfl ?_
  refine WL.det (op_assign rfl) rfl rfl rfl ?_
  refine WL.end ?_
  refine NE.code ?_
  refine CE.seq ?_
  refine CE.seq ?_
  refine CE.region ?_
  refine WL.call (oc_call (vs := [vP w.heap.size 0]) (cap := []) rfl rfl rfl Tryd.call39 (c_l08Ok ra ba oc nD bD esD nI bI esI nE bE es w.heap.size lnD lnI lnE (by omega) (by omega) (by omega) (by assumption) (by assumption) w1 r1.rng (rD.ext m1) (rI.ext m1) (rE.ext m1))) rfl rfl (ltb rfl) ?_
  rintro _ w2 ⟨rfl, m2⟩
  refine WL.det (op_not rfl) rfl rfl rfl ?_
  refine WL.end ?_
  refine NE.code ?_
  refine CE.cond_f rfl (bnot_t hv) ?_
  refine CE.skip' ?_
  refine NE.code ?_
  refine CE.seq ?_
  refine CE.region ?_
  refine WL.det (op_fieldAddr (off' := 5) rfl Tryd.runUnderlying43 rfl rfl Tryd.sizeOf41 rfl) rfl rfl rfl ?_
  refine WL.det (op_load1 (i := 5) rfl Tryd.isAgg41 (r1.ext m2).rng rfl rfl) rfl rfl rfl ?_
  refine WL.det (op_len rfl Tryd.runUnderlying41) rfl rfl rfl ?_
  refine WL.det (op_quo (r := ((nE / 2 : Nat) : Int)) rfl rfl (by omega) (quo_nat (by omega))) rfl rfl rfl ?_
  refine WL.det (op_assign rfl) rfl rfl rfl ?_
  refine WL.det (op_assign rfl) rfl rfl rfl ?_
  refine WL.end ?_
  refine NE.code ?_
  refine CE.ret' ?_
  refine XE.leaveT Tryd.results18 (res_tmp rfl (res_tmp rfl res_nil)) ?_
  refine ⟨?_, (((Mod.refl [] w).nt m1).nt m2)⟩
  all_goals first | assumption | rfl

set_option maxRecDepth 100000 in
set_option maxHeartbeats 2000000 in
theorem c_sNotesOf_inv (ra : Nat) (ba : Nat) (oc : Nat) (nD : Nat) (bD : Nat) (esD : List Nat) (nI : Nat) (bI : Nat) (esI : List InR) (nE : Nat) (bE : Nat) (es : List EvR) (lnD : esD.length = nD) (lnI : esI.length = nI) (lnE : es.length = nE) (hnD : nD ≤ 1048576) (hnI : nI ≤ 1048576) (hnE : nE ≤ 1048576) (hS : ∀ i, (esI.getD i InR.d).name.size ≤ 9223372036854775807) (hW : ∀ i, EvW (es.getD i EvR.d)) (hv : vScS ra ba oc esD nD esI nI es nE = false) (w : World) (rD : Rng w bD 0 (fl esD)) (rI : Rng w bI 0 (cat InR.cells esI)) (rE : Rng w bE 0 (cat EvR.cells es)) : Cl Tryd.prog 18 #[.agg #[vF ra, vF ba, vF oc, vS bD 0 nD nD, vS bI 0 nI nI, vS bE 0 nE nE]] w fun v w' => v = .tuple #[vI 0, vI 1] ∧ Mod [] w w' := by
  refine Cl.of Tryd.func18 Tryd.ntmps18 rfl rfl (ρ := [(0, .agg #[vF ra, vF ba, vF oc, vS bD 0 nD nD, vS bI 0 nI nI, vS bE 0 nE nE])]) rfl ?_
  refine CE.seq ?_
  refine CE.region ?_
  refine WL.op (op_box (cs := [vF ra, vF ba, vF oc, vS bD 0 nD nD, vS bI 0 nI nI, vS bE 0 nE nE]) rfl rfl) rfl rfl (ltb rfl) ?_
  rintro _ w1 ⟨rfl, r1, m1, z1⟩
  refine WL.det (op_assign rfl) rfl rfl rfl ?_
  refine WL.det (op_assign rfl) rfl rfl rfl ?_
  refine WL.end ?_
  refine NE.code ?_
  refine CE.seq ?_
  refine CE.seq ?_
  refine CE.region ?_
  refine WL.call (oc_call (vs := [vP w.heap.size 0]) (cap := []) rfl rfl rfl Tryd.call39 (c_l08Ok ra ba oc nD bD esD nI bI esI nE bE es w.heap.size lnD lnI lnE (by omega) (by omega) (by omega) (by assumption) (by assumption) w1 r1.rng (rD.ext m1) (rI.ext m1) (rE.ext m1))) rfl rfl (ltb rfl) ?_
  rintro _ w2 ⟨rfl, m2⟩
  refine WL.det (op_not rfl) rfl rfl rfl ?_
  refine WL.end ?_
  refine NE.code ?_
  refine CE.cond_t rfl (bnot_f hv) ?_
  refine CE.seq ?_
  refine CE.region ?_
  refine WL.det (op_assign rfl) rfl rfl rfl ?_
  refine WL.det (op_assign rfl) rfl rfl rfl ?_
  refine WL.end ?_
  refine NE.code ?_
  refine CE.ret' ?_
  refine XE.ret_then ?_
  refine XE.leaveT Tryd.results18 (res_tmp rfl (res_tmp rfl res_nil)) ?_
  refine ⟨rfl, (((Mod.refl [] w).nt m1).nt m2)⟩

set_option maxRecDepth 100000 in
set_option maxHeartbeats 2000000 in
theorem c_sEnd (ra : Nat) (ba : Nat) (oc : Nat) (nD : Nat) (bD : Nat) (esD : List Nat) (nI : Nat) (bI : Nat) (esI : List InR) (nE : Nat) (bE : Nat) (es : List EvR) (lnD : esD.length = nD) (lnI : esI.length = nI) (lnE : es.length = nE) (hnD : nD ≤ 1048576) (hnI : nI ≤ 1048576) (hnE : nE ≤ 1048576) (hS : ∀ i, (esI.getD i InR.d).name.size ≤ 9223372036854775807) (hW : ∀ i, EvW (es.getD i EvR.d)) (hv : vScS ra ba oc esD nD esI nI es nE = true) (w : World) (rD : Rng w bD 0 (fl esD)) (rI : Rng w bI 0 (cat InR.cells esI)) (rE : Rng w bE 0 (cat EvR.cells es)) : Cl Tryd.prog 20 #[.agg #[vF ra, vF ba, vF oc, vS bD 0 nD nD, vS bI 0 nI nI, vS bE 0 nE nE]] w fun v w' => v = .tuple #[vI (endF es nE), vI 0] ∧ Mod [] w w' := by
  refine Cl.of Tryd.func20 Tryd.ntmps20 rfl rfl (ρ := [(0, .agg #[vF ra, vF ba, vF oc, vS bD 0 nD nD, vS bI 0 nI nI, vS bE 0 nE nE])]) rfl ?_
  refine CE.seq ?_
  refine CE.region ?_
  refine WL.op (op_box (cs := [vF ra, vF ba, vF oc, vS bD 0 nD nD, vS bI 0 nI nI, vS bE 0 nE nE]) rfl rfl) rfl rfl (ltb rfl) ?_
  rintro _ w1 ⟨rfl, r1, m1, z1⟩
  refine WL.det (op_assign rfl) rfl rfl rfl ?_
  refine WL.det (op_assign rfl) rfl rfl rfl ?_
  refine WL.end ?_
  refine NE.code ?_
  refine CE.seq ?_
  refine CE.seq ?_
  refine CE.region ?_
  refine WL.call (oc_call (vs := [vP w.heap.size 0]) (cap := []) rfl rfl rfl Tryd.call39 (c_l08Ok ra ba oc nD bD esD nI bI esI nE bE es w.heap.size lnD lnI lnE (by omega) (by omega) (by omega) (by assumption) (by assumption) w1 r1.rng (rD.ext m1) (rI.ext m1) (rE.ext m1))) rfl rfl (ltb rfl) ?_
  rintro _ w2 ⟨rfl, m2⟩
  refine WL.det (op_not rfl) rfl rfl rfl ?_
  refine WL.end ?_
  refine NE.code ?_
  refine CE.cond_f rfl (bnot_t hv) ?_
  refine CE.skip' ?_
  refine NE.code ?_
  refine CE.seq ?_
  refine CE.seq ?_
  refine CE.region ?_
  refine WL.det (op_fieldAddr (off' := 5) rfl Tryd.runUnderlying43 rfl rfl Tryd.sizeOf41 rfl) rfl rfl rfl ?_
  refine WL.det (op_load1 (i := 5) rfl Tryd.isAgg41 (r1.ext m2).rng rfl rfl) rfl rfl rfl ?_
  refine WL.det (op_len rfl Tryd.runUnderlying41) rfl rfl rfl ?_
  refine WL.det (op_eqi rfl rfl) rfl rfl rfl ?_
  refine WL.end ?_
  refine NE.code ?_
  rcases Bool.eq_false_or_eq_true ((((nE : Nat) : Int) == (0 : Int))) with hb1 | hb1
  · have hp1 := eq_of_beq hb1
    refine CE.cond_t rfl hb1 ?_
    refine CE.seq ?_
    refine CE.region ?_
    refine WL.det (op_assign rfl) rfl rfl rfl ?_
    refine WL.det (op_assign rfl) rfl rfl rfl ?_
    refine WL.end ?_
    refine NE.code ?_
    refine CE.ret' ?_
    refine XE.ret_then ?_
    refine XE.leaveT Tryd.results20 (res_tmp rfl (res_tmp rfl res_nil)) ?_
    refine ⟨?_, (((Mod.refl [] w).nt m1).nt m2)⟩
    all_goals first | exact congrArg (fun z => Value.tuple #[vI z, vI 0]) (by unfold endF; first | (rw [if_pos (by omega)]; done) | rw [if_neg (by omega)])
  · have hp1 := ne_of_beq_false hb1
    refine CE.cond_f rfl hb1 ?_
    refine CE.skip' ?_
    refine NE.code ?_
    refine CE.seq ?_
    refine CE.region ?_
    refine WL.det (op_fieldAddr (off' := 5) rfl Tryd.runUnderlying43 rfl rfl Tryd.sizeOf41 rfl) rfl rfl rfl ?_
    refine WL.det (op_load1 (i := 5) rfl Tryd.isAgg41 (r1.ext m2).rng rfl rfl) rfl rfl rfl ?_
    refine WL.det (op_fieldAddr (off' := 5) rfl Tryd.runUnderlying43 rfl rfl Tryd.sizeOf41 rfl) rfl rfl rfl ?_
    refine WL.det (op_load1 (i := 5) rfl Tryd.isAgg41 (r1.ext m2).rng rfl rfl) rfl rfl rfl ?_
    refine WL.det (op_len rfl Tryd.runUnderlying41) rfl rfl rfl ?_
    refine WL.det (op_sub (r := ((nE - 1 : Nat) : Int)) rfl rfl (w_nsub (l := nE) (n := 1) (by omega) (by omega))) rfl rfl rfl ?_
    refine WL.det (op_indexSl (off' := 0 + (nE - 1) * 6) rfl rfl rfl Tryd.runUnderlying41 Tryd.sizeOf72 (by omega) (by omega) (by omega)) rfl rfl rfl ?_
    refine WL.det (op_fieldAddr (off' := 0 + (nE - 1) * 6) rfl Tryd.runUnderlying72 rfl rfl Tryd.sizeOf2 rfl) rfl rfl rfl ?_
    refine WL.det (op_load1 (i := (nE - 1) * 6) rfl Tryd.isAgg2 ((rE.ext m1).ext m2) rfl (cat_get0 (f := EvR.cells) (m := 6) (i := (nE - 1)) (d := EvR.d) (fun _ => rfl) (by have eL : List.length es = nE := lnE; omega) rfl)) rfl rfl rfl ?_
    refine WL.det (op_assign rfl) rfl rfl rfl ?_
    refine WL.det (op_assign rfl) rfl rfl rfl ?_
    refine WL.end ?_
    refine NE.code ?_
    refine CE.ret' ?_
    refine XE.leaveT Tryd.results20 (res_tmp rfl (res_tmp rfl res_nil)) ?_
    refine ⟨?_, (((Mod.refl [] w).nt m1).nt m2)⟩
    all_goals first | exact congrArg (fun z => Value.tuple #[vI z, vI 0]) (by unfold endF; first | (rw [if_pos (by omega)]; done) | rw [if_neg (by omega)])

set_option maxRecDepth 100000 in
set_option maxHeartbeats 2000000 in
theorem c_sEnd_inv (ra : Nat) (ba : Nat) (oc : Nat) (nD : Nat) (bD : Nat) (esD : List Nat) (nI : Nat) (bI : Nat) (esI : List InR) (nE : Nat) (bE : Nat) (es : List EvR) (lnD : esD.length = nD) (lnI : esI.length = nI) (lnE : es.length = nE) (hnD : nD ≤ 1048576) (hnI : nI ≤ 1048576) (hnE : nE ≤ 1048576) (hS : ∀ i, (esI.getD i InR.d).name.size ≤ 9223372036854775807) (hW : ∀ i, EvW (es.getD i EvR.d)) (hv : vScS ra ba oc esD nD esI nI es nE = false) (w : World) (rD : Rng w bD 0 (fl esD)) (rI : Rng w bI 0 (cat InR.cells esI)) (rE : Rng w bE 0 (cat EvR.cells es)) : Cl Tryd.prog 20 #[.agg #[vF ra, vF ba, vF oc, vS bD 0 nD nD, vS bI 0 nI nI, vS bE 0 nE nE]] w fun v w' => v = .tuple #[vI 0, vI 1] ∧ Mod [] w w' := by
  refine Cl.of Tryd.func20 Tryd.ntmps20 rfl rfl (ρ := [(0, .agg #[vF ra, vF ba, vF oc, vS bD 0 nD nD, vS bI 0 nI nI, vS bE 0 nE nE])]) rfl ?_
  refine CE.seq ?_
  refine CE.region ?_
  refine WL.op (op_box (cs := [vF ra, vF ba, vF oc, vS bD 0 nD nD, vS bI 0 nI nI, vS bE 0 nE nE]) rfl rfl) rfl rfl (ltb rfl) ?_
  rintro _ w1 ⟨rfl, r1, m1, z1⟩
  refine WL.det (op_assign rfl) rfl rfl rfl ?_
  refine WL.det (op_assign rfl) rfl rfl rfl ?_
  refine WL.end ?_
  refine NE.code ?_
  refine CE.seq ?_
  refine CE.seq ?_
  refine CE.region ?_
  refine WL.call (oc_call (vs := [vP w.heap.size 0]) (cap := []) rfl rfl rfl Tryd.call39 (c_l08Ok ra ba oc nD bD esD nI bI esI nE bE es w.heap.size lnD lnI lnE (by omega) (by omega) (by omega) (by assumption) (by assumption) w1 r1.rng (rD.ext m1) (rI.ext m1) (rE.ext m1))) rfl rfl (ltb rfl) ?_
  rintro _ w2 ⟨rfl, m2⟩
  refine WL.det (op_not rfl) rfl rfl rfl ?_
  refine WL.end ?_
  refine NE.code ?_
  refine CE.cond_t rfl (bnot_f hv) ?_
  refine CE.seq ?_
  refine CE.region ?_
  refine WL.det (op_assign rfl) rfl rfl rfl ?_
  refine WL.det (op_assign rfl) rfl rfl rfl ?_
  refine WL.end ?_
  refine NE.code ?_
  refine CE.ret' ?_
  refine XE.ret_then ?_
  refine XE.leaveT Tryd.results20 (res_tmp rfl (res_tmp rfl res_nil)) ?_
  refine ⟨rfl, (((Mod.refl [] w).nt m1).nt m2)⟩

set_option maxRecDepth 100000 in
set_option maxHeartbeats 2000000 in
theorem c_sMost (ra : Nat) (ba : Nat) (oc : Nat) (nD : Nat) (bD : Nat) (esD : List Nat) (nI : Nat) (bI : Nat) (esI : List InR) (nE : Nat) (bE : Nat) (es : List EvR) (lnD : esD.length = nD) (lnI : esI.length = nI) (lnE : es.length = nE) (hnD : nD ≤ 1048576) (hnI : nI ≤ 1048576) (hnE : nE ≤ 1048576) (hS : ∀ i, (esI.getD i InR.d).name.size ≤ 9223372036854775807) (hW : ∀ i, EvW (es.getD i EvR.d)) (hv : vScS ra ba oc esD nD esI nI es nE = true) (w : World) (rD : Rng w bD 0 (fl esD)) (rI : Rng w bI 0 (cat InR.cells esI)) (rE : Rng w bE 0 (cat EvR.cells es)) : Cl Tryd.prog 22 #[.agg #[vF ra, vF ba, vF oc, vS bD 0 nD nD, vS bI 0 nI nI, vS bE 0 nE nE]] w fun v w' => v = .tuple #[vI (mostF es nE), vI 0] ∧ Mod [] w w' := by
  refine Cl.of Tryd.func22 Tryd.ntmps22 rfl rfl (ρ := [(0, .agg #[vF ra, vF ba, vF oc, vS bD 0 nD nD, vS bI 0 nI nI, vS bE 0 nE nE])]) rfl ?_
  refine CE.seq ?_
  refine CE.region ?_
  refine WL.op (op_box (cs := [vF ra, vF ba, vF oc, vS bD 0 nD nD, vS bI 0 nI nI, vS bE 0 nE nE]) rfl rfl) rfl rfl (ltb rfl) ?_
  rintro _ w1 ⟨rfl, r1, m1, z1⟩
  refine WL.det (op_assign rfl) rfl rfl rfl ?_
  refine WL.det (op_assign rfl) rfl rfl rfl ?_
  refine WL.end ?_
  refine NE.code ?_
  refine CE.seq ?_
  refine CE.seq ?_
  refine CE.region ?_
  refine WL.call (oc_call (vs := [vP w.heap.size 0]) (cap := []) rfl rfl rfl Tryd.call39 (c_l08Ok ra ba oc nD bD esD nI bI esI nE bE es w.heap.size lnD lnI lnE (by omega) (by omega) (by omega) (by assumption) (by assumption) w1 r1.rng (rD.ext m1) (rI.ext m1) (rE.ext m1))) rfl rfl (ltb rfl) ?_
  rintro _ w2 ⟨rfl, m2⟩
  refine WL.det (op_not rfl) rfl rfl rfl ?_
  refine WL.end ?_
  refine NE.code ?_
  refine CE.cond_f rfl (bnot_t hv) ?_
  refine CE.skip' ?_
  refine NE.code ?_
  refine CE.seq ?_
  refine CE.region ?_
  refine WL.det (op_assign rfl) rfl rfl rfl ?_
  refine WL.end ?_
  refine NE.code ?_
  refine CE.seq ?_
  refine CE.region ?_
  refine WL.det (op_assign rfl) rfl rfl rfl ?_
  refine WL.end ?_
  refine NE.code ?_
  refine CE.seq ?_
  refine CE.seq ?_
  refine CE.region ?_
  refine WL.det (op_assign rfl) rfl rfl rfl ?_
  refine WL.end ?_
  refine NE.code ?_
  refine CE.block ?_
  refine CE.loop (fun (z : Nat × Int × Int) => [(6, vI ((z.1 : Nat) : Int)), (5, vI z.2.1), (4, vI z.2.2), (1, vP w.heap.size 0), (2, vI 0), (3, vI 0)]) (fun (z : Nat × Int × Int) => fun W => (z.1 ≤ nE) ∧ (z.2.1 = mostF es z.1) ∧ (z.2.2 = curF es z.1) ∧ Mod [] w2 W) (fun (z : Nat × Int × Int) => nE - z.1) (0, 0, 0) (⟨rfl, rfl, rfl, rfl, rfl, rfl, trivial⟩) ⟨(by omega), (by rfl), (by rfl), Mod.refl _ _⟩ ?_
  rintro ⟨i, mo, cu⟩ w3 ⟨hi, hm, hc, m3⟩
  replace hi : i ≤ nE := hi
  replace hm : mo = mostF es i := hm
  replace hc : cu = curF es i := hc
  have hb8 := cur_le es i
  have hb9 := hc
  show CE _ _ _ _ [(6, vI ((i : Nat) : Int)), (5, vI mo), (4, vI cu), (1, vP w.heap.size 0), (2, vI 0), (3, vI 0)] _
  refine CE.seq ?_
  refine CE.seq ?_
  refine CE.region ?_
  refine WL.det (op_move rfl) rfl rfl rfl ?_
  refine WL.det (op_fieldAddr (off' := 5) rfl Tryd.runUnderlying43 rfl rfl Tryd.sizeOf41 rfl) rfl rfl rfl ?_
  refine WL.det (op_load1 (i := 5) rfl Tryd.isAgg41 ((r1.ext m2).ext m3).rng rfl rfl) rfl rfl rfl ?_
  refine WL.det (op_len rfl Tryd.runUnderlying41) rfl rfl rfl ?_
  refine WL.det (op_lti rfl rfl) rfl rfl rfl ?_
  refine WL.end ?_
  refine NE.code ?_
  rcases Bool.eq_false_or_eq_true (decide (((i : Nat) : Int) < ((nE : Nat) : Int))) with hb1 | hb1
  · have hp1 := of_decide_eq_true hb1
    refine CE.cond_t rfl hb1 ?_
    refine CE.skip' ?_
    refine NE.code ?_
    refine CE.seq ?_
    refine CE.block ?_
    refine CE.seq ?_
    refine CE.seq ?_
    refine CE.region ?_
    refine WL.det (op_fieldAddr (off' := 5) rfl Tryd.runUnderlying43 rfl rfl Tryd.sizeOf41 rfl) rfl rfl rfl ?_
    refine WL.det (op_load1 (i := 5) rfl Tryd.isAgg41 ((r1.ext m2).ext m3).rng rfl rfl) rfl rfl rfl ?_
    refine WL.det (op_move rfl) rfl rfl rfl ?_
    refine WL.det (op_indexSl (off' := 0 + i * 6) rfl rfl rfl Tryd.runUnderlying41 Tryd.sizeOf72 (by omega) (by omega) (by omega)) rfl rfl rfl ?_
    refine WL.det (op_fieldAddr (off' := 0 + i * 6 + 1) rfl Tryd.runUnderlying72 rfl rfl Tryd.sizeOf2 rfl) rfl rfl rfl ?_
    refine WL.det (op_load1 (i := i * 6 + 1) rfl Tryd.isAgg2 (((rE.ext m1).ext m2).ext m3) rfl (cat_get (f := EvR.cells) (m := 6) (i := i) (d := EvR.d) (fun _ => rfl) (by have eL : List.length es = nE := lnE; omega) rfl)) rfl rfl rfl ?_
    refine WL.det (op_eqi rfl rfl) rfl rfl rfl ?_
    refine WL.end ?_
    refine NE.code ?_
    rcases Bool.eq_false_or_eq_true ((((es.getD i EvR.d).kind) == (2 : Int))) with hb2 | hb2
    · have hp2 := eq_of_beq hb2
      refine CE.cond_t rfl hb2 ?_
      refine CE.region ?_
      refine WL.det (op_move rfl) rfl rfl rfl ?_
      refine WL.det (op_add (r := (cu + (1 : Int))) rfl rfl (w_i64 (by omega) (by omega))) rfl rfl rfl ?_
      refine WL.det (op_assign rfl) rfl rfl rfl ?_
      refine WL.end ?_
      refine NE.code ?_
      refine CE.region ?_
      refine WL.det (op_move rfl) rfl rfl rfl ?_
      refine WL.det (op_move rfl) rfl rfl rfl ?_
      refine WL.call (oc_call (vs := [vI mo, vI (cu + (1 : Int))]) (cap := []) rfl rfl rfl Tryd.call55 (c_l00Max mo (cu + (1 : Int)) w3)) rfl rfl (ltb rfl) ?_
      rintro _ _ ⟨rfl, rfl⟩
      refine WL.det (op_assign rfl) rfl rfl rfl ?_
      refine WL.end ?_
      refine NE.blk ?_
      refine NE.code ?_
      refine CE.region ?_
      refine WL.det (op_move rfl) rfl rfl rfl ?_
      refine WL.det (op_add (r := ((i + 1 : Nat) : Int)) rfl rfl (w_i64 (by omega) (by omega))) rfl rfl rfl ?_
      refine WL.det (op_assign rfl) rfl rfl rfl ?_
      refine WL.end ?_
      exact NE.again ((i + 1), ((max mo (cu + (1 : Int)))), ((cu + (1 : Int)))) (⟨rfl, rfl, rfl, rfl, rfl, rfl, trivial⟩) ⟨(by omega), (by first | (rw [most_s, cur_2 (by assumption), hm, hc]; done) | (rw [most_s, cur_1 (by assumption), hm, hc]; done)), (by first | (rw [cur_2 (by assumption), hc]; done) | (rw [cur_1 (by assumption), hc]; done)), m3⟩ (by first | (dsimp only; omega) | omega)
    · have hp2 := ne_of_beq_false hb2
      refine CE.cond_f rfl hb2 ?_
      refine CE.region ?_
      refine WL.det (op_move rfl) rfl rfl rfl ?_
      refine WL.det (op_sub (r := (cu - (1 : Int))) rfl rfl (w_i64 (by omega) (by omega))) rfl rfl rfl ?_
      refine WL.det (op_assign rfl) rfl rfl rfl ?_
      refine WL.end ?_
      refine NE.code ?_
      refine CE.region ?_
      refine WL.det (op_move rfl) rfl rfl rfl ?_
      refine WL.det (op_move rfl) rfl rfl rfl ?_
      refine WL.call (oc_call (vs := [vI mo, vI (cu - (1 : Int))]) (cap := []) rfl rfl rfl Tryd.call55 (c_l00Max mo (cu - (1 : Int)) w3)) rfl rfl (ltb rfl) ?_
      rintro _ _ ⟨rfl, rfl⟩
      refine WL.det (op_assign rfl) rfl rfl rfl ?_
      refine WL.end ?_
      refine NE.blk ?_
      refine NE.code ?_
      refine CE.region ?_
      refine WL.det (op_move rfl) rfl rfl rfl ?_
      refine WL.det (op_add (r := ((i + 1 : Nat) : Int)) rfl rfl (w_i64 (by omega) (by omega))) rfl rfl rfl ?_
      refine WL.det (op_assign rfl) rfl rfl rfl ?_
      refine WL.end ?_
      exact NE.again ((i + 1), ((max mo (cu - (1 : Int)))), ((cu - (1 : Int)))) (⟨rfl, rfl, rfl, rfl, rfl, rfl, trivial⟩) ⟨(by omega), (by first | (rw [most_s, cur_2 (by assumption), hm, hc]; done) | (rw [most_s, cur_1 (by assumption), hm, hc]; done)), (by first | (rw [cur_2 (by assumption), hc]; done) | (rw [cur_1 (by assumption), hc]; done)), m3⟩ (by first | (dsimp only; omega) | omega)
  · have hp1 := of_decide_eq_false hb1
    refine CE.cond_f rfl hb1 ?_
    refine CE.exit' ?_
    refine XE.exit_then ?_
    refine XE.exit_then ?_
    refine XE.exit_here ?_
    refine NE.code ?_
    refine CE.seq ?_
    refine CE.region ?_
    refine WL.det (op_move rfl) rfl rfl rfl ?_
    refine WL.det (op_assign rfl) rfl rfl rfl ?_
    refine WL.det (op_assign rfl) rfl rfl rfl ?_
    refine WL.end ?_
    refine NE.code ?_
    refine CE.ret' ?_
    refine XE.leaveT Tryd.results22 (res_tmp rfl (res_tmp rfl res_nil)) ?_
    refine ⟨?_, ((((Mod.refl [] w).nt m1).nt m2).nt m3)⟩
    all_goals (have e9 : i = nE := (by omega); rw [hm, e9])

set_option maxRecDepth 100000 in
set_option maxHeartbeats 2000000 in
theorem c_sMost_inv (ra : Nat) (ba : Nat) (oc : Nat) (nD : Nat) (bD : Nat) (esD : List Nat) (nI : Nat) (bI : Nat) (esI : List InR) (nE : Nat) (bE : Nat) (es : List EvR) (lnD : esD.length = nD) (lnI : esI.length = nI) (lnE : es.length = nE) (hnD : nD ≤ 1048576) (hnI : nI ≤ 1048576) (hnE : nE ≤ 1048576) (hS : ∀ i, (esI.getD i InR.d).name.size ≤ 9223372036854775807) (hW : ∀ i, EvW (es.getD i EvR.d)) (hv : vScS ra ba oc esD nD esI nI es nE = false) (w : World) (rD : Rng w bD 0 (fl esD)) (rI : Rng w bI 0 (cat InR.cells esI)) (rE : Rng w bE 0 (cat EvR.cells es)) : Cl Tryd.prog 22 #[.agg #[vF ra, vF ba, vF oc, vS bD 0 nD nD, vS bI 0 nI nI, vS bE 0 nE nE]] w fun v w' => v = .tuple #[vI 0, vI 1] ∧ Mod [] w w' := by
  refine Cl.of Tryd.func22 Tryd.ntmps22 rfl rfl (ρ := [(0, .agg #[vF ra, vF ba, vF oc, vS bD 0 nD nD, vS bI 0 nI nI, vS bE 0 nE nE])]) rfl ?_
  refine CE.seq ?_
  refine CE.region ?_
  refine WL.op (op_box (cs := [vF ra, vF ba, vF oc, vS bD 0 nD nD, vS bI 0 nI nI, vS bE 0 nE nE]) rfl rfl) rfl rfl (ltb rfl) ?_
  rintro _ w1 ⟨rfl, r1, m1, z1⟩
  refine WL.det (op_assign rfl) rfl rfl rfl ?_
  refine WL.det (op_assign rfl) rfl rfl rfl ?_
  refine WL.end ?_
  refine NE.code ?_
  refine CE.seq ?_
  refine CE.seq ?_
  refine CE.region ?_
  refine WL.call (oc_call (vs := [vP w.heap.size 0]) (cap := []) rfl rfl rfl Tryd.call39 (c_l08Ok ra ba oc nD bD esD nI bI esI nE bE es w.heap.size lnD lnI lnE (by omega) (by omega) (by omega) (by assumption) (by assumption) w1 r1.rng (rD.ext m1) (rI.ext m1) (rE.ext m1))) rfl rfl (ltb rfl) ?_
  rintro _ w2 ⟨rfl, m2⟩
  refine WL.det (op_not rfl) rfl rfl rfl ?_
  refine WL.end ?_
  refine NE.code ?_
  refine CE.cond_t rfl (bnot_f hv) ?_
  refine CE.seq ?_
  refine CE.region ?_
  refine WL.det (op_assign rfl) rfl rfl rfl ?_
  refine WL.det (op_assign rfl) rfl rfl rfl ?_
  refine WL.end ?_
  refine NE.code ?_
  refine CE.ret' ?_
  refine XE.ret_then ?_
  refine XE.leaveT Tryd.results22 (res_tmp rfl (res_tmp rfl res_nil)) ?_
  refine ⟨rfl, (((Mod.refl [] w).nt m1).nt m2)⟩

set_option maxRecDepth 100000 in
set_option maxHeartbeats 2000000 in
theorem c_iNotesOf (ra : Nat) (ba : Nat) (oc : Nat) (nD : Nat) (bD : Nat) (esD : List Nat) (nI : Nat) (bI : Nat) (esI : List InR) (nE : Nat) (bE : Nat) (es : List EvR) (lnD : esD.length = nD) (lnI : esI.length = nI) (lnE : es.length = nE) (hnD : nD ≤ 1048576) (hnI : nI ≤ 1048576) (hnE : nE ≤ 1048576) (hS : ∀ i, (esI.getD i InR.d).name.size ≤ 9223372036854775807) (hW : ∀ i, EvW (es.getD i EvR.d)) (hv : vScS ra ba oc esD nD esI nI es nE = true) (w : World) (rD : Rng w bD 0 (fl esD)) (rI : Rng w bI 0 (cat InR.cells esI)) (rE : Rng w bE 0 (cat EvR.cells es)) : Cl Tryd.prog 19 #[.agg #[vF ra, vF ba, vF oc, vS bD 0 nD nD, vS bI 0 nI nI, vS bE 0 nE nE]] w fun v w' => v = .tuple #[vI (((nE / 2) : Nat) : Int), vI 0] ∧ Mod [] w w' := by
  refine Cl.of Tryd.func19 Tryd.ntmps19 rfl rfl (ρ := [(0, .agg #[vF ra, vF ba, vF oc, vS bD 0 nD nD, vS bI 0 nI nI, vS bE 0 nE nE])]) rfl ?_
  refine CE.seq ?_
  refine CE.region ?_
  refine WL.op (op_box (cs := [vF ra, vF ba, vF oc, vS bD 0 nD nD, vS bI 0 nI nI, vS bE 0 nE nE]) rfl rfl) rfl rfl (ltb rfl) ?_
  rintro _ w1 ⟨rfl, r1, m1, z1⟩
  refine WL.det (op_assign rfl) rfl rfl rfl ?_
  refine WL.det (op_assign rfl) rfl rfl rfl ?_
  refine WL.end ?_
  refine NE.code ?_
  refine CE.seq ?_
  refine CE.seq ?_
  refine CE.region ?_
  refine WL.det (op_loadA (i := 0) (cs := [vF ra, vF ba, vF oc, vS bD 0 nD nD, vS bI 0 nI nI, vS bE 0 nE nE]) rfl Tryd.isAgg43 Tryd.sizeOf43 r1.rng rfl rfl rfl) rfl rfl rfl ?_
  refine WL.call (oc_call (vs := [.agg #[vF ra, vF ba, vF oc, vS bD 0 nD nD, vS bI 0 nI nI, vS bE 0 nE nE]]) (cap := []) rfl rfl rfl Tryd.call16 (c_iValidS ra ba oc nD bD esD nI bI esI nE bE es lnD lnI lnE (by omega) (by omega) (by omega) (by assumption) (by assumption) w1 (rD.ext m1) (rI.ext m1) (rE.ext m1))) rfl rfl (ltb rfl) ?_
  rintro _ w2 ⟨rfl, m2⟩
  refine WL.det (op_not rfl) rfl rfl rfl ?_
  refine WL.end ?_
  refine NE.code ?_
  refine CE.cond_f rfl (bnot_t hv) ?_
  refine CE.skip' ?_
  refine NE.code ?_
  refine CE.seq ?_
  refine CE.region ?_
  refine WL.det (op_fieldAddr (off' := 5) rfl Tryd.runUnderlying43 rfl rfl Tryd.sizeOf41 rfl) rfl rfl rfl ?_
  refine WL.det (op_load1 (i := 5) rfl Tryd.isAgg41 (r1.ext m2).rng rfl rfl) rfl rfl rfl ?_
  refine WL.call (oc_call (vs := [vS bE 0 nE nE]) (cap := []) rfl rfl rfl Tryd.call46 (c_lengthE nE nE (some ⟨bE, 0, none⟩) w2)) rfl rfl (ltb rfl) ?_
  rintro _ _ ⟨rfl, rfl⟩
  refine WL.det (op_quo (r := ((nE / 2 : Nat) : Int)) rfl rfl (by omega) (quo_nat (by omega))) rfl rfl rfl ?_
  refine WL.det (op_assign rfl) rfl rfl rfl ?_
  refine WL.det (op_assign rfl) rfl rfl rfl ?_
  refine WL.end ?_
  refine NE.code ?_
  refine CE.ret' ?_
  refine XE.leaveT Tryd.results19 (res_tmp rfl (res_tmp rfl res_nil)) ?_
  refine ⟨?_, (((Mod.refl [] w).nt m1).nt m2)⟩
  all_goals first | assumption | rfl

set_option maxRecDepth 100000 in
set_option maxHeartbeats 2000000 in
theorem c_iNotesOf_inv (ra : Nat) (ba : Nat) (oc : Nat) (nD : Nat) (bD : Nat) (esD : List Nat) (nI : Nat) (bI : Nat) (esI : List InR) (nE : Nat) (bE : Nat) (es : List EvR) (lnD : esD.length = nD) (lnI : esI.length = nI) (lnE : es.length = nE) (hnD : nD ≤ 1048576) (hnI : nI ≤ 1048576) (hnE : nE ≤ 1048576) (hS : ∀ i, (esI.getD i InR.d).name.size ≤ 9223372036854775807) (hW : ∀ i, EvW (es.getD i EvR.d)) (hv : vScS ra ba oc esD nD esI nI es nE = false) (w : World) (rD : Rng w bD 0 (fl esD)) (rI : Rng w bI 0 (cat InR.cells esI)) (rE : Rng w bE 0 (cat EvR.cells es)) : Cl Tryd.prog 19 #[.agg #[vF ra, vF ba, vF oc, vS bD 0 nD nD, vS bI 0 nI nI, vS bE 0 nE nE]] w fun v w' => v = .tuple #[vI 0, vI 1] ∧ Mod [] w w' := by
  refine Cl.of Tryd.func19 Tryd.ntmps19 rfl rfl (ρ := [(0, .agg #[vF ra, vF ba, vF oc, vS bD 0 nD nD, vS bI 0 nI nI, vS bE 0 nE nE])]) rfl ?_
  refine CE.seq ?_
  refine CE.region ?_
  refine WL.op (op_box (cs := [vF ra, vF ba, vF oc, vS bD 0 nD nD, vS bI 0 nI nI, vS bE 0 nE nE]) rfl rfl) rfl rfl (ltb rfl) ?_
  rintro _ w1 ⟨rfl, r1, m1, z1⟩
  refine WL.det (op_assign rfl) rfl rfl rfl ?_
  refine WL.det (op_assign rfl) rfl rfl rfl ?_
  refine WL.end ?_
  refine NE.code ?_
  refine CE.seq ?_
  refine CE.seq ?_
  refine CE.region ?_
  refine WL.det (op_loadA (i := 0) (cs := [vF ra, vF ba, vF oc, vS bD 0 nD nD, vS bI 0 nI nI, vS bE 0 nE nE]) rfl Tryd.isAgg43 Tryd.sizeOf43 r1.rng rfl rfl rfl) rfl rfl rfl ?_
  refine WL.call (oc_call (vs := [.agg #[vF ra, vF ba, vF oc, vS bD 0 nD nD, vS bI 0 nI nI, vS bE 0 nE nE]]) (cap := []) rfl rfl rfl Tryd.call16 (c_iValidS ra ba oc nD bD esD nI bI esI nE bE es lnD lnI lnE (by omega) (by omega) (by omega) (by assumption) (by assumption) w1 (rD.ext m1) (rI.ext m1) (rE.ext m1))) rfl rfl (ltb rfl) ?_
  rintro _ w2 ⟨rfl, m2⟩
  refine WL.det (op_not rfl) rfl rfl rfl ?_
  refine WL.end ?_
  refine NE.code ?_
  refine CE.cond_t rfl (bnot_f hv) ?_
  refine CE.seq ?_
  refine CE.region ?_
  refine WL.det (op_assign rfl) rfl rfl rfl ?_
  refine WL.det (op_assign rfl) rfl rfl rfl ?_
  refine WL.end ?_
  refine NE.code ?_
  refine CE.ret' ?_
  refine XE.ret_then ?_
  refine XE.leaveT Tryd.results19 (res_tmp rfl (res_tmp rfl res_nil)) ?_
  refine ⟨rfl, (((Mod.refl [] w).nt m1).nt m2)⟩

set_option maxRecDepth 100000 in
set_option maxHeartbeats 2000000 in
theorem c_iEnd (ra : Nat) (ba : Nat) (oc : Nat) (nD : Nat) (bD : Nat) (esD : List Nat) (nI : Nat) (bI : Nat) (esI : List InR) (nE : Nat) (bE : Nat) (es : List EvR) (lnD : esD.length = nD) (lnI : esI.length = nI) (lnE : es.length = nE) (hnD : nD ≤ 1048576) (hnI : nI ≤ 1048576) (hnE : nE ≤ 1048576) (hS : ∀ i, (esI.getD i InR.d).name.size ≤ 9223372036854775807) (hW : ∀ i, EvW (es.getD i EvR.d)) (hv : vScS ra ba oc esD nD esI nI es nE = true) (w : World) (rD : Rng w bD 0 (fl esD)) (rI : Rng w bI 0 (cat InR.cells esI)) (rE : Rng w bE 0 (cat EvR.cells es)) : Cl Tryd.prog 21 #[.agg #[vF ra, vF ba, vF oc, vS bD 0 nD nD, vS bI 0 nI nI, vS bE 0 nE nE]] w fun v w' => v = .tuple #[vI (endF es nE), vI 0] ∧ Mod [] w w' := by
  refine Cl.of Tryd.func21 Tryd.ntmps21 rfl rfl (ρ := [(0, .agg #[vF ra, vF ba, vF oc, vS bD 0 nD nD, vS bI 0 nI nI, vS bE 0 nE nE])]) rfl ?_
  refine CE.seq ?_
  refine CE.region ?_
  refine WL.op (op_box (cs := [vF ra, vF ba, vF oc, vS bD 0 nD nD, vS bI 0 nI nI, vS bE 0 nE nE]) rfl rfl) rfl rfl (ltb rfl) ?_
  rintro _ w1 ⟨rfl, r1, m1, z1⟩
  refine WL.det (op_assign rfl) rfl rfl rfl ?_
  refine WL.det (op_assign rfl) rfl rfl rfl ?_
  refine WL.end ?_
  refine NE.code ?_
  refine CE.seq ?_
  refine CE.seq ?_
  refine CE.region ?_
  refine WL.det (op_loadA (i := 0) (cs := [vF ra, vF ba, vF oc, vS bD 0 nD nD, vS bI 0 nI nI, vS bE 0 nE nE]) rfl Tryd.isAgg43 Tryd.sizeOf43 r1.rng rfl rfl rfl) rfl rfl rfl ?_
  refine WL.call (oc_call (vs := [.agg #[vF ra, vF ba, vF oc, vS bD 0 nD nD, vS bI 0 nI nI, vS bE 0 nE nE]]) (cap := []) rfl rfl rfl Tryd.call16 (c_iValidS ra ba oc nD bD esD nI bI esI nE bE es lnD lnI lnE (by omega) (by omega) (by omega) (by assumption) (by assumption) w1 (rD.ext m1) (rI.ext m1) (rE.ext m1))) rfl rfl (ltb rfl) ?_
  rintro _ w2 ⟨rfl, m2⟩
  refine WL.det (op_not rfl) rfl rfl rfl ?_
  refine WL.end ?_
  refine NE.code ?_
  refine CE.cond_f rfl (bnot_t hv) ?_
  refine CE.skip' ?_
  refine NE.code ?_
  refine CE.seq ?_
  refine CE.seq ?_
  refine CE.region ?_
  refine WL.det (op_fieldAddr (off' := 5) rfl Tryd.runUnderlying43 rfl rfl Tryd.sizeOf41 rfl) rfl rfl rfl ?_
  refine WL.det (op_load1 (i := 5) rfl Tryd.isAgg41 (r1.ext m2).rng rfl rfl) rfl rfl rfl ?_
  refine WL.det (op_len rfl Tryd.runUnderlying41) rfl rfl rfl ?_
  refine WL.det (op_eqi rfl rfl) rfl rfl rfl ?_
  refine WL.end ?_
  refine NE.code ?_
  rcases Bool.eq_false_or_eq_true ((((nE : Nat) : Int) == (0 : Int))) with hb1 | hb1
  · have hp1 := eq_of_beq hb1
    refine CE.cond_t rfl hb1 ?_
    refine CE.seq ?_
    refine CE.region ?_
    refine WL.det (op_assign rfl) rfl rfl rfl ?_
    refine WL.det (op_assign rfl) rfl rfl rfl ?_
    refine WL.end ?_
    refine NE.code ?_
    refine CE.ret' ?_
    refine XE.ret_then ?_
    refine XE.leaveT Tryd.results21 (res_tmp rfl (res_tmp rfl res_nil)) ?_
    refine ⟨?_, (((Mod.refl [] w).nt m1).nt m2)⟩
    all_goals first | exact congrArg (fun z => Value.tuple #[vI z, vI 0]) (by unfold endF; first | (rw [if_pos (by omega)]; done) | rw [if_neg (by omega)])
  · have hp1 := ne_of_beq_false hb1
    refine CE.cond_f rfl hb1 ?_
    refine CE.skip' ?_
    refine NE.code ?_
    refine CE.seq ?_
    refine CE.region ?_
    refine WL.det (op_fieldAddr (off' := 5) rfl Tryd.runUnderlying43 rfl rfl Tryd.sizeOf41 rfl) rfl rfl rfl ?_
    refine WL.det (op_load1 (i := 5) rfl Tryd.isAgg41 (r1.ext m2).rng rfl rfl) rfl rfl rfl ?_
    refine WL.det (op_fieldAddr (off' := 5) rfl Tryd.runUnderlying43 rfl rfl Tryd.sizeOf41 rfl) rfl rfl rfl ?_
    refine WL.det (op_load1 (i := 5) rfl Tryd.isAgg41 (r1.ext m2).rng rfl rfl) rfl rfl rfl ?_
    refine WL.det (op_len rfl Tryd.runUnderlying41) rfl rfl rfl ?_
    refine WL.det (op_sub (r := ((nE - 1 : Nat) : Int)) rfl rfl (w_nsub (l := nE) (n := 1) (by omega) (by omega))) rfl rfl rfl ?_
    refine WL.det (op_indexSl (off' := 0 + (nE - 1) * 6) rfl rfl rfl Tryd.runUnderlying41 Tryd.sizeOf72 (by omega) (by omega) (by omega)) rfl rfl rfl ?_
    refine WL.det (op_fieldAddr (off' := 0 + (nE - 1) * 6) rfl Tryd.runUnderlying72 rfl rfl Tryd.sizeOf2 rfl) rfl rfl rfl ?_
    refine WL.det (op_load1 (i := (nE - 1) * 6) rfl Tryd.isAgg2 ((rE.ext m1).ext m2) rfl (cat_get0 (f := EvR.cells) (m := 6) (i := (nE - 1)) (d := EvR.d) (fun _ => rfl) (by have eL : List.length es = nE := lnE; omega) rfl)) rfl rfl rfl ?_
    refine WL.det (op_assign rfl) rfl rfl rfl ?_
    refine WL.det (op_assign rfl) rfl rfl rfl ?_
    refine WL.end ?_
    refine NE.code ?_
    refine CE.ret' ?_
    refine XE.leaveT Tryd.results21 (res_tmp rfl (res_tmp rfl res_nil)) ?_
    refine ⟨?_, (((Mod.refl [] w).nt m1).nt m2)⟩
    all_goals first | exact congrArg (fun z => Value.tuple #[vI z, vI 0]) (by unfold endF; first | (rw [if_pos (by omega)]; done) | rw [if_neg (by omega)])

set_option maxRecDepth 100000 in
set_option maxHeartbeats 2000000 in
theorem c_iEnd_inv (ra : Nat) (ba : Nat) (oc : Nat) (nD : Nat) (bD : Nat) (esD : List Nat) (nI : Nat) (bI : Nat) (esI : List InR) (nE : Nat) (bE : Nat) (es : List EvR) (lnD : esD.length = nD) (lnI : esI.length = nI) (lnE : es.length = nE) (hnD : nD ≤ 1048576) (hnI : nI ≤ 1048576) (hnE : nE ≤ 1048576) (hS : ∀ i, (esI.getD i InR.d).name.size ≤ 9223372036854775807) (hW : ∀ i, EvW (es.getD i EvR.d)) (hv : vScS ra ba oc esD nD esI nI es nE = false) (w : World) (rD : Rng w bD 0 (fl esD)) (rI : Rng w bI 0 (cat InR.cells esI)) (rE : Rng w bE 0 (cat EvR.cells es)) : Cl Tryd.prog 21 #[.agg #[vF ra, vF ba, vF oc, vS bD 0 nD nD, vS bI 0 nI nI, vS bE 0 nE nE]] w fun v w' => v = .tuple #[vI 0, vI 1] ∧ Mod [] w w' := by
  refine Cl.of Tryd.func21 Tryd.ntmps21 rfl rfl (ρ := [(0, .agg #[vF ra, vF ba, vF oc, vS bD 0 nD nD, vS bI 0 nI nI, vS bE 0 nE nE])]) rfl ?_
  refine CE.seq ?_
  refine CE.region ?_
  refine WL.op (op_box (cs := [vF ra, vF ba, vF oc, vS bD 0 nD nD, vS bI 0 nI nI, vS bE 0 nE nE]) rfl rfl) rfl rfl (ltb rfl) ?_
  rintro _ w1 ⟨rfl, r1, m1, z1⟩
  refine WL.det (op_assign rfl) rfl rfl rfl ?_
  refine WL.det (op_assign rfl) rfl rfl rfl ?_
  refine WL.end ?_
  refine NE.code ?_
  refine CE.seq ?_
  refine CE.seq ?_
  refine CE.region ?_
  refine WL.det (op_loadA (i := 0) (cs := [vF ra, vF ba, vF oc, vS bD 0 nD nD, vS bI 0 nI nI, vS bE 0 nE nE]) rfl Tryd.isAgg43 Tryd.sizeOf43 r1.rng rfl rfl rfl) rfl rfl rfl ?_
  refine WL.call (oc_call (vs := [.agg #[vF ra, vF ba, vF oc, vS bD 0 nD nD, vS bI 0 nI nI, vS bE 0 nE nE]]) (cap := []) rfl rfl rfl Tryd.call16 (c_iValidS ra ba oc nD bD esD nI bI esI nE bE es lnD lnI lnE (by omega) (by omega) (by omega) (by assumption) (by assumption) w1 (rD.ext m1) (rI.ext m1) (rE.ext m1))) rfl rfl (ltb rfl) ?_
  rintro _ w2 ⟨rfl, m2⟩
  refine WL.det (op_not rfl) rfl rfl rfl ?_
  refine WL.end ?_
  refine NE.code ?_
  refine CE.cond_t rfl (bnot_f hv) ?_
  refine CE.seq ?_
  refine CE.region ?_
  refine WL.det (op_assign rfl) rfl rfl rfl ?_
  refine WL.det (op_assign rfl) rfl rfl rfl ?_
  refine WL.end ?_
  refine NE.code ?_
  refine CE.ret' ?_
  refine XE.ret_then ?_
  refine XE.leaveT Tryd.results21 (res_tmp rfl (res_tmp rfl res_nil)) ?_
  refine ⟨rfl, (((Mod.refl [] w).nt m1).nt m2)⟩

set_option maxRecDepth 100000 in
set_option maxHeartbeats 2000000 in
theorem c_iMost (ra : Nat) (ba : Nat) (oc : Nat) (nD : Nat) (bD : Nat) (esD : List Nat) (nI : Nat) (bI : Nat) (esI : List InR) (nE : Nat) (bE : Nat) (es : List EvR) (lnD : esD.length = nD) (lnI : esI.length = nI) (lnE : es.length = nE) (hnD : nD ≤ 1048576) (hnI : nI ≤ 1048576) (hnE : nE ≤ 1048576) (hS : ∀ i, (esI.getD i InR.d).name.size ≤ 9223372036854775807) (hW : ∀ i, EvW (es.getD i EvR.d)) (hv : vScS ra ba oc esD nD esI nI es nE = true) (w : World) (rD : Rng w bD 0 (fl esD)) (rI : Rng w bI 0 (cat InR.cells esI)) (rE : Rng w bE 0 (cat EvR.cells es)) : Cl Tryd.prog 23 #[.agg #[vF ra, vF ba, vF oc, vS bD 0 nD nD, vS bI 0 nI nI, vS bE 0 nE nE]] w fun v w' => v = .tuple #[vI (mostF es nE), vI 0] ∧ Mod [] w w' := by
  refine Cl.of Tryd.func23 Tryd.ntmps23 rfl rfl (ρ := [(0, .agg #[vF ra, vF ba, vF oc, vS bD 0 nD nD, vS bI 0 nI nI, vS bE 0 nE nE])]) rfl ?_
  refine CE.seq ?_
  refine CE.region ?_
  refine WL.op (op_box (cs := [vF ra, vF ba, vF oc, vS bD 0 nD nD, vS bI 0 nI nI, vS bE 0 nE nE]) rfl rfl) rfl rfl (ltb rfl) ?_
  rintro _ w1 ⟨rfl, r1, m1, z1⟩
  refine WL.det (op_assign rfl) rfl rfl rfl ?_
  refine WL.det (op_assign rfl) rfl rfl rfl ?_
  refine WL.end ?_
  refine NE.code ?_
  refine CE.seq ?_
  refine CE.seq ?_
  refine CE.region ?_
  refine WL.det (op_loadA (i := 0) (cs := [vF ra, vF ba, vF oc, vS bD 0 nD nD, vS bI 0 nI nI, vS bE 0 nE nE]) rfl Tryd.isAgg43 Tryd.sizeOf43 r1.rng rfl rfl rfl) rfl rfl rfl ?_
  refine WL.call (oc_call (vs := [.agg #[vF ra, vF ba, vF oc, vS bD 0 nD nD, vS bI 0 nI nI, vS bE 0 nE nE]]) (cap := []) rfl rfl rfl Tryd.call16 (c_iValidS ra ba oc nD bD esD nI bI esI nE bE es lnD lnI lnE (by omega) (by omega) (by omega) (by assumption) (by assumption) w1 (rD.ext m1) (rI.ext m1) (rE.ext m1))) rfl rfl (ltb rfl) ?_
  rintro _ w2 ⟨rfl, m2⟩
  refine WL.det (op_not rfl) rfl rfl rfl ?_
  refine WL.end ?_
  refine NE.code ?_
  refine CE.cond_f rfl (bnot_t hv) ?_
  refine CE.skip' ?_
  refine NE.code ?_
  refine CE.seq ?_
  refine CE.region ?_
  refine WL.det (op_assign rfl) rfl rfl rfl ?_
  refine WL.det (op_assign rfl) rfl rfl rfl ?_
  refine WL.end ?_
  refine NE.code ?_
  refine CE.seq ?_
  refine CE.seq ?_
  refine CE.region ?_
  refine WL.det (op_fieldAddr (off' := 5) rfl Tryd.runUnderlying43 rfl rfl Tryd.sizeOf41 rfl) rfl rfl rfl ?_
  refine WL.det (op_load1 (i := 5) rfl Tryd.isAgg41 (r1.ext m2).rng rfl rfl) rfl rfl rfl ?_
  refine WL.det (op_len rfl Tryd.runUnderlying41) rfl rfl rfl ?_
  refine WL.det (op_move rfl) rfl rfl rfl ?_
  refine WL.end ?_
  refine NE.code ?_
  refine CE.block ?_
  refine CE.loop (fun (z : Nat × Int × Int) => [(14, vI ((z.1 : Nat) : Int)), (4, vI z.2.1), (5, vI z.2.2), (2, vI 0), (3, vI 0), (12, vS bE 0 nE nE), (13, vI ((nE : Nat) : Int))]) (fun (z : Nat × Int × Int) => fun W => (z.1 ≤ nE) ∧ (z.2.1 = mostF es z.1) ∧ (z.2.2 = curF es z.1) ∧ Mod [] w2 W) (fun (z : Nat × Int × Int) => nE - z.1) (0, 0, 0) (⟨rfl, rfl, rfl, rfl, rfl, rfl, rfl, trivial⟩) ⟨(by omega), (by rfl), (by rfl), Mod.refl _ _⟩ ?_
  rintro ⟨i, mo, cu⟩ w3 ⟨hi, hm, hc, m3⟩
  replace hi : i ≤ nE := hi
  replace hm : mo = mostF es i := hm
  replace hc : cu = curF es i := hc
  have hb8 := cur_le es i
  have hb9 := hc
  show CE _ _ _ _ [(14, vI ((i : Nat) : Int)), (4, vI mo), (5, vI cu), (2, vI 0), (3, vI 0), (12, vS bE 0 nE nE), (13, vI ((nE : Nat) : Int))] _
  refine CE.seq ?_
  refine CE.region ?_
  refine WL.det (op_lti rfl rfl) rfl rfl rfl ?_
  refine WL.end ?_
  refine NE.code ?_
  refine CE.seq ?_
  rcases Bool.eq_false_or_eq_true (decide (((i : Nat) : Int) < ((nE : Nat) : Int))) with hb1 | hb1
  · have hp1 := of_decide_eq_true hb1
    refine CE.cond_t rfl hb1 ?_
    refine CE.skip' ?_
    refine NE.code ?_
    refine CE.seq ?_
    refine CE.block ?_
    refine CE.seq ?_
    refine CE.region ?_
    refine WL.det (op_indexSl (off' := 0 + i * 6) rfl rfl rfl Tryd.runUnderlying41 Tryd.sizeOf72 (by omega) (by omega) (by omega)) rfl rfl rfl ?_
    refine WL.det (op_loadA (i := i * 6) (cs := [vI ((es.getD i EvR.d).at_), vI ((es.getD i EvR.d).kind), vI ((es.getD i EvR.d).note), vI ((es.getD i EvR.d).ins), vI ((es.getD i EvR.d).key), vF ((es.getD i EvR.d).force)]) rfl Tryd.isAgg72 Tryd.sizeOf72 (((rE.ext m1).ext m2).ext m3) rfl (cat_at (f := EvR.cells) (m := 6) (i := i) (d := EvR.d) (fun _ => rfl) (by have eL : List.length es = nE := lnE; omega)) rfl) rfl rfl rfl ?_
    refine WL.op (op_alloc (cs := [vI 0, vI 0, vI 0, vI 0, vI 0, vF 0]) Tryd.zeroValue72 rfl) rfl rfl (ltb rfl) ?_
    rintro _ w4 ⟨rfl, r2, m4, z2⟩
    refine WL.op0 (op_store (i := 0) (cs := [vI ((es.getD i EvR.d).at_), vI ((es.getD i EvR.d).kind), vI ((es.getD i EvR.d).note), vI ((es.getD i EvR.d).ins), vI ((es.getD i EvR.d).key), vF ((es.getD i EvR.d).force)]) rfl rfl rfl Tryd.sizeOf72 rfl r2 rfl (lB rfl) rfl) rfl rfl ?_
    rintro _ w5 ⟨r3, m5, z3⟩
    have r4 : Row w5 w3.heap.size 0 [vI ((es.getD i EvR.d).at_), vI ((es.getD i EvR.d).kind), vI ((es.getD i EvR.d).note), vI ((es.getD i EvR.d).ins), vI ((es.getD i EvR.d).key), vF ((es.getD i EvR.d).force)] := Row.congr r3 rfl
    refine WL.end ?_
    refine NE.code ?_
    refine CE.seq ?_
    refine CE.seq ?_
    refine CE.region ?_
    refine WL.det (op_fieldAddr (off' := 1) rfl Tryd.runUnderlying72 rfl rfl Tryd.sizeOf2 rfl) rfl rfl rfl ?_
    refine WL.det (op_load1 (i := 1) rfl Tryd.isAgg2 r4.rng rfl rfl) rfl rfl rfl ?_
    refine WL.det (op_eqi rfl rfl) rfl rfl rfl ?_
    refine WL.end ?_
    refine NE.code ?_
    rcases Bool.eq_false_or_eq_true ((((es.getD i EvR.d).kind) == (2 : Int))) with hb2 | hb2
    · have hp2 := eq_of_beq hb2
      refine CE.cond_t rfl hb2 ?_
      refine CE.region ?_
      refine WL.det (op_move rfl) rfl rfl rfl ?_
      refine WL.det (op_add (r := (cu + (1 : Int))) rfl rfl (w_i64 (by omega) (by omega))) rfl rfl rfl ?_
      refine WL.det (op_assign rfl) rfl rfl rfl ?_
      refine WL.end ?_
      refine NE.code ?_
      refine CE.region ?_
      refine WL.det (op_move rfl) rfl rfl rfl ?_
      refine WL.det (op_move rfl) rfl rfl rfl ?_
      refine WL.det (op_maxI rfl rfl) rfl rfl rfl ?_
      refine WL.det (op_assign rfl) rfl rfl rfl ?_
      refine WL.end ?_
      refine NE.blk ?_
      refine NE.code ?_
      refine CE.region ?_
      refine WL.det (op_add (r := ((i + 1 : Nat) : Int)) rfl rfl (w_i64 (by omega) (by omega))) rfl rfl rfl ?_
      refine WL.det (op_move rfl) rfl rfl rfl ?_
      refine WL.end ?_
      exact NE.again ((i + 1), ((max mo (cu + (1 : Int)))), ((cu + (1 : Int)))) (⟨rfl, rfl, rfl, rfl, rfl, rfl, rfl, trivial⟩) ⟨(by omega), (by first | (rw [most_s, cur_2 (by assumption), hm, hc]; done) | (rw [most_s, cur_1 (by assumption), hm, hc]; done)), (by first | (rw [cur_2 (by assumption), hc]; done) | (rw [cur_1 (by assumption), hc]; done)), ((m3.nt m4).then m5 ((aC (.inr (lT m3.size lR)) aN)))⟩ (by first | (dsimp only; omega) | omega)
    · have hp2 := ne_of_beq_false hb2
      refine CE.cond_f rfl hb2 ?_
      refine CE.region ?_
      refine WL.det (op_move rfl) rfl rfl rfl ?_
      refine WL.det (op_sub (r := (cu - (1 : Int))) rfl rfl (w_i64 (by omega) (by omega))) rfl rfl rfl ?_
      refine WL.det (op_assign rfl) rfl rfl rfl ?_
      refine WL.end ?_
      refine NE.code ?_
      refine CE.region ?_
      refine WL.det (op_move rfl) rfl rfl rfl ?_
      refine WL.det (op_move rfl) rfl rfl rfl ?_
      refine WL.det (op_maxI rfl rfl) rfl rfl rfl ?_
      refine WL.det (op_assign rfl) rfl rfl rfl ?_
      refine WL.end ?_
      refine NE.blk ?_
      refine NE.code ?_
      refine CE.region ?_
      refine WL.det (op_add (r := ((i + 1 : Nat) : Int)) rfl rfl (w_i64 (by omega) (by omega))) rfl rfl rfl ?_
      refine WL.det (op_move rfl) rfl rfl rfl ?_
      refine WL.end ?_
      exact NE.again ((i + 1), ((max mo (cu - (1 : Int)))), ((cu - (1 : Int)))) (⟨rfl, rfl, rfl, rfl, rfl, rfl, rfl, trivial⟩) ⟨(by omega), (by first | (rw [most_s, cur_2 (by assumption), hm, hc]; done) | (rw [most_s, cur_1 (by assumption), hm, hc]; done)), (by first | (rw [cur_2 (by assumption), hc]; done) | (rw [cur_1 (by assumption), hc]; done)), ((m3.nt m4).then m5 ((aC (.inr (lT m3.size lR)) aN)))⟩ (by first | (dsimp only; omega) | omega)
  · have hp1 := of_decide_eq_false hb1
    refine CE.cond_f rfl hb1 ?_
    refine CE.exit' ?_
    refine XE.exit_then ?_
    refine XE.exit_then ?_
    refine XE.exit_here ?_
    refine NE.code ?_
    refine CE.seq ?_
    refine CE.region ?_
    refine WL.det (op_move rfl) rfl rfl rfl ?_
    refine WL.det (op_assign rfl) rfl rfl rfl ?_
    refine WL.det (op_assign rfl) rfl rfl rfl ?_
    refine WL.end ?_
    refine NE.code ?_
    refine CE.ret' ?_
    refine XE.leaveT Tryd.results23 (res_tmp rfl (res_tmp rfl res_nil)) ?_
    refine ⟨?_, ((((Mod.refl [] w).nt m1).nt m2).nt m3)⟩
    all_goals (have e9 : i = nE := (by omega); rw [hm, e9])

set_option maxRecDepth 100000 in
set_option maxHeartbeats 2000000 in
theorem c_iMost_inv (ra : Nat) (ba : Nat) (oc : Nat) (nD : Nat) (bD : Nat) (esD : List Nat) (nI : Nat) (bI : Nat) (esI : List InR) (nE : Nat) (bE : Nat) (es : List EvR) (lnD : esD.length = nD) (lnI : esI.length = nI) (lnE : es.length = nE) (hnD : nD ≤ 1048576) (hnI : nI ≤ 1048576) (hnE : nE ≤ 1048576) (hS : ∀ i, (esI.getD i InR.d).name.size ≤ 9223372036854775807) (hW : ∀ i, EvW (es.getD i EvR.d)) (hv : vScS ra ba oc esD nD esI nI es nE = false) (w : World) (rD : Rng w bD 0 (fl esD)) (rI : Rng w bI 0 (cat InR.cells esI)) (rE : Rng w bE 0 (cat EvR.cells es)) : Cl Tryd.prog 23 #[.agg #[vF ra, vF ba, vF oc, vS bD 0 nD nD, vS bI 0 nI nI, vS bE 0 nE nE]] w fun v w' => v = .tuple #[vI 0, vI 1] ∧ Mod [] w w' := by
  refine Cl.of Tryd.func23 Tryd.ntmps23 rfl rfl (ρ := [(0, .agg #[vF ra, vF ba, vF oc, vS bD 0 nD nD, vS bI 0 nI nI, vS bE 0 nE nE])]) rfl ?_
  refine CE.seq ?_
  refine CE.region ?_
  refine WL.op (op_box (cs := [vF ra, vF ba, vF oc, vS bD 0 nD nD, vS bI 0 nI nI, vS bE 0 nE nE]) rfl rfl) rfl rfl (ltb rfl) ?_
  rintro _ w1 ⟨rfl, r1, m1, z1⟩
  refine WL.det (op_assign rfl) rfl rfl rfl ?_
  refine WL.det (op_assign rfl) rfl rfl rfl ?_
  refine WL.end ?_
  refine NE.code ?_
  refine CE.seq ?_
  refine CE.seq ?_
  refine CE.region ?_
  refine WL.det (op_loadA (i := 0) (cs := [vF ra, vF ba, vF oc, vS bD 0 nD nD, vS bI 0 nI nI, vS bE 0 nE nE]) rfl Tryd.isAgg43 Tryd.sizeOf43 r1.rng rfl rfl rfl) rfl rfl rfl ?_
  refine WL.call (oc_call (vs := [.agg #[vF ra, vF ba, vF oc, vS bD 0 nD nD, vS bI 0 nI nI, vS bE 0 nE nE]]) (cap := []) rfl rfl rfl Tryd.call16 (c_iValidS ra ba oc nD bD esD nI bI esI nE bE es lnD lnI lnE (by omega) (by omega) (by omega) (by assumption) (by assumption) w1 (rD.ext m1) (rI.ext m1) (rE.ext m1))) rfl rfl (ltb rfl) ?_
  rintro _ w2 ⟨rfl, m2⟩
  refine WL.det (op_not rfl) rfl rfl rfl ?_
  refine WL.end ?_
  refine NE.code ?_
  refine CE.cond_t rfl (bnot_f hv) ?_
  refine CE.seq ?_
  refine CE.region ?_
  refine WL.det (op_assign rfl) rfl rfl rfl ?_
  refine WL.det (op_assign rfl) rfl rfl rfl ?_
  refine WL.end ?_
  refine NE.code ?_
  refine CE.ret' ?_
  refine XE.ret_then ?_
  refine XE.leaveT Tryd.results23 (res_tmp rfl (res_tmp rfl res_nil)) ?_
  refine ⟨rfl, (((Mod.refl [] w).nt m1).nt m2)⟩

end Go.Proofs.YtdopidalhkcefaaDoor
