/- Valid tunings and instruments. -/
import Derived.Test.YtdopidalhkcefaaDoorW1
import Derived.Test.YtdopidalhkcefaaDoorE26
set_option linter.unusedVariables false
set_option linter.unusedSimpArgs false
namespace Go.Proofs.YtdopidalhkcefaaDoor

theorem evS1_out {es : List EvR} {n m : Int} {i N : Nat} (hi : i < N) (h : stepS es n m i = false) : evS1 es n m N = false := by
  induction N with
  | zero => omega
  | succ N ih =>
    unfold evS1
    rcases Nat.lt_or_eq_of_le (Nat.le_of_lt_succ hi) with h1 | h1
    · rw [ih h1]; rfl
    · subst h1; rw [h, Bool.and_false]
theorem evS2_out {es : List EvR} {L i N : Nat} (hi : i < N) (h0 : 0 < i) (h : ordS es L i = false) : evS2 es L N = false := by
  induction N with
  | zero => omega
  | succ N ih =>
    unfold evS2
    rcases Nat.lt_or_eq_of_le (Nat.le_of_lt_succ hi) with h1 | h1
    · rw [ih h1]; rfl
    · subst h1; rw [if_neg (by omega), h, Bool.and_false]
theorem evI1_out {es : List EvR} {L : Nat} {n m : Int} {i N : Nat} (hi : i < N) (h : stepI es L n m i = false) : evI1 es L n m N = false := by
  induction N with
  | zero => omega
  | succ N ih =>
    unfold evI1
    rcases Nat.lt_or_eq_of_le (Nat.le_of_lt_succ hi) with h1 | h1
    · rw [ih h1]; rfl
    · subst h1; rw [h, Bool.and_false]
section
variable {es : List EvR} {ss : List IntR} {q i : Nat} {k z a : Int}
theorem cntK_le (k : Int) (es : List EvR) (z : Int) : ∀ i, cntK k es z i ≤ i
  | 0 => Nat.le_refl _
  | i + 1 => by
    have := cntK_le k es z i
    unfold cntK
    split <;> omega
theorem cnt_at (h : ∀ j, j < q → (ss.getD j IntR.d).v = ((cntK k es ((j : Nat) : Int) i : Nat) : Int)) (h0 : 0 ≤ z) (h1 : z < ((q : Nat) : Int)) : (ss.getD z.toNat IntR.d).v = ((cntK k es z i : Nat) : Int) := by
  have := h z.toNat (by omega)
  rwa [Int.toNat_of_nonneg h0] at this
theorem cnt_zero (j : Nat) (hj : j < q) : ((List.replicate q IntR.d).getD j IntR.d).v = ((cntK k es ((j : Nat) : Int) 0 : Nat) : Int) := by
  simp [List.getD_eq_getElem?_getD, List.getElem?_replicate, hj, cntK, IntR.d]
theorem set_at (h : ss.length = q) (h1 : z.toNat < q) : ((ss.set z.toNat ⟨a⟩).getD z.toNat IntR.d).v = a := by
  rw [List.getD_eq_getElem?_getD, List.getElem?_set_self (by omega)]; rfl
theorem cnt_set (h : ∀ j, j < q → (ss.getD j IntR.d).v = ((cntK k es ((j : Nat) : Int) i : Nat) : Int)) (hl : ss.length = q) (hk : (es.getD i EvR.d).kind = k) (h0 : 0 ≤ (es.getD i EvR.d).note) (h1 : (es.getD i EvR.d).note < ((q : Nat) : Int)) (j : Nat) (hj : j < q) :
    ((ss.set (es.getD i EvR.d).note.toNat ⟨((cntK k es (es.getD i EvR.d).note i : Nat) : Int) + (1 : Int)⟩).getD j IntR.d).v = ((cntK k es ((j : Nat) : Int) (i + 1) : Nat) : Int) := by
  have e2 : cntK k es ((j : Nat) : Int) (i + 1) = cntK k es ((j : Nat) : Int) i + (if (es.getD i EvR.d).kind = k ∧ (es.getD i EvR.d).note = ((j : Nat) : Int) then 1 else 0) := rfl
  rw [e2]
  by_cases e : (es.getD i EvR.d).note.toNat = j
  · subst e
    rw [set_at hl (by omega), Int.toNat_of_nonneg h0, if_pos ⟨hk, rfl⟩, Int.natCast_add]; rfl
  · rw [List.getD_eq_getElem?_getD, List.getElem?_set_ne e, ← List.getD_eq_getElem?_getD, h j hj, if_neg (by omega)]; omega
theorem cnt_keep (h : ∀ j, j < q → (ss.getD j IntR.d).v = ((cntK k es ((j : Nat) : Int) i : Nat) : Int)) (hk : (es.getD i EvR.d).kind ≠ k) (j : Nat) (hj : j < q) : (ss.getD j IntR.d).v = ((cntK k es ((j : Nat) : Int) (i + 1) : Nat) : Int) := by
  have e2 : cntK k es ((j : Nat) : Int) (i + 1) = cntK k es ((j : Nat) : Int) i + (if (es.getD i EvR.d).kind = k ∧ (es.getD i EvR.d).note = ((j : Nat) : Int) then 1 else 0) := rfl
  rw [e2, h j hj, if_neg (fun e => hk e.1)]; omega
variable {n m : Int}
theorem stepS_2 (k : (es.getD i EvR.d).kind = 2) (a : vIn (es.getD i EvR.d).at_ (0 : Int) (100000 : Int) = true) (b : vIn (es.getD i EvR.d).note (0 : Int) (n - (1 : Int)) = true) (c1 : cntK 1 es (es.getD i EvR.d).note i = 0) (d : vIn (es.getD i EvR.d).ins (0 : Int) (m - (1 : Int)) = true) (e : vIn (es.getD i EvR.d).key (-100 : Int) (100 : Int) = true) (f : finF (es.getD i EvR.d).force = true) (c2 : cntK 2 es (es.getD i EvR.d).note i = 0) : stepS es n m i = true := by
  unfold stepS
  rw [if_pos k, a, b, c1, c2, d, e, f]; rfl
theorem stepS_1 (k : (es.getD i EvR.d).kind = 1) (a : vIn (es.getD i EvR.d).at_ (0 : Int) (100000 : Int) = true) (b : vIn (es.getD i EvR.d).note (0 : Int) (n - (1 : Int)) = true) (c1 : cntK 2 es (es.getD i EvR.d).note i ≠ 0) (d : (es.getD i EvR.d).ins = 0) (e : (es.getD i EvR.d).key = 0) (f : (cn .f32 (es.getD i EvR.d).force == cn .f32 0) = true) (c2 : cntK 1 es (es.getD i EvR.d).note i = 0) : stepS es n m i = true := by
  unfold stepS
  rw [if_neg (by rw [k]; decide), k, a, b, c2, d, e, f, bne_iff_ne.2 c1]; rfl
theorem stepS_f (h : ¬ (vIn (es.getD i EvR.d).at_ (0 : Int) (100000 : Int) = true ∧ vIn (es.getD i EvR.d).note (0 : Int) (n - (1 : Int)) = true)) : stepS es n m i = false := by
  unfold stepS
  cases h1 : vIn (es.getD i EvR.d).at_ (0 : Int) (100000 : Int)
  · rfl
  · cases h2 : vIn (es.getD i EvR.d).note (0 : Int) (n - (1 : Int))
    · rfl
    · exact absurd ⟨h1, h2⟩ h
theorem stepS_f2 (k : (es.getD i EvR.d).kind = 2) (h : ¬ (cntK 1 es (es.getD i EvR.d).note i = 0 ∧ vIn (es.getD i EvR.d).ins (0 : Int) (m - (1 : Int)) = true ∧ vIn (es.getD i EvR.d).key (-100 : Int) (100 : Int) = true ∧ finF (es.getD i EvR.d).force = true ∧ cntK 2 es (es.getD i EvR.d).note i = 0)) : stepS es n m i = false := by
  unfold stepS
  rw [if_pos k]
  cases hb : ((cntK 1 es (es.getD i EvR.d).note i == 0) && vIn (es.getD i EvR.d).ins (0 : Int) (m - (1 : Int)) && vIn (es.getD i EvR.d).key (-100 : Int) (100 : Int) && finF (es.getD i EvR.d).force && (cntK 2 es (es.getD i EvR.d).note i == 0))
  · rw [Bool.and_false]
  · simp only [Bool.and_eq_true, beq_iff_eq] at hb
    exact absurd ⟨hb.1.1.1.1, hb.1.1.1.2, hb.1.1.2, hb.1.2, hb.2⟩ h
theorem stepS_f1 (k : (es.getD i EvR.d).kind = 1) (h : ¬ (cntK 2 es (es.getD i EvR.d).note i ≠ 0 ∧ (es.getD i EvR.d).ins = 0 ∧ (es.getD i EvR.d).key = 0 ∧ (cn .f32 (es.getD i EvR.d).force == cn .f32 0) = true ∧ cntK 1 es (es.getD i EvR.d).note i = 0)) : stepS es n m i = false := by
  unfold stepS
  rw [if_neg (by rw [k]; decide)]
  cases hb : (((es.getD i EvR.d).kind == (1 : Int)) && (cntK 2 es (es.getD i EvR.d).note i != 0) && ((es.getD i EvR.d).ins == (0 : Int)) && ((es.getD i EvR.d).key == (0 : Int)) && (cn .f32 (es.getD i EvR.d).force == cn .f32 0) && (cntK 1 es (es.getD i EvR.d).note i == 0))
  · rw [Bool.and_false]
  · simp only [Bool.and_eq_true, bne_iff_ne] at hb
    exact absurd ⟨hb.1.1.1.1.2, eq_of_beq hb.1.1.1.2, eq_of_beq hb.1.1.2, hb.1.2, eq_of_beq hb.2⟩ h
theorem stepS_f0 (k1 : (es.getD i EvR.d).kind ≠ 1) (k2 : (es.getD i EvR.d).kind ≠ 2) : stepS es n m i = false := by
  unfold stepS
  rw [if_neg k2, beq_false_of_ne k1]; simp
variable {L : Nat}
theorem stepI_t (a : evI (es.getD i EvR.d).at_ (es.getD i EvR.d).kind (es.getD i EvR.d).ins (es.getD i EvR.d).key (es.getD i EvR.d).force m = true) (b : vIn (es.getD i EvR.d).note (0 : Int) (n - (1 : Int)) = true) (c : 0 < i → ordI es L i < 0) (d : (es.getD i EvR.d).kind = 1 → (startsF es L (es.getD i EvR.d).note).isSome = true ∧ lkI (startsF es L (es.getD i EvR.d).note) ≤ (es.getD i EvR.d).at_ ∧ lkB (stopsF es i (es.getD i EvR.d).note) = false) : stepI es L n m i = true := by
  unfold stepI
  rw [a, b]
  have e1 : (if 0 < i then decide (ordI es L i < 0) else true) = true := by
    split
    · rename_i h; exact decide_eq_true (c h)
    · rfl
  rw [e1]
  split
  · rename_i h
    obtain ⟨d1, d2, d3⟩ := d h
    rw [d1, decide_eq_true d2, d3]; rfl
  · rfl
theorem stepI_f (h : ¬ (evI (es.getD i EvR.d).at_ (es.getD i EvR.d).kind (es.getD i EvR.d).ins (es.getD i EvR.d).key (es.getD i EvR.d).force m = true ∧ vIn (es.getD i EvR.d).note (0 : Int) (n - (1 : Int)) = true ∧ (0 < i → ordI es L i < 0) ∧ ((es.getD i EvR.d).kind = 1 → (startsF es L (es.getD i EvR.d).note).isSome = true ∧ lkI (startsF es L (es.getD i EvR.d).note) ≤ (es.getD i EvR.d).at_ ∧ lkB (stopsF es i (es.getD i EvR.d).note) = false))) : stepI es L n m i = false := by
  cases hb : stepI es L n m i
  · rfl
  · exfalso
    apply h
    unfold stepI at hb
    simp only [Bool.and_eq_true] at hb
    obtain ⟨⟨⟨a, b⟩, c⟩, d⟩ := hb
    refine ⟨a, b, fun h => ?_, fun h => ?_⟩
    · rw [if_pos h] at c; exact of_decide_eq_true c
    · rw [if_pos h] at d
      simp only [Bool.and_eq_true, decide_eq_true_eq, Bool.not_eq_true'] at d
      exact ⟨d.1.1, d.1.2, d.2⟩
end
theorem tunF_t {ba oc n : Nat} {ds : List Nat} (a : (fGe .f32 ba 1065353216 && fLe .f32 ba 1184645120) = true) (b : fGe .f32 oc 1065353216 = true) (c : fLe .f32 oc 1167458304 = true) (d1 : 1 ≤ n) (d2 : n ≤ 31) (e : cn .f32 (ds.getD 0 0) = 0) (f : tunL ds oc n = true) : tunF ba oc ds n = true := by
  unfold tunF
  have v : vIn ((n : Nat) : Int) (1 : Int) (31 : Int) = true := (vIn_t _ _ _).2 ⟨by omega, by omega⟩
  rw [a, b, c, v, e, f]; rfl
theorem tunF_f {ba oc n : Nat} {ds : List Nat} (h : ¬ ((fGe .f32 ba 1065353216 && fLe .f32 ba 1184645120) = true ∧ fGe .f32 oc 1065353216 = true ∧ fLe .f32 oc 1167458304 = true ∧ 1 ≤ n ∧ n ≤ 31 ∧ cn .f32 (ds.getD 0 0) = 0 ∧ tunL ds oc n = true)) : tunF ba oc ds n = false := by
  cases hb : tunF ba oc ds n
  · rfl
  · exfalso
    apply h
    unfold tunF at hb
    rw [Bool.and_eq_true, Bool.and_eq_true, Bool.and_eq_true, Bool.and_eq_true, vIn_t] at hb
    obtain ⟨⟨⟨⟨a, b⟩, c⟩, d⟩, e⟩ := hb
    rw [Bool.and_eq_true] at b
    exact ⟨a, b.1, b.2, by omega, by omega, eq_of_beq d, e⟩
theorem insF_t {n : Nat} {es : List InR} (a : n ≤ 6) (b : insL es n = true) : insF es n = true := by unfold insF; rw [decide_eq_true a, b]; rfl
theorem insF_f {n : Nat} {es : List InR} (h : ¬ (n ≤ 6 ∧ insL es n = true)) : insF es n = false := by
  cases hb : insF es n
  · rfl
  · exfalso
    apply h
    unfold insF at hb
    rw [Bool.and_eq_true] at hb
    exact ⟨of_decide_eq_true hb.1, hb.2⟩
theorem cn_z : cn .f32 0 = 0 := by decide +kernel
def vRate (ra : Nat) : Bool := fGe .f32 ra 1065353216 && fLe .f32 ra 1232348160

set_option maxRecDepth 100000 in
set_option maxHeartbeats 2000000 in
theorem c_isBase (a : Nat) (w : World) : Cl Tryd.prog 68 #[vF a] w fun v w' => v = .bool (fGe .f32 a 1065353216 && fLe .f32 a 1184645120) ∧ Mod [] w w' := by
  refine Cl.of Tryd.func68 Tryd.ntmps68 rfl rfl (ρ := [(0, vF a)]) rfl ?_
  refine CE.seq ?_
  refine CE.region ?_
  refine WL.det (op_assign rfl) rfl rfl rfl ?_
  refine WL.end ?_
  refine NE.code ?_
  refine CE.seq ?_
  refine CE.region ?_
  refine WL.det (op_move rfl) rfl rfl rfl ?_
  refine WL.call (oc_call (vs := [vF a, vF 1065353216, vF 1184645120]) (cap := []) rfl rfl rfl Tryd.call32 (c_insideI a 1065353216 1184645120 w)) rfl rfl (ltb rfl) ?_
  rintro _ _ ⟨rfl, rfl⟩
  refine WL.det (op_assign rfl) rfl rfl rfl ?_
  refine WL.end ?_
  refine NE.code ?_
  refine CE.ret' ?_
  refine XE.leave1 Tryd.results68 rfl ?_
  refine ⟨rfl, (Mod.refl [] w)⟩

set_option maxRecDepth 100000 in
set_option maxHeartbeats 2000000 in
theorem c_l07Base (a : Nat) (w : World) : Cl Tryd.prog 101 #[vF a] w fun v w' => v = .bool (fGe .f32 a 1065353216 && fLe .f32 a 1184645120) ∧ Mod [] w w' := by
  refine Cl.of Tryd.func101 Tryd.ntmps101 rfl rfl (ρ := [(0, vF a)]) rfl ?_
  refine CE.seq ?_
  refine CE.region ?_
  refine WL.det (op_assign rfl) rfl rfl rfl ?_
  refine WL.end ?_
  refine NE.code ?_
  refine CE.seq ?_
  refine CE.region ?_
  refine WL.det (op_move rfl) rfl rfl rfl ?_
  refine WL.det (op_fge (c := fGe .f32 a 1065353216) rfl rfl rfl rfl rfl) rfl rfl rfl ?_
  refine WL.det (op_move rfl) rfl rfl rfl ?_
  rcases Bool.eq_false_or_eq_true (fGe .f32 a 1065353216) with hb1 | hb1
  · refine WL.yes rfl rfl rfl (ltb rfl) rfl hb1 ?_
    refine WL.det (op_move rfl) rfl rfl rfl ?_
    refine WL.yes rfl rfl rfl (ltb rfl) rfl hb1 ?_
    refine WL.det (op_fle (c := fLe .f32 a 1184645120) rfl rfl rfl rfl rfl) rfl rfl rfl ?_
    refine WL.det (op_pick_t rfl hb1 rfl) rfl rfl rfl ?_
    refine WL.det (op_assign rfl) rfl rfl rfl ?_
    refine WL.end ?_
    refine NE.code ?_
    refine CE.ret' ?_
    refine XE.leave1 Tryd.results101 rfl ?_
    refine ⟨?_, (Mod.refl [] w)⟩
    all_goals simp_all
  · refine WL.no rfl rfl rfl (ltb rfl) rfl hb1 rfl (ltb rfl) ?_
    refine WL.no rfl rfl rfl (ltb rfl) rfl hb1 rfl (ltb rfl) ?_
    refine WL.det (op_pick_f rfl hb1 rfl) rfl rfl rfl ?_
    refine WL.det (op_assign rfl) rfl rfl rfl ?_
    refine WL.end ?_
    refine NE.code ?_
    refine CE.ret' ?_
    refine XE.leave1 Tryd.results101 rfl ?_
    refine ⟨?_, (Mod.refl [] w)⟩
    all_goals simp_all

set_option maxRecDepth 100000 in
set_option maxHeartbeats 2000000 in
theorem c_isRate (a : Nat) (w : World) : Cl Tryd.prog 43 #[vF a] w fun v w' => v = .bool (vRate a) ∧ Mod [] w w' := by
  refine Cl.of Tryd.func43 Tryd.ntmps43 rfl rfl (ρ := [(0, vF a)]) rfl ?_
  refine CE.seq ?_
  refine CE.region ?_
  refine WL.det (op_assign rfl) rfl rfl rfl ?_
  refine WL.end ?_
  refine NE.code ?_
  refine CE.seq ?_
  refine CE.region ?_
  refine WL.det (op_move rfl) rfl rfl rfl ?_
  refine WL.call (oc_call (vs := [vF a, vF 1065353216, vF 1232348160]) (cap := []) rfl rfl rfl Tryd.call32 (c_insideI a 1065353216 1232348160 w)) rfl rfl (ltb rfl) ?_
  rintro _ _ ⟨rfl, rfl⟩
  refine WL.det (op_assign rfl) rfl rfl rfl ?_
  refine WL.end ?_
  refine NE.code ?_
  refine CE.ret' ?_
  refine XE.leave1 Tryd.results43 rfl ?_
  refine ⟨?_, (Mod.refl [] w)⟩
  all_goals simp_all [vRate]

set_option maxRecDepth 100000 in
set_option maxHeartbeats 2000000 in
theorem c_lengthF (n : Nat) (c : Nat) (A : Option Addr) (w : World) : Cl Tryd.prog 69 #[.slice A n c] w fun v w' => v = vI ((n : Nat) : Int) ∧ w = w' := by
  refine Cl.of Tryd.func69 Tryd.ntmps69 rfl rfl (ρ := [(0, .slice A n c)]) rfl ?_
  refine CE.seq ?_
  refine CE.region ?_
  refine WL.det (op_assign rfl) rfl rfl rfl ?_
  refine WL.end ?_
  refine NE.code ?_
  refine CE.seq ?_
  refine CE.region ?_
  refine WL.det (op_move rfl) rfl rfl rfl ?_
  refine WL.det (op_len rfl Tryd.runUnderlying30) rfl rfl rfl ?_
  refine WL.det (op_assign rfl) rfl rfl rfl ?_
  refine WL.end ?_
  refine NE.code ?_
  refine CE.ret' ?_
  refine XE.leave1 Tryd.results69 rfl ?_
  refine ⟨rfl, rfl⟩

set_option maxRecDepth 100000 in
set_option maxHeartbeats 2000000 in
theorem c_iValidT (ba : Nat) (oc : Nat) (n : Nat) (c : Nat) (b : Nat) (ds : List Nat) (ln : ds.length = n) (hn : n ≤ 1048576) (w : World) (r : Rng w b 0 (fl ds)) : Cl Tryd.prog 44 #[.agg #[vF ba, vF oc, vS b 0 n c]] w fun v w' => v = .bool (tunF ba oc ds n) ∧ Mod [] w w' := by
  refine Cl.of Tryd.func44 Tryd.ntmps44 rfl rfl (ρ := [(0, .agg #[vF ba, vF oc, vS b 0 n c])]) rfl ?_
  refine CE.seq ?_
  refine CE.region ?_
  refine WL.op (op_box (cs := [vF ba, vF oc, vS b 0 n c]) rfl rfl) rfl rfl (ltb rfl) ?_
  rintro _ w1 ⟨rfl, r1, m1, z1⟩
  refine WL.det (op_assign rfl) rfl rfl rfl ?_
  refine WL.end ?_
  refine NE.code ?_
  refine CE.seq ?_
  refine CE.seq ?_
  refine CE.region ?_
  refine WL.det (op_fieldAddr (off' := 0) rfl Tryd.runUnderlying39 rfl rfl Tryd.sizeOf22 rfl) rfl rfl rfl ?_
  refine WL.det (op_load1 (i := 0) rfl Tryd.isAgg22 r1.rng rfl rfl) rfl rfl rfl ?_
  refine WL.call (oc_call (vs := [vF ba]) (cap := []) rfl rfl rfl Tryd.call68 (c_isBase ba w1)) rfl rfl (ltb rfl) ?_
  rintro _ w2 ⟨rfl, m2⟩
  refine WL.det (op_not rfl) rfl rfl rfl ?_
  refine WL.det (op_move rfl) rfl rfl rfl ?_
  rcases Bool.eq_false_or_eq_true (fGe .f32 ba 1065353216 && fLe .f32 ba 1184645120) with hb1 | hb1
  · refine WL.yes rfl rfl rfl (ltb rfl) rfl (bnot_t hb1) ?_
    refine WL.det (op_fieldAddr (off' := 1) rfl Tryd.runUnderlying39 rfl rfl Tryd.sizeOf22 rfl) rfl rfl rfl ?_
    refine WL.yes rfl rfl rfl (ltb rfl) rfl (bnot_t hb1) ?_
    refine WL.det (op_load1 (i := 1) rfl Tryd.isAgg22 (r1.ext m2).rng rfl rfl) rfl rfl rfl ?_
    refine WL.yes rfl rfl rfl (ltb rfl) rfl (bnot_t hb1) ?_
    refine WL.call (oc_call (vs := [vF oc, vF 1065353216, vF 1167458304]) (cap := []) rfl rfl rfl Tryd.call32 (c_insideI oc 1065353216 1167458304 w2)) rfl rfl (ltb rfl) ?_
    rintro _ _ ⟨rfl, rfl⟩
    refine WL.yes rfl rfl rfl (ltb rfl) rfl (bnot_t hb1) ?_
    refine WL.det (op_not rfl) rfl rfl rfl ?_
    refine WL.det (op_pick_f rfl (bnot_t hb1) rfl) rfl rfl rfl ?_
    refine WL.det (op_move rfl) rfl rfl rfl ?_
    rcases Bool.eq_false_or_eq_true (fGe .f32 oc 1065353216 && fLe .f32 oc 1167458304) with hb2 | hb2
    · refine WL.yes rfl rfl rfl (ltb rfl) rfl (bnot_t hb2) ?_
      refine WL.det (op_fieldAddr (off' := 2) rfl Tryd.runUnderlying39 rfl rfl Tryd.sizeOf30 rfl) rfl rfl rfl ?_
      refine WL.yes rfl rfl rfl (ltb rfl) rfl (bnot_t hb2) ?_
      refine WL.det (op_load1 (i := 2) rfl Tryd.isAgg30 (r1.ext m2).rng rfl rfl) rfl rfl rfl ?_
      refine WL.yes rfl rfl rfl (ltb rfl) rfl (bnot_t hb2) ?_
      refine WL.call (oc_call (vs := [vS b 0 n c]) (cap := []) rfl rfl rfl Tryd.call69 (c_length32 n c (some ⟨b, 0, none⟩) w2)) rfl rfl (ltb rfl) ?_
      rintro _ _ ⟨rfl, rfl⟩
      refine WL.yes rfl rfl rfl (ltb rfl) rfl (bnot_t hb2) ?_
      refine WL.call (oc_call (vs := [vI ((n : Nat) : Int), vI 1, vI 31]) (cap := []) rfl rfl rfl Tryd.call51 (c_within ((n : Nat) : Int) (1 : Int) (31 : Int) w2)) rfl rfl (ltb rfl) ?_
      rintro _ _ ⟨rfl, rfl⟩
      refine WL.yes rfl rfl rfl (ltb rfl) rfl (bnot_t hb2) ?_
      refine WL.det (op_not rfl) rfl rfl rfl ?_
      refine WL.det (op_pick_f rfl (bnot_t hb2) rfl) rfl rfl rfl ?_
      refine WL.det (op_move rfl) rfl rfl rfl ?_
      rcases Bool.eq_false_or_eq_true (vIn ((n : Nat) : Int) (1 : Int) (31 : Int)) with hb3 | hb3
      · have hp3 := hb3; try simp only [Bool.and_eq_true, Bool.or_eq_true, Bool.not_eq_true', Bool.not_eq_false', Bool.and_eq_false_iff, Bool.or_eq_false_iff, decide_eq_true_eq, decide_eq_false_iff_not, beq_iff_eq, bne_iff_ne, beq_eq_false_iff_ne, bne_eq_false_iff_eq, ne_eq, Bool.false_eq_true, not_false_eq_true, not_true_eq_false, vIn_t, vIn_f] at hp3
        refine WL.yes rfl rfl rfl (ltb rfl) rfl (bnot_t hb3) ?_
        refine WL.det (op_fieldAddr (off' := 2) rfl Tryd.runUnderlying39 rfl rfl Tryd.sizeOf30 rfl) rfl rfl rfl ?_
        refine WL.yes rfl rfl rfl (ltb rfl) rfl (bnot_t hb3) ?_
        refine WL.det (op_load1 (i := 2) rfl Tryd.isAgg30 (r1.ext m2).rng rfl rfl) rfl rfl rfl ?_
        refine WL.yes rfl rfl rfl (ltb rfl) rfl (bnot_t hb3) ?_
        refine WL.det (op_indexSl (off' := 0) rfl rfl rfl Tryd.runUnderlying30 Tryd.sizeOf22 (by omega) (by omega) rfl) rfl rfl rfl ?_
        refine WL.yes rfl rfl rfl (ltb rfl) rfl (bnot_t hb3) ?_
        refine WL.det (op_load1 (i := 0) rfl Tryd.isAgg22 ((r.ext m1).ext m2) rfl (fl_get (by have eL : List.length ds = n := ln; omega))) rfl rfl rfl ?_
        refine WL.yes rfl rfl rfl (ltb rfl) rfl (bnot_t hb3) ?_
        refine WL.call (oc_call (vs := [vF (ds.getD 0 0)]) (cap := []) rfl rfl rfl Tryd.call70 (c_bitsOf (ds.getD 0 0) (ds.getD 0 0) rfl w2)) rfl rfl (ltb rfl) ?_
        rintro _ _ ⟨rfl, rfl⟩
        refine WL.yes rfl rfl rfl (ltb rfl) rfl (bnot_t hb3) ?_
        refine WL.det (op_nei rfl rfl) rfl rfl rfl ?_
        refine WL.det (op_pick_f rfl (bnot_t hb3) rfl) rfl rfl rfl ?_
        refine WL.end ?_
        refine NE.code ?_
        rcases Bool.eq_false_or_eq_true ((((cn .f32 (ds.getD 0 0) : Nat) : Int) != (0 : Int))) with hb4 | hb4
        · have hp4 := bne_iff_ne.1 hb4
          refine CE.cond_t rfl hb4 ?_
          refine CE.seq ?_
          refine CE.region ?_
          refine WL.det (op_assign rfl) rfl rfl rfl ?_
          refine WL.end ?_
          refine NE.code ?_
          refine CE.ret' ?_
          refine XE.ret_then ?_
          refine XE.leave1 Tryd.results44 rfl ?_
          refine ⟨?_, (((Mod.refl [] w).nt m1).nt m2)⟩
          all_goals first | exact congrArg Value.bool (tunF_f (by rintro ⟨a1, a2, a3, a4, a5, a6, a7⟩; first | omega | (simp_all; done) | (simp_all [cn_z]; done) | (rw [tunL_out (i := i) (by omega) (by simp_all)] at a7; cases a7))).symm | (have e9 : i = n := (by omega); subst e9; exact congrArg Value.bool (tunF_t (by assumption) (by simp_all) (by simp_all) (by omega) (by omega) (by first | omega | (rw [← cn_z]; assumption) | simp_all) hu).symm) | (have e7 := tunL_out (ds := ds) (oc := oc) (i := i) (n := n) (by omega) (by simp_all); simp [tunF, e7]; done) | (have e9 : i = n := (by omega); subst e9; simp_all [tunF]; done) | (simp_all [tunF]; done) | (simp_all [tunF]; omega)
        · have hp4 := bne_eq_false_iff_eq.1 hb4
          refine CE.cond_f rfl hb4 ?_
          refine CE.skip' ?_
          refine NE.code ?_
          refine CE.seq ?_
          refine CE.seq ?_
          refine CE.region ?_
          refine WL.det (op_fieldAddr (off' := 2) rfl Tryd.runUnderlying39 rfl rfl Tryd.sizeOf30 rfl) rfl rfl rfl ?_
          refine WL.det (op_load1 (i := 2) rfl Tryd.isAgg30 (r1.ext m2).rng rfl rfl) rfl rfl rfl ?_
          refine WL.det (op_len rfl Tryd.runUnderlying30) rfl rfl rfl ?_
          refine WL.det (op_move rfl) rfl rfl rfl ?_
          refine WL.end ?_
          refine NE.code ?_
          refine CE.block ?_
          refine CE.loop (fun (i : Nat) => [(33, vI ((i : Nat) : Int)), (1, vP w.heap.size 0), (2, .bool false), (31, vS b 0 n c), (32, vI ((n : Nat) : Int))]) (fun (i : Nat) => fun W => (i ≤ n) ∧ (tunL ds oc i = true) ∧ Mod [] w2 W) (fun (i : Nat) => n - i) 0 (⟨rfl, rfl, rfl, rfl, rfl, trivial⟩) ⟨(by omega), (by rfl), Mod.refl _ _⟩ ?_
          rintro i w3 ⟨hi, hu, m3⟩
          show CE _ _ _ _ [(33, vI ((i : Nat) : Int)), (1, vP w.heap.size 0), (2, .bool false), (31, vS b 0 n c), (32, vI ((n : Nat) : Int))] _
          refine CE.seq ?_
          refine CE.region ?_
          refine WL.det (op_lti rfl rfl) rfl rfl rfl ?_
          refine WL.end ?_
          refine NE.code ?_
          refine CE.seq ?_
          rcases Bool.eq_false_or_eq_true (decide (((i : Nat) : Int) < ((n : Nat) : Int))) with hb5 | hb5
          · have hp5 := of_decide_eq_true hb5
            refine CE.cond_t rfl hb5 ?_
            refine CE.skip' ?_
            refine NE.code ?_
            refine CE.seq ?_
            refine CE.block ?_
            refine CE.seq ?_
            refine CE.region ?_
            refine WL.det (op_move rfl) rfl rfl rfl ?_
            refine WL.det (op_indexSl (off' := 0 + i) rfl rfl rfl Tryd.runUnderlying30 Tryd.sizeOf22 (by omega) (by omega) (by omega)) rfl rfl rfl ?_
            refine WL.det (op_load1 (i := i) rfl Tryd.isAgg22 (((r.ext m1).ext m2).ext m3) rfl (fl_get (by have eL : List.length ds = n := ln; omega))) rfl rfl rfl ?_
            refine WL.det (op_assign rfl) rfl rfl rfl ?_
            refine WL.det (op_assign rfl) rfl rfl rfl ?_
            refine WL.end ?_
            refine NE.code ?_
            refine CE.seq ?_
            refine CE.region ?_
            refine WL.det (op_move rfl) rfl rfl rfl ?_
            refine WL.det (op_fieldAddr (off' := 1) rfl Tryd.runUnderlying39 rfl rfl Tryd.sizeOf22 rfl) rfl rfl rfl ?_
            refine WL.det (op_load1 (i := 1) rfl Tryd.isAgg22 ((r1.ext m2).ext m3).rng rfl rfl) rfl rfl rfl ?_
            refine WL.det (op_flt (c := fLt .f32 (ds.getD i 0) oc) rfl rfl rfl rfl rfl) rfl rfl rfl ?_
            refine WL.det (op_not rfl) rfl rfl rfl ?_
            refine WL.det (op_move rfl) rfl rfl rfl ?_
            rcases Bool.eq_false_or_eq_true (fLt .f32 (ds.getD i 0) oc) with hb6 | hb6
            · refine WL.yes rfl rfl rfl (ltb rfl) rfl (bnot_t hb6) ?_
              refine WL.det (op_move rfl) rfl rfl rfl ?_
              refine WL.yes rfl rfl rfl (ltb rfl) rfl (bnot_t hb6) ?_
              refine WL.det (op_gti rfl rfl) rfl rfl rfl ?_
              refine WL.yes rfl rfl rfl (ltb rfl) rfl (bnot_t hb6) ?_
              refine WL.det (op_move rfl) rfl rfl rfl ?_
              rcases Bool.eq_false_or_eq_true (decide ((0 : Int) < ((i : Nat) : Int))) with hb7 | hb7
              · have hp7 := of_decide_eq_true hb7
                refine WL.yes rfl rfl rfl (ltb rfl) rfl hb7 ?_
                refine WL.det (op_move rfl) rfl rfl rfl ?_
                refine WL.yes rfl rfl rfl (ltb rfl) rfl hb7 ?_
                refine WL.det (op_fieldAddr (off' := 2) rfl Tryd.runUnderlying39 rfl rfl Tryd.sizeOf30 rfl) rfl rfl rfl ?_
                refine WL.yes rfl rfl rfl (ltb rfl) rfl hb7 ?_
                refine WL.det (op_load1 (i := 2) rfl Tryd.isAgg30 ((r1.ext m2).ext m3).rng rfl rfl) rfl rfl rfl ?_
                refine WL.yes rfl rfl rfl (ltb rfl) rfl hb7 ?_
                refine WL.det (op_move rfl) rfl rfl rfl ?_
                refine WL.yes rfl rfl rfl (ltb rfl) rfl hb7 ?_
                refine WL.det (op_sub (r := ((i - 1 : Nat) : Int)) rfl rfl (w_nsub (l := i) (n := 1) (by omega) (by omega))) rfl rfl rfl ?_
                refine WL.yes rfl rfl rfl (ltb rfl) rfl hb7 ?_
                refine WL.det (op_indexSl (off' := 0 + (i - 1)) rfl rfl rfl Tryd.runUnderlying30 Tryd.sizeOf22 (by omega) (by omega) (by omega)) rfl rfl rfl ?_
                refine WL.yes rfl rfl rfl (ltb rfl) rfl hb7 ?_
                refine WL.det (op_load1 (i := (i - 1)) rfl Tryd.isAgg22 (((r.ext m1).ext m2).ext m3) rfl (fl_get (by have eL : List.length ds = n := ln; omega))) rfl rfl rfl ?_
                refine WL.yes rfl rfl rfl (ltb rfl) rfl hb7 ?_
                refine WL.det (op_fgt (c := fGt .f32 (ds.getD i 0) (ds.getD (i - 1) 0)) rfl rfl rfl rfl rfl) rfl rfl rfl ?_
                refine WL.yes rfl rfl rfl (ltb rfl) rfl hb7 ?_
                refine WL.det (op_not rfl) rfl rfl rfl ?_
                refine WL.yes rfl rfl rfl (ltb rfl) rfl (bnot_t hb6) ?_
                refine WL.det (op_pick_t rfl hb7 rfl) rfl rfl rfl ?_
                refine WL.det (op_pick_f rfl (bnot_t hb6) rfl) rfl rfl rfl ?_
                refine WL.end ?_
                refine NE.code ?_
                rcases Bool.eq_false_or_eq_true (fGt .f32 (ds.getD i 0) (ds.getD (i - 1) 0)) with hb8 | hb8
                · refine CE.cond_f rfl (bnot_t hb8) ?_
                  refine CE.skip' ?_
                  refine NE.blk ?_
                  refine NE.code ?_
                  refine CE.region ?_
                  refine WL.det (op_add (r := ((i + 1 : Nat) : Int)) rfl rfl (w_i64 (by omega) (by omega))) rfl rfl rfl ?_
                  refine WL.det (op_move rfl) rfl rfl rfl ?_
                  refine WL.end ?_
                  exact NE.again (i + 1) (⟨rfl, rfl, rfl, rfl, rfl, trivial⟩) ⟨(by omega), (by simp_all [tunL]), m3⟩ (by first | (dsimp only; omega) | omega)
                · refine CE.cond_t rfl (bnot_f hb8) ?_
                  refine CE.seq ?_
                  refine CE.region ?_
                  refine WL.det (op_assign rfl) rfl rfl rfl ?_
                  refine WL.end ?_
                  refine NE.code ?_
                  refine CE.ret' ?_
                  refine XE.ret_blk ?_
                  refine XE.ret_then ?_
                  refine XE.ret_then ?_
                  refine XE.ret_blk ?_
                  refine XE.ret_then ?_
                  refine XE.leave1 Tryd.results44 rfl ?_
                  refine ⟨?_, ((((Mod.refl [] w).nt m1).nt m2).nt m3)⟩
                  all_goals first | exact congrArg Value.bool (tunF_f (by rintro ⟨a1, a2, a3, a4, a5, a6, a7⟩; first | omega | (simp_all; done) | (simp_all [cn_z]; done) | (rw [tunL_out (i := i) (by omega) (by simp_all)] at a7; cases a7))).symm | (have e9 : i = n := (by omega); subst e9; exact congrArg Value.bool (tunF_t (by assumption) (by simp_all) (by simp_all) (by omega) (by omega) (by first | omega | (rw [← cn_z]; assumption) | simp_all) hu).symm) | (have e7 := tunL_out (ds := ds) (oc := oc) (i := i) (n := n) (by omega) (by simp_all); simp [tunF, e7]; done) | (have e9 : i = n := (by omega); subst e9; simp_all [tunF]; done) | (simp_all [tunF]; done) | (simp_all [tunF]; omega)
              · have hp7 := of_decide_eq_false hb7
                refine WL.no rfl rfl rfl (ltb rfl) rfl hb7 rfl (ltb rfl) ?_
                refine WL.no rfl rfl rfl (ltb rfl) rfl hb7 rfl (ltb rfl) ?_
                refine WL.no rfl rfl rfl (ltb rfl) rfl hb7 rfl (ltb rfl) ?_
                refine WL.no rfl rfl rfl (ltb rfl) rfl hb7 rfl (ltb rfl) ?_
                refine WL.no rfl rfl rfl (ltb rfl) rfl hb7 rfl (ltb rfl) ?_
                refine WL.no rfl rfl rfl (ltb rfl) rfl hb7 rfl (ltb rfl) ?_
                refine WL.no rfl rfl rfl (ltb rfl) rfl hb7 rfl (ltb rfl) ?_
                refine WL.no rfl rfl rfl (ltb rfl) rfl hb7 rfl (ltb rfl) ?_
                refine WL.no rfl rfl rfl (ltb rfl) rfl hb7 rfl (ltb rfl) ?_
                refine WL.yes rfl rfl rfl (ltb rfl) rfl (bnot_t hb6) ?_
                refine WL.det (op_pick_f rfl hb7 rfl) rfl rfl rfl ?_
                refine WL.det (op_pick_f rfl (bnot_t hb6) rfl) rfl rfl rfl ?_
                refine WL.end ?_
                refine NE.code ?_
                refine CE.cond_f rfl rfl ?_
                refine CE.skip' ?_
                refine NE.blk ?_
                refine NE.code ?_
                refine CE.region ?_
                refine WL.det (op_add (r := ((i + 1 : Nat) : Int)) rfl rfl (w_i64 (by omega) (by omega))) rfl rfl rfl ?_
                refine WL.det (op_move rfl) rfl rfl rfl ?_
                refine WL.end ?_
                exact NE.again (i + 1) (⟨rfl, rfl, rfl, rfl, rfl, trivial⟩) ⟨(by omega), (by simp_all [tunL]), m3⟩ (by first | (dsimp only; omega) | omega)
            · refine WL.no rfl rfl rfl (ltb rfl) rfl (bnot_f hb6) rfl (ltb rfl) ?_
              refine WL.no rfl rfl rfl (ltb rfl) rfl (bnot_f hb6) rfl (ltb rfl) ?_
              refine WL.no rfl rfl rfl (ltb rfl) rfl (bnot_f hb6) rfl (ltb rfl) ?_
              refine WL.nou rfl rfl rfl (ltb rfl) rfl rfl (ltb rfl) ?_
              refine WL.nou rfl rfl rfl (ltb rfl) rfl rfl (ltb rfl) ?_
              refine WL.nou rfl rfl rfl (ltb rfl) rfl rfl (ltb rfl) ?_
              refine WL.nou rfl rfl rfl (ltb rfl) rfl rfl (ltb rfl) ?_
              refine WL.nou rfl rfl rfl (ltb rfl) rfl rfl (ltb rfl) ?_
              refine WL.nou rfl rfl rfl (ltb rfl) rfl rfl (ltb rfl) ?_
              refine WL.nou rfl rfl rfl (ltb rfl) rfl rfl (ltb rfl) ?_
              refine WL.nou rfl rfl rfl (ltb rfl) rfl rfl (ltb rfl) ?_
              refine WL.nou rfl rfl rfl (ltb rfl) rfl rfl (ltb rfl) ?_
              refine WL.no rfl rfl rfl (ltb rfl) rfl (bnot_f hb6) rfl (ltb rfl) ?_
              refine WL.det (op_pick_t rfl (bnot_f hb6) rfl) rfl rfl rfl ?_
              refine WL.end ?_
              refine NE.code ?_
              refine CE.cond_t rfl rfl ?_
              refine CE.seq ?_
              refine CE.region ?_
              refine WL.det (op_assign rfl) rfl rfl rfl ?_
              refine WL.end ?_
              refine NE.code ?_
              refine CE.ret' ?_
              refine XE.ret_blk ?_
              refine XE.ret_then ?_
              refine XE.ret_then ?_
              refine XE.ret_blk ?_
              refine XE.ret_then ?_
              refine XE.leave1 Tryd.results44 rfl ?_
              refine ⟨?_, ((((Mod.refl [] w).nt m1).nt m2).nt m3)⟩
              all_goals first | exact congrArg Value.bool (tunF_f (by rintro ⟨a1, a2, a3, a4, a5, a6, a7⟩; first | omega | (simp_all; done) | (simp_all [cn_z]; done) | (rw [tunL_out (i := i) (by omega) (by simp_all)] at a7; cases a7))).symm | (have e9 : i = n := (by omega); subst e9; exact congrArg Value.bool (tunF_t (by assumption) (by simp_all) (by simp_all) (by omega) (by omega) (by first | omega | (rw [← cn_z]; assumption) | simp_all) hu).symm) | (have e7 := tunL_out (ds := ds) (oc := oc) (i := i) (n := n) (by omega) (by simp_all); simp [tunF, e7]; done) | (have e9 : i = n := (by omega); subst e9; simp_all [tunF]; done) | (simp_all [tunF]; done) | (simp_all [tunF]; omega)
          · have hp5 := of_decide_eq_false hb5
            refine CE.cond_f rfl hb5 ?_
            refine CE.exit' ?_
            refine XE.exit_then ?_
            refine XE.exit_then ?_
            refine XE.exit_here ?_
            refine NE.code ?_
            refine CE.seq ?_
            refine CE.region ?_
            refine WL.det (op_assign rfl) rfl rfl rfl ?_
            refine WL.end ?_
            refine NE.code ?_
            refine CE.ret' ?_
            refine XE.leave1 Tryd.results44 rfl ?_
            refine ⟨?_, ((((Mod.refl [] w).nt m1).nt m2).nt m3)⟩
            all_goals first | exact congrArg Value.bool (tunF_f (by rintro ⟨a1, a2, a3, a4, a5, a6, a7⟩; first | omega | (simp_all; done) | (simp_all [cn_z]; done) | (rw [tunL_out (i := i) (by omega) (by simp_all)] at a7; cases a7))).symm | (have e9 : i = n := (by omega); subst e9; exact congrArg Value.bool (tunF_t (by assumption) (by simp_all) (by simp_all) (by omega) (by omega) (by first | omega | (rw [← cn_z]; assumption) | simp_all) hu).symm) | (have e7 := tunL_out (ds := ds) (oc := oc) (i := i) (n := n) (by omega) (by simp_all); simp [tunF, e7]; done) | (have e9 : i = n := (by omega); subst e9; simp_all [tunF]; done) | (simp_all [tunF]; done) | (simp_all [tunF]; omega)
      · have hp3 := hb3; try simp only [Bool.and_eq_true, Bool.or_eq_true, Bool.not_eq_true', Bool.not_eq_false', Bool.and_eq_false_iff, Bool.or_eq_false_iff, decide_eq_true_eq, decide_eq_false_iff_not, beq_iff_eq, bne_iff_ne, beq_eq_false_iff_ne, bne_eq_false_iff_eq, ne_eq, Bool.false_eq_true, not_false_eq_true, not_true_eq_false, vIn_t, vIn_f] at hp3
        refine WL.no rfl rfl rfl (ltb rfl) rfl (bnot_f hb3) rfl (ltb rfl) ?_
        refine WL.no rfl rfl rfl (ltb rfl) rfl (bnot_f hb3) rfl (ltb rfl) ?_
        refine WL.no rfl rfl rfl (ltb rfl) rfl (bnot_f hb3) rfl (ltb rfl) ?_
        refine WL.no rfl rfl rfl (ltb rfl) rfl (bnot_f hb3) rfl (ltb rfl) ?_
        refine WL.no rfl rfl rfl (ltb rfl) rfl (bnot_f hb3) rfl (ltb rfl) ?_
        refine WL.no rfl rfl rfl (ltb rfl) rfl (bnot_f hb3) rfl (ltb rfl) ?_
        refine WL.det (op_pick_t rfl (bnot_f hb3) rfl) rfl rfl rfl ?_
        refine WL.end ?_
        refine NE.code ?_
        refine CE.cond_t rfl rfl ?_
        refine CE.seq ?_
        refine CE.region ?_
        refine WL.det (op_assign rfl) rfl rfl rfl ?_
        refine WL.end ?_
        refine NE.code ?_
        refine CE.ret' ?_
        refine XE.ret_then ?_
        refine XE.leave1 Tryd.results44 rfl ?_
        refine ⟨?_, (((Mod.refl [] w).nt m1).nt m2)⟩
        all_goals first | exact congrArg Value.bool (tunF_f (by rintro ⟨a1, a2, a3, a4, a5, a6, a7⟩; first | omega | (simp_all; done) | (simp_all [cn_z]; done) | (rw [tunL_out (i := i) (by omega) (by simp_all)] at a7; cases a7))).symm | (have e9 : i = n := (by omega); subst e9; exact congrArg Value.bool (tunF_t (by assumption) (by simp_all) (by simp_all) (by omega) (by omega) (by first | omega | (rw [← cn_z]; assumption) | simp_all) hu).symm) | (have e7 := tunL_out (ds := ds) (oc := oc) (i := i) (n := n) (by omega) (by simp_all); simp [tunF, e7]; done) | (have e9 : i = n := (by omega); subst e9; simp_all [tunF]; done) | (simp_all [tunF]; done) | (simp_all [tunF]; omega)
    · refine WL.no rfl rfl rfl (ltb rfl) rfl (bnot_f hb2) rfl (ltb rfl) ?_
      refine WL.no rfl rfl rfl (ltb rfl) rfl (bnot_f hb2) rfl (ltb rfl) ?_
      refine WL.no rfl rfl rfl (ltb rfl) rfl (bnot_f hb2) rfl (ltb rfl) ?_
      refine WL.no rfl rfl rfl (ltb rfl) rfl (bnot_f hb2) rfl (ltb rfl) ?_
      refine WL.no rfl rfl rfl (ltb rfl) rfl (bnot_f hb2) rfl (ltb rfl) ?_
      refine WL.det (op_pick_t rfl (bnot_f hb2) rfl) rfl rfl rfl ?_
      refine WL.det (op_move rfl) rfl rfl rfl ?_
      refine WL.no rfl rfl rfl (ltb rfl) rfl rfl rfl (ltb rfl) ?_
      refine WL.no rfl rfl rfl (ltb rfl) rfl rfl rfl (ltb rfl) ?_
      refine WL.no rfl rfl rfl (ltb rfl) rfl rfl rfl (ltb rfl) ?_
      refine WL.no rfl rfl rfl (ltb rfl) rfl rfl rfl (ltb rfl) ?_
      refine WL.no rfl rfl rfl (ltb rfl) rfl rfl rfl (ltb rfl) ?_
      refine WL.no rfl rfl rfl (ltb rfl) rfl rfl rfl (ltb rfl) ?_
      refine WL.det (op_pick_t rfl rfl rfl) rfl rfl rfl ?_
      refine WL.end ?_
      refine NE.code ?_
      refine CE.cond_t rfl rfl ?_
      refine CE.seq ?_
      refine CE.region ?_
      refine WL.det (op_assign rfl) rfl rfl rfl ?_
      refine WL.end ?_
      refine NE.code ?_
      refine CE.ret' ?_
      refine XE.ret_then ?_
      refine XE.leave1 Tryd.results44 rfl ?_
      refine ⟨?_, (((Mod.refl [] w).nt m1).nt m2)⟩
      all_goals first | exact congrArg Value.bool (tunF_f (by rintro ⟨a1, a2, a3, a4, a5, a6, a7⟩; first | omega | (simp_all; done) | (simp_all [cn_z]; done) | (rw [tunL_out (i := i) (by omega) (by simp_all)] at a7; cases a7))).symm | (have e9 : i = n := (by omega); subst e9; exact congrArg Value.bool (tunF_t (by assumption) (by simp_all) (by simp_all) (by omega) (by omega) (by first | omega | (rw [← cn_z]; assumption) | simp_all) hu).symm) | (have e7 := tunL_out (ds := ds) (oc := oc) (i := i) (n := n) (by omega) (by simp_all); simp [tunF, e7]; done) | (have e9 : i = n := (by omega); subst e9; simp_all [tunF]; done) | (simp_all [tunF]; done) | (simp_all [tunF]; omega)
  · refine WL.no rfl rfl rfl (ltb rfl) rfl (bnot_f hb1) rfl (ltb rfl) ?_
    refine WL.no rfl rfl rfl (ltb rfl) rfl (bnot_f hb1) rfl (ltb rfl) ?_
    refine WL.no rfl rfl rfl (ltb rfl) rfl (bnot_f hb1) rfl (ltb rfl) ?_
    refine WL.no rfl rfl rfl (ltb rfl) rfl (bnot_f hb1) rfl (ltb rfl) ?_
    refine WL.det (op_pick_t rfl (bnot_f hb1) rfl) rfl rfl rfl ?_
    refine WL.det (op_move rfl) rfl rfl rfl ?_
    refine WL.no rfl rfl rfl (ltb rfl) rfl rfl rfl (ltb rfl) ?_
    refine WL.no rfl rfl rfl (ltb rfl) rfl rfl rfl (ltb rfl) ?_
    refine WL.no rfl rfl rfl (ltb rfl) rfl rfl rfl (ltb rfl) ?_
    refine WL.no rfl rfl rfl (ltb rfl) rfl rfl rfl (ltb rfl) ?_
    refine WL.no rfl rfl rfl (ltb rfl) rfl rfl rfl (ltb rfl) ?_
    refine WL.det (op_pick_t rfl rfl rfl) rfl rfl rfl ?_
    refine WL.det (op_move rfl) rfl rfl rfl ?_
    refine WL.no rfl rfl rfl (ltb rfl) rfl rfl rfl (ltb rfl) ?_
    refine WL.no rfl rfl rfl (ltb rfl) rfl rfl rfl (ltb rfl) ?_
    refine WL.no rfl rfl rfl (ltb rfl) rfl rfl rfl (ltb rfl) ?_
    refine WL.no rfl rfl rfl (ltb rfl) rfl rfl rfl (ltb rfl) ?_
    refine WL.no rfl rfl rfl (ltb rfl) rfl rfl rfl (ltb rfl) ?_
    refine WL.no rfl rfl rfl (ltb rfl) rfl rfl rfl (ltb rfl) ?_
    refine WL.det (op_pick_t rfl rfl rfl) rfl rfl rfl ?_
    refine WL.end ?_
    refine NE.code ?_
    refine CE.cond_t rfl rfl ?_
    refine CE.seq ?_
    refine CE.region ?_
    refine WL.det (op_assign rfl) rfl rfl rfl ?_
    refine WL.end ?_
    refine NE.code ?_
    refine CE.ret' ?_
    refine XE.ret_then ?_
    refine XE.leave1 Tryd.results44 rfl ?_
    refine ⟨?_, (((Mod.refl [] w).nt m1).nt m2)⟩
    all_goals first | exact congrArg Value.bool (tunF_f (by rintro ⟨a1, a2, a3, a4, a5, a6, a7⟩; first | omega | (simp_all; done) | (simp_all [cn_z]; done) | (rw [tunL_out (i := i) (by omega) (by simp_all)] at a7; cases a7))).symm | (have e9 : i = n := (by omega); subst e9; exact congrArg Value.bool (tunF_t (by assumption) (by simp_all) (by simp_all) (by omega) (by omega) (by first | omega | (rw [← cn_z]; assumption) | simp_all) hu).symm) | (have e7 := tunL_out (ds := ds) (oc := oc) (i := i) (n := n) (by omega) (by simp_all); simp [tunF, e7]; done) | (have e9 : i = n := (by omega); subst e9; simp_all [tunF]; done) | (simp_all [tunF]; done) | (simp_all [tunF]; omega)

set_option maxRecDepth 100000 in
set_option maxHeartbeats 2000000 in
theorem c_l07Ok (ba : Nat) (oc : Nat) (n : Nat) (c : Nat) (b : Nat) (ds : List Nat) (p : Nat) (ln : ds.length = n) (hn : n ≤ 1048576) (w : World) (q : Rng w p 0 [vF ba, vF oc, vS b 0 n c]) (r : Rng w b 0 (fl ds)) : Cl Tryd.prog 88 #[vP p 0] w fun v w' => v = .bool (tunF ba oc ds n) ∧ Mod [] w w' := by
  refine Cl.of Tryd.func88 Tryd.ntmps88 rfl rfl (ρ := [(0, vP p 0)]) rfl ?_
  refine CE.seq ?_
  refine CE.region ?_
  refine WL.det (op_assign rfl) rfl rfl rfl ?_
  refine WL.end ?_
  refine NE.code ?_
  refine CE.seq ?_
  refine CE.region ?_
  refine WL.det (op_move rfl) rfl rfl rfl ?_
  refine WL.det (op_nilCheck rfl) rfl rfl rfl ?_
  refine WL.det (op_fieldAddr (off' := 2) rfl Tryd.runUnderlying39 rfl rfl Tryd.sizeOf30 rfl) rfl rfl rfl ?_
  refine WL.det (op_load1 (i := 2) rfl Tryd.isAgg30 q rfl rfl) rfl rfl rfl ?_
  refine WL.det (op_len rfl Tryd.runUnderlying30) rfl rfl rfl ?_
  refine WL.det (op_assign rfl) rfl rfl rfl ?_
  refine WL.end ?_
  refine NE.code ?_
  refine CE.seq ?_
  refine CE.seq ?_
  refine CE.region ?_
  refine WL.det (op_move rfl) rfl rfl rfl ?_
  refine WL.det (op_nilCheck rfl) rfl rfl rfl ?_
  refine WL.det (op_fieldAddr (off' := 0) rfl Tryd.runUnderlying39 rfl rfl Tryd.sizeOf22 rfl) rfl rfl rfl ?_
  refine WL.det (op_load1 (i := 0) rfl Tryd.isAgg22 q rfl rfl) rfl rfl rfl ?_
  refine WL.call (oc_call (vs := [vF ba]) (cap := []) rfl rfl rfl Tryd.call101 (c_l07Base ba w)) rfl rfl (ltb rfl) ?_
  rintro _ w1 ⟨rfl, m1⟩
  refine WL.det (op_not rfl) rfl rfl rfl ?_
  refine WL.det (op_move rfl) rfl rfl rfl ?_
  rcases Bool.eq_false_or_eq_true (fGe .f32 ba 1065353216 && fLe .f32 ba 1184645120) with hb1 | hb1
  · refine WL.yes rfl rfl rfl (ltb rfl) rfl (bnot_t hb1) ?_
    refine WL.det (op_move rfl) rfl rfl rfl ?_
    refine WL.yes rfl rfl rfl (ltb rfl) rfl (bnot_t hb1) ?_
    refine WL.det (op_nilCheck rfl) rfl rfl rfl ?_
    refine WL.yes rfl rfl rfl (ltb rfl) rfl (bnot_t hb1) ?_
    refine WL.det (op_fieldAddr (off' := 1) rfl Tryd.runUnderlying39 rfl rfl Tryd.sizeOf22 rfl) rfl rfl rfl ?_
    refine WL.yes rfl rfl rfl (ltb rfl) rfl (bnot_t hb1) ?_
    refine WL.det (op_load1 (i := 1) rfl Tryd.isAgg22 (q.ext m1) rfl rfl) rfl rfl rfl ?_
    refine WL.yes rfl rfl rfl (ltb rfl) rfl (bnot_t hb1) ?_
    refine WL.det (op_fge (c := fGe .f32 oc 1065353216) rfl rfl rfl rfl rfl) rfl rfl rfl ?_
    refine WL.yes rfl rfl rfl (ltb rfl) rfl (bnot_t hb1) ?_
    refine WL.det (op_move rfl) rfl rfl rfl ?_
    rcases Bool.eq_false_or_eq_true (fGe .f32 oc 1065353216) with hb2 | hb2
    · refine WL.yes rfl rfl rfl (ltb rfl) rfl hb2 ?_
      refine WL.det (op_move rfl) rfl rfl rfl ?_
      refine WL.yes rfl rfl rfl (ltb rfl) rfl hb2 ?_
      refine WL.det (op_nilCheck rfl) rfl rfl rfl ?_
      refine WL.yes rfl rfl rfl (ltb rfl) rfl hb2 ?_
      refine WL.det (op_fieldAddr (off' := 1) rfl Tryd.runUnderlying39 rfl rfl Tryd.sizeOf22 rfl) rfl rfl rfl ?_
      refine WL.yes rfl rfl rfl (ltb rfl) rfl hb2 ?_
      refine WL.det (op_load1 (i := 1) rfl Tryd.isAgg22 (q.ext m1) rfl rfl) rfl rfl rfl ?_
      refine WL.yes rfl rfl rfl (ltb rfl) rfl hb2 ?_
      refine WL.det (op_fle (c := fLe .f32 oc 1167458304) rfl rfl rfl rfl rfl) rfl rfl rfl ?_
      refine WL.yes rfl rfl rfl (ltb rfl) rfl (bnot_t hb1) ?_
      refine WL.det (op_pick_t rfl hb2 rfl) rfl rfl rfl ?_
      refine WL.yes rfl rfl rfl (ltb rfl) rfl (bnot_t hb1) ?_
      refine WL.det (op_not rfl) rfl rfl rfl ?_
      refine WL.det (op_pick_f rfl (bnot_t hb1) rfl) rfl rfl rfl ?_
      refine WL.det (op_move rfl) rfl rfl rfl ?_
      rcases Bool.eq_false_or_eq_true (fLe .f32 oc 1167458304) with hb3 | hb3
      · refine WL.yes rfl rfl rfl (ltb rfl) rfl (bnot_t hb3) ?_
        refine WL.det (op_move rfl) rfl rfl rfl ?_
        refine WL.yes rfl rfl rfl (ltb rfl) rfl (bnot_t hb3) ?_
        refine WL.det (op_lti rfl rfl) rfl rfl rfl ?_
        refine WL.det (op_pick_f rfl (bnot_t hb3) rfl) rfl rfl rfl ?_
        refine WL.det (op_move rfl) rfl rfl rfl ?_
        rcases Bool.eq_false_or_eq_true (decide (((n : Nat) : Int) < (1 : Int))) with hb4 | hb4
        · have hp4 := of_decide_eq_true hb4
          refine WL.no rfl rfl rfl (ltb rfl) rfl hb4 rfl (ltb rfl) ?_
          refine WL.no rfl rfl rfl (ltb rfl) rfl hb4 rfl (ltb rfl) ?_
          refine WL.det (op_pick_t rfl hb4 rfl) rfl rfl rfl ?_
          refine WL.det (op_move rfl) rfl rfl rfl ?_
          refine WL.no rfl rfl rfl (ltb rfl) rfl rfl rfl (ltb rfl) ?_
          refine WL.no rfl rfl rfl (ltb rfl) rfl rfl rfl (ltb rfl) ?_
          refine WL.no rfl rfl rfl (ltb rfl) rfl rfl rfl (ltb rfl) ?_
          refine WL.no rfl rfl rfl (ltb rfl) rfl rfl rfl (ltb rfl) ?_
          refine WL.no rfl rfl rfl (ltb rfl) rfl rfl rfl (ltb rfl) ?_
          refine WL.no rfl rfl rfl (ltb rfl) rfl rfl rfl (ltb rfl) ?_
          refine WL.no rfl rfl rfl (ltb rfl) rfl rfl rfl (ltb rfl) ?_
          refine WL.no rfl rfl rfl (ltb rfl) rfl rfl rfl (ltb rfl) ?_
          refine WL.det (op_pick_t rfl rfl rfl) rfl rfl rfl ?_
          refine WL.end ?_
          refine NE.code ?_
          refine CE.cond_t rfl rfl ?_
          refine CE.seq ?_
          refine CE.region ?_
          refine WL.det (op_assign rfl) rfl rfl rfl ?_
          refine WL.end ?_
          refine NE.code ?_
          refine CE.ret' ?_
          refine XE.ret_then ?_
          refine XE.leave1 Tryd.results88 rfl ?_
          refine ⟨?_, ((Mod.refl [] w).nt m1)⟩
          all_goals first | exact congrArg Value.bool (tunF_f (by rintro ⟨a1, a2, a3, a4, a5, a6, a7⟩; first | omega | (simp_all; done) | (simp_all [cn_z]; done) | (rw [tunL_out (i := i) (by omega) (by simp_all)] at a7; cases a7))).symm | (have e9 : i = n := (by omega); subst e9; exact congrArg Value.bool (tunF_t (by assumption) (by simp_all) (by simp_all) (by omega) (by omega) (by first | omega | (rw [← cn_z]; assumption) | simp_all) hu).symm) | (have e7 := tunL_out (ds := ds) (oc := oc) (i := i) (n := n) (by omega) (by simp_all); simp [tunF, e7]; done) | (have e9 : i = n := (by omega); subst e9; simp_all [tunF]; done) | (simp_all [tunF]; done) | (simp_all [tunF]; omega)
        · have hp4 := of_decide_eq_false hb4
          refine WL.yes rfl rfl rfl (ltb rfl) rfl hb4 ?_
          refine WL.det (op_move rfl) rfl rfl rfl ?_
          refine WL.yes rfl rfl rfl (ltb rfl) rfl hb4 ?_
          refine WL.det (op_gti rfl rfl) rfl rfl rfl ?_
          refine WL.det (op_pick_f rfl hb4 rfl) rfl rfl rfl ?_
          refine WL.det (op_move rfl) rfl rfl rfl ?_
          rcases Bool.eq_false_or_eq_true (decide ((31 : Int) < ((n : Nat) : Int))) with hb5 | hb5
          · have hp5 := of_decide_eq_true hb5
            refine WL.no rfl rfl rfl (ltb rfl) rfl hb5 rfl (ltb rfl) ?_
            refine WL.no rfl rfl rfl (ltb rfl) rfl hb5 rfl (ltb rfl) ?_
            refine WL.no rfl rfl rfl (ltb rfl) rfl hb5 rfl (ltb rfl) ?_
            refine WL.no rfl rfl rfl (ltb rfl) rfl hb5 rfl (ltb rfl) ?_
            refine WL.no rfl rfl rfl (ltb rfl) rfl hb5 rfl (ltb rfl) ?_
            refine WL.no rfl rfl rfl (ltb rfl) rfl hb5 rfl (ltb rfl) ?_
            refine WL.no rfl rfl rfl (ltb rfl) rfl hb5 rfl (ltb rfl) ?_
            refine WL.no rfl rfl rfl (ltb rfl) rfl hb5 rfl (ltb rfl) ?_
            refine WL.det (op_pick_t rfl hb5 rfl) rfl rfl rfl ?_
            refine WL.end ?_
            refine NE.code ?_
            refine CE.cond_t rfl rfl ?_
            refine CE.seq ?_
            refine CE.region ?_
            refine WL.det (op_assign rfl) rfl rfl rfl ?_
            refine WL.end ?_
            refine NE.code ?_
            refine CE.ret' ?_
            refine XE.ret_then ?_
            refine XE.leave1 Tryd.results88 rfl ?_
            refine ⟨?_, ((Mod.refl [] w).nt m1)⟩
            all_goals first | exact congrArg Value.bool (tunF_f (by rintro ⟨a1, a2, a3, a4, a5, a6, a7⟩; first | omega | (simp_all; done) | (simp_all [cn_z]; done) | (rw [tunL_out (i := i) (by omega) (by simp_all)] at a7; cases a7))).symm | (have e9 : i = n := (by omega); subst e9; exact congrArg Value.bool (tunF_t (by assumption) (by simp_all) (by simp_all) (by omega) (by omega) (by first | omega | (rw [← cn_z]; assumption) | simp_all) hu).symm) | (have e7 := tunL_out (ds := ds) (oc := oc) (i := i) (n := n) (by omega) (by simp_all); simp [tunF, e7]; done) | (have e9 : i = n := (by omega); subst e9; simp_all [tunF]; done) | (simp_all [tunF]; done) | (simp_all [tunF]; omega)
          · have hp5 := of_decide_eq_false hb5
            refine WL.yes rfl rfl rfl (ltb rfl) rfl hb5 ?_
            refine WL.det (op_move rfl) rfl rfl rfl ?_
            refine WL.yes rfl rfl rfl (ltb rfl) rfl hb5 ?_
            refine WL.det (op_nilCheck rfl) rfl rfl rfl ?_
            refine WL.yes rfl rfl rfl (ltb rfl) rfl hb5 ?_
            refine WL.det (op_fieldAddr (off' := 2) rfl Tryd.runUnderlying39 rfl rfl Tryd.sizeOf30 rfl) rfl rfl rfl ?_
            refine WL.yes rfl rfl rfl (ltb rfl) rfl hb5 ?_
            refine WL.det (op_load1 (i := 2) rfl Tryd.isAgg30 (q.ext m1) rfl rfl) rfl rfl rfl ?_
            refine WL.yes rfl rfl rfl (ltb rfl) rfl hb5 ?_
            refine WL.det (op_indexSl (off' := 0) rfl rfl rfl Tryd.runUnderlying30 Tryd.sizeOf22 (by omega) (by omega) rfl) rfl rfl rfl ?_
            refine WL.yes rfl rfl rfl (ltb rfl) rfl hb5 ?_
            refine WL.det (op_load1 (i := 0) rfl Tryd.isAgg22 (r.ext m1) rfl (fl_get (by have eL : List.length ds = n := ln; omega))) rfl rfl rfl ?_
            refine WL.yes rfl rfl rfl (ltb rfl) rfl hb5 ?_
            refine WL.call (oc_call (vs := [vF (ds.getD 0 0), vF 0]) (cap := []) rfl rfl rfl Tryd.call89 (c_l01Same (ds.getD 0 0) (ds.getD 0 0) 0 0 rfl rfl w1)) rfl rfl (ltb rfl) ?_
            rintro _ _ ⟨rfl, rfl⟩
            refine WL.yes rfl rfl rfl (ltb rfl) rfl hb5 ?_
            refine WL.det (op_not rfl) rfl rfl rfl ?_
            refine WL.det (op_pick_f rfl hb5 rfl) rfl rfl rfl ?_
            refine WL.end ?_
            refine NE.code ?_
            rcases Bool.eq_false_or_eq_true (cn .f32 (ds.getD 0 0) == cn .f32 0) with hb6 | hb6
            · have hp6 := hb6; try simp only [Bool.and_eq_true, Bool.or_eq_true, Bool.not_eq_true', Bool.not_eq_false', Bool.and_eq_false_iff, Bool.or_eq_false_iff, decide_eq_true_eq, decide_eq_false_iff_not, beq_iff_eq, bne_iff_ne, beq_eq_false_iff_ne, bne_eq_false_iff_eq, ne_eq, Bool.false_eq_true, not_false_eq_true, not_true_eq_false, vIn_t, vIn_f] at hp6
              refine CE.cond_f rfl (bnot_t hb6) ?_
              refine CE.skip' ?_
              refine NE.code ?_
              refine CE.seq ?_
              refine CE.seq ?_
              refine CE.region ?_
              refine WL.det (op_assign rfl) rfl rfl rfl ?_
              refine WL.end ?_
              refine NE.code ?_
              refine CE.block ?_
              refine CE.loop (fun (i : Nat) => [(4, vI ((i : Nat) : Int)), (0, vP p 0), (2, .bool false), (3, vI ((n : Nat) : Int))]) (fun (i : Nat) => fun W => (i ≤ n) ∧ (tunL ds oc i = true) ∧ Mod [] w1 W) (fun (i : Nat) => n - i) 0 (⟨rfl, rfl, rfl, rfl, trivial⟩) ⟨(by omega), (by rfl), Mod.refl _ _⟩ ?_
              rintro i w2 ⟨hi, hu, m2⟩
              show CE _ _ _ _ [(4, vI ((i : Nat) : Int)), (0, vP p 0), (2, .bool false), (3, vI ((n : Nat) : Int))] _
              refine CE.seq ?_
              refine CE.seq ?_
              refine CE.region ?_
              refine WL.det (op_move rfl) rfl rfl rfl ?_
              refine WL.det (op_move rfl) rfl rfl rfl ?_
              refine WL.det (op_lti rfl rfl) rfl rfl rfl ?_
              refine WL.end ?_
              refine NE.code ?_
              rcases Bool.eq_false_or_eq_true (decide (((i : Nat) : Int) < ((n : Nat) : Int))) with hb7 | hb7
              · have hp7 := of_decide_eq_true hb7
                refine CE.cond_t rfl hb7 ?_
                refine CE.skip' ?_
                refine NE.code ?_
                refine CE.seq ?_
                refine CE.block ?_
                refine CE.seq ?_
                rcases Bool.eq_false_or_eq_true (decide ((0 : Int) < ((i : Nat) : Int))) with hb8 | hb8
                · have hp8 := of_decide_eq_true hb8
                  rcases Bool.eq_false_or_eq_true (fGt .f32 (ds.getD i 0) (ds.getD (i - 1) 0)) with hb9 | hb9
                  · refine CE.draw (fun _ => none) [0, 1, 2, 3, 4, 5, 6, 7, 8, 9, 10, 11, 12, 13, 14, 15, 16, 17, 18, 19, 20, 21, 22, 23, 24, 25, 26, 27, 28, 29, 30, 31, 32] [33, 34, 35] [] (by kernel_rfl) (by kernel_rfl) ?_
                    have md1 : Mod [] w2 w2.drew := (Mod.refl _ _).drew
                    generalize w2.drew = w3 at md1 ⊢
                    refine DR.det (i := 0) rfl rfl (by kernel_rfl) (.free rfl) rfl rfl (fun wD mD => op_move rfl) ?_
                    refine DR.det (i := 1) rfl rfl (by kernel_rfl) (.free rfl) rfl rfl (fun wD mD => op_gti rfl rfl) ?_
                    refine DR.det (i := 2) rfl rfl (by kernel_rfl) (.free rfl) rfl rfl (fun wD mD => op_move rfl) ?_
                    refine DR.det (i := 3) rfl rfl (by kernel_rfl) (.yes rfl rfl rfl (ltb rfl) rfl hb8) rfl rfl (fun wD mD => op_move rfl) ?_
                    refine DR.det (i := 4) rfl rfl (by kernel_rfl) (.yes rfl rfl rfl (ltb rfl) rfl hb8) rfl rfl (fun wD mD => op_nilCheck rfl) ?_
                    refine DR.det (i := 5) rfl rfl (by kernel_rfl) (.yes rfl rfl rfl (ltb rfl) rfl hb8) rfl rfl (fun wD mD => op_fieldAddr (off' := 2) rfl Tryd.runUnderlying39 rfl rfl Tryd.sizeOf30 rfl) ?_
                    refine DR.det (i := 6) rfl rfl (by kernel_rfl) (.yes rfl rfl rfl (ltb rfl) rfl hb8) rfl rfl (fun wD mD => op_load1 (i := 2) rfl Tryd.isAgg30 ((((q.ext m1).ext m2).ext md1).ext mD) rfl rfl) ?_
                    refine DR.det (i := 7) rfl rfl (by kernel_rfl) (.yes rfl rfl rfl (ltb rfl) rfl hb8) rfl rfl (fun wD mD => op_move rfl) ?_
                    refine DR.det (i := 8) rfl rfl (by kernel_rfl) (.yes rfl rfl rfl (ltb rfl) rfl hb8) rfl rfl (fun wD mD => op_indexSl (off' := 0 + i) rfl rfl rfl Tryd.runUnderlying30 Tryd.sizeOf22 (by omega) (by omega) (by omega)) ?_
                    refine DR.det (i := 9) rfl rfl (by kernel_rfl) (.yes rfl rfl rfl (ltb rfl) rfl hb8) rfl rfl (fun wD mD => op_load1 (i := i) rfl Tryd.isAgg22 ((((r.ext m1).ext m2).ext md1).ext mD) rfl (fl_get (by have eL : List.length ds = n := ln; omega))) ?_
                    refine DR.det (i := 10) rfl rfl (by kernel_rfl) (.yes rfl rfl rfl (ltb rfl) rfl hb8) rfl rfl (fun wD mD => op_move rfl) ?_
                    refine DR.det (i := 11) rfl rfl (by kernel_rfl) (.yes rfl rfl rfl (ltb rfl) rfl hb8) rfl rfl (fun wD mD => op_nilCheck rfl) ?_
                    refine DR.det (i := 12) rfl rfl (by kernel_rfl) (.yes rfl rfl rfl (ltb rfl) rfl hb8) rfl rfl (fun wD mD => op_fieldAddr (off' := 2) rfl Tryd.runUnderlying39 rfl rfl Tryd.sizeOf30 rfl) ?_
                    refine DR.det (i := 13) rfl rfl (by kernel_rfl) (.yes rfl rfl rfl (ltb rfl) rfl hb8) rfl rfl (fun wD mD => op_load1 (i := 2) rfl Tryd.isAgg30 ((((q.ext m1).ext m2).ext md1).ext mD) rfl rfl) ?_
                    refine DR.det (i := 14) rfl rfl (by kernel_rfl) (.yes rfl rfl rfl (ltb rfl) rfl hb8) rfl rfl (fun wD mD => op_move rfl) ?_
                    refine DR.det (i := 15) rfl rfl (by kernel_rfl) (.yes rfl rfl rfl (ltb rfl) rfl hb8) rfl rfl (fun wD mD => op_sub (r := ((i - 1 : Nat) : Int)) rfl rfl (w_nsub (l := i) (n := 1) (by omega) (by omega))) ?_
                    refine DR.det (i := 16) rfl rfl (by kernel_rfl) (.yes rfl rfl rfl (ltb rfl) rfl hb8) rfl rfl (fun wD mD => op_indexSl (off' := 0 + (i - 1)) rfl rfl rfl Tryd.runUnderlying30 Tryd.sizeOf22 (by omega) (by omega) (by omega)) ?_
                    refine DR.det (i := 17) rfl rfl (by kernel_rfl) (.yes rfl rfl rfl (ltb rfl) rfl hb8) rfl rfl (fun wD mD => op_load1 (i := (i - 1)) rfl Tryd.isAgg22 ((((r.ext m1).ext m2).ext md1).ext mD) rfl (fl_get (by have eL : List.length ds = n := ln; omega))) ?_
                    refine DR.det (i := 18) rfl rfl (by kernel_rfl) (.yes rfl rfl rfl (ltb rfl) rfl hb8) rfl rfl (fun wD mD => op_fgt (c := fGt .f32 (ds.getD i 0) (ds.getD (i - 1) 0)) rfl rfl rfl rfl rfl) ?_
                    refine DR.det (i := 19) rfl rfl (by kernel_rfl) (.yes rfl rfl rfl (ltb rfl) rfl hb8) rfl rfl (fun wD mD => op_not rfl) ?_
                    refine DR.det (i := 20) rfl rfl (by kernel_rfl) (.free rfl) rfl rfl (fun wD mD => op_pick_t rfl hb8 rfl) ?_
                    refine DR.det (i := 21) rfl rfl (by kernel_rfl) (.free rfl) rfl rfl (fun wD mD => op_move rfl) ?_
                    refine DR.det (i := 22) rfl rfl (by kernel_rfl) (.yes rfl rfl rfl (ltb rfl) rfl (bnot_t hb9)) rfl rfl (fun wD mD => op_move rfl) ?_
                    refine DR.det (i := 23) rfl rfl (by kernel_rfl) (.yes rfl rfl rfl (ltb rfl) rfl (bnot_t hb9)) rfl rfl (fun wD mD => op_nilCheck rfl) ?_
                    refine DR.det (i := 24) rfl rfl (by kernel_rfl) (.yes rfl rfl rfl (ltb rfl) rfl (bnot_t hb9)) rfl rfl (fun wD mD => op_fieldAddr (off' := 2) rfl Tryd.runUnderlying39 rfl rfl Tryd.sizeOf30 rfl) ?_
                    refine DR.det (i := 25) rfl rfl (by kernel_rfl) (.yes rfl rfl rfl (ltb rfl) rfl (bnot_t hb9)) rfl rfl (fun wD mD => op_load1 (i := 2) rfl Tryd.isAgg30 ((((q.ext m1).ext m2).ext md1).ext mD) rfl rfl) ?_
                    refine DR.det (i := 26) rfl rfl (by kernel_rfl) (.yes rfl rfl rfl (ltb rfl) rfl (bnot_t hb9)) rfl rfl (fun wD mD => op_move rfl) ?_
                    refine DR.det (i := 27) rfl rfl (by kernel_rfl) (.yes rfl rfl rfl (ltb rfl) rfl (bnot_t hb9)) rfl rfl (fun wD mD => op_indexSl (off' := 0 + i) rfl rfl rfl Tryd.runUnderlying30 Tryd.sizeOf22 (by omega) (by omega) (by omega)) ?_
                    refine DR.det (i := 28) rfl rfl (by kernel_rfl) (.yes rfl rfl rfl (ltb rfl) rfl (bnot_t hb9)) rfl rfl (fun wD mD => op_load1 (i := i) rfl Tryd.isAgg22 ((((r.ext m1).ext m2).ext md1).ext mD) rfl (fl_get (by have eL : List.length ds = n := ln; omega))) ?_
                    refine DR.det (i := 29) rfl rfl (by kernel_rfl) (.yes rfl rfl rfl (ltb rfl) rfl (bnot_t hb9)) rfl rfl (fun wD mD => op_move rfl) ?_
                    refine DR.det (i := 30) rfl rfl (by kernel_rfl) (.yes rfl rfl rfl (ltb rfl) rfl (bnot_t hb9)) rfl rfl (fun wD mD => op_nilCheck rfl) ?_
                    refine DR.det (i := 31) rfl rfl (by kernel_rfl) (.yes rfl rfl rfl (ltb rfl) rfl (bnot_t hb9)) rfl rfl (fun wD mD => op_fieldAddr (off' := 1) rfl Tryd.runUnderlying39 rfl rfl Tryd.sizeOf22 rfl) ?_
                    refine DR.det (i := 32) rfl rfl (by kernel_rfl) (.yes rfl rfl rfl (ltb rfl) rfl (bnot_t hb9)) rfl rfl (fun wD mD => op_load1 (i := 1) rfl Tryd.isAgg22 ((((q.ext m1).ext m2).ext md1).ext mD) rfl rfl) ?_
                    refine DR.done rfl ?_
                    intro w4 m3
                    refine WO.det (op_flt (c := fLt .f32 (ds.getD i 0) oc) rfl rfl rfl rfl rfl) rfl (.yes rfl rfl rfl (ltb rfl) rfl (bnot_t hb9)) rfl rfl ?_
                    refine WO.det (op_not rfl) rfl (.yes rfl rfl rfl (ltb rfl) rfl (bnot_t hb9)) rfl rfl ?_
                    refine WO.det (op_pick_f rfl (bnot_t hb9) rfl) rfl (.free rfl) rfl rfl ?_
                    refine WO.end ?_
                    refine NE.code ?_
                    rcases Bool.eq_false_or_eq_true (fLt .f32 (ds.getD i 0) oc) with hb10 | hb10
                    · refine CE.cond_f rfl (bnot_t hb10) ?_
                      refine CE.skip' ?_
                      refine NE.blk ?_
                      refine NE.code ?_
                      refine CE.region ?_
                      refine WL.det (op_move rfl) rfl rfl rfl ?_
                      refine WL.det (op_add (r := ((i + 1 : Nat) : Int)) rfl rfl (w_i64 (by omega) (by omega))) rfl rfl rfl ?_
                      refine WL.det (op_assign rfl) rfl rfl rfl ?_
                      refine WL.end ?_
                      exact NE.again (i + 1) (⟨rfl, rfl, rfl, rfl, trivial⟩) ⟨(by omega), (by simp_all [tunL]), ((m2.nt md1).nt m3)⟩ (by first | (dsimp only; omega) | omega)
                    · refine CE.cond_t rfl (bnot_f hb10) ?_
                      refine CE.seq ?_
                      refine CE.region ?_
                      refine WL.det (op_assign rfl) rfl rfl rfl ?_
                      refine WL.end ?_
                      refine NE.code ?_
                      refine CE.ret' ?_
                      refine XE.ret_blk ?_
                      refine XE.ret_then ?_
                      refine XE.ret_then ?_
                      refine XE.ret_blk ?_
                      refine XE.ret_then ?_
                      refine XE.leave1 Tryd.results88 rfl ?_
                      refine ⟨?_, (((((Mod.refl [] w).nt m1).nt m2).nt md1).nt m3)⟩
                      all_goals first | exact congrArg Value.bool (tunF_f (by rintro ⟨a1, a2, a3, a4, a5, a6, a7⟩; first | omega | (simp_all; done) | (simp_all [cn_z]; done) | (rw [tunL_out (i := i) (by omega) (by simp_all)] at a7; cases a7))).symm | (have e9 : i = n := (by omega); subst e9; exact congrArg Value.bool (tunF_t (by assumption) (by simp_all) (by simp_all) (by omega) (by omega) (by first | omega | (rw [← cn_z]; assumption) | simp_all) hu).symm) | (have e7 := tunL_out (ds := ds) (oc := oc) (i := i) (n := n) (by omega) (by simp_all); simp [tunF, e7]; done) | (have e9 : i = n := (by omega); subst e9; simp_all [tunF]; done) | (simp_all [tunF]; done) | (simp_all [tunF]; omega)
                  · refine CE.draw (fun _ => none) [0, 1, 2, 3, 4, 5, 6, 7, 8, 9, 10, 11, 12, 13, 14, 15, 16, 17, 18, 19, 20, 21, 22, 23, 24, 25, 26, 27, 28, 29, 30, 31, 32] [33, 34, 35] [] (by kernel_rfl) (by kernel_rfl) ?_
                    have md2 : Mod [] w2 w2.drew := (Mod.refl _ _).drew
                    generalize w2.drew = w5 at md2 ⊢
                    refine DR.det (i := 0) rfl rfl (by kernel_rfl) (.free rfl) rfl rfl (fun wD mD => op_move rfl) ?_
                    refine DR.det (i := 1) rfl rfl (by kernel_rfl) (.free rfl) rfl rfl (fun wD mD => op_gti rfl rfl) ?_
                    refine DR.det (i := 2) rfl rfl (by kernel_rfl) (.free rfl) rfl rfl (fun wD mD => op_move rfl) ?_
                    refine DR.det (i := 3) rfl rfl (by kernel_rfl) (.yes rfl rfl rfl (ltb rfl) rfl hb8) rfl rfl (fun wD mD => op_move rfl) ?_
                    refine DR.det (i := 4) rfl rfl (by kernel_rfl) (.yes rfl rfl rfl (ltb rfl) rfl hb8) rfl rfl (fun wD mD => op_nilCheck rfl) ?_
                    refine DR.det (i := 5) rfl rfl (by kernel_rfl) (.yes rfl rfl rfl (ltb rfl) rfl hb8) rfl rfl (fun wD mD => op_fieldAddr (off' := 2) rfl Tryd.runUnderlying39 rfl rfl Tryd.sizeOf30 rfl) ?_
                    refine DR.det (i := 6) rfl rfl (by kernel_rfl) (.yes rfl rfl rfl (ltb rfl) rfl hb8) rfl rfl (fun wD mD => op_load1 (i := 2) rfl Tryd.isAgg30 ((((q.ext m1).ext m2).ext md2).ext mD) rfl rfl) ?_
                    refine DR.det (i := 7) rfl rfl (by kernel_rfl) (.yes rfl rfl rfl (ltb rfl) rfl hb8) rfl rfl (fun wD mD => op_move rfl) ?_
                    refine DR.det (i := 8) rfl rfl (by kernel_rfl) (.yes rfl rfl rfl (ltb rfl) rfl hb8) rfl rfl (fun wD mD => op_indexSl (off' := 0 + i) rfl rfl rfl Tryd.runUnderlying30 Tryd.sizeOf22 (by omega) (by omega) (by omega)) ?_
                    refine DR.det (i := 9) rfl rfl (by kernel_rfl) (.yes rfl rfl rfl (ltb rfl) rfl hb8) rfl rfl (fun wD mD => op_load1 (i := i) rfl Tryd.isAgg22 ((((r.ext m1).ext m2).ext md2).ext mD) rfl (fl_get (by have eL : List.length ds = n := ln; omega))) ?_
                    refine DR.det (i := 10) rfl rfl (by kernel_rfl) (.yes rfl rfl rfl (ltb rfl) rfl hb8) rfl rfl (fun wD mD => op_move rfl) ?_
                    refine DR.det (i := 11) rfl rfl (by kernel_rfl) (.yes rfl rfl rfl (ltb rfl) rfl hb8) rfl rfl (fun wD mD => op_nilCheck rfl) ?_
                    refine DR.det (i := 12) rfl rfl (by kernel_rfl) (.yes rfl rfl rfl (ltb rfl) rfl hb8) rfl rfl (fun wD mD => op_fieldAddr (off' := 2) rfl Tryd.runUnderlying39 rfl rfl Tryd.sizeOf30 rfl) ?_
                    refine DR.det (i := 13) rfl rfl (by kernel_rfl) (.yes rfl rfl rfl (ltb rfl) rfl hb8) rfl rfl (fun wD mD => op_load1 (i := 2) rfl Tryd.isAgg30 ((((q.ext m1).ext m2).ext md2).ext mD) rfl rfl) ?_
                    refine DR.det (i := 14) rfl rfl (by kernel_rfl) (.yes rfl rfl rfl (ltb rfl) rfl hb8) rfl rfl (fun wD mD => op_move rfl) ?_
                    refine DR.det (i := 15) rfl rfl (by kernel_rfl) (.yes rfl rfl rfl (ltb rfl) rfl hb8) rfl rfl (fun wD mD => op_sub (r := ((i - 1 : Nat) : Int)) rfl rfl (w_nsub (l := i) (n := 1) (by omega) (by omega))) ?_
                    refine DR.det (i := 16) rfl rfl (by kernel_rfl) (.yes rfl rfl rfl (ltb rfl) rfl hb8) rfl rfl (fun wD mD => op_indexSl (off' := 0 + (i - 1)) rfl rfl rfl Tryd.runUnderlying30 Tryd.sizeOf22 (by omega) (by omega) (by omega)) ?_
                    refine DR.det (i := 17) rfl rfl (by kernel_rfl) (.yes rfl rfl rfl (ltb rfl) rfl hb8) rfl rfl (fun wD mD => op_load1 (i := (i - 1)) rfl Tryd.isAgg22 ((((r.ext m1).ext m2).ext md2).ext mD) rfl (fl_get (by have eL : List.length ds = n := ln; omega))) ?_
                    refine DR.det (i := 18) rfl rfl (by kernel_rfl) (.yes rfl rfl rfl (ltb rfl) rfl hb8) rfl rfl (fun wD mD => op_fgt (c := fGt .f32 (ds.getD i 0) (ds.getD (i - 1) 0)) rfl rfl rfl rfl rfl) ?_
                    refine DR.det (i := 19) rfl rfl (by kernel_rfl) (.yes rfl rfl rfl (ltb rfl) rfl hb8) rfl rfl (fun wD mD => op_not rfl) ?_
                    refine DR.det (i := 20) rfl rfl (by kernel_rfl) (.free rfl) rfl rfl (fun wD mD => op_pick_t rfl hb8 rfl) ?_
                    refine DR.det (i := 21) rfl rfl (by kernel_rfl) (.free rfl) rfl rfl (fun wD mD => op_move rfl) ?_
                    refine DR.skip (i := 22) rfl (by kernel_rfl) (.no rfl rfl rfl (ltb rfl) rfl (bnot_f hb9)) rfl (ltb rfl) ?_
                    refine DR.skip (i := 23) rfl (by kernel_rfl) (.no rfl rfl rfl (ltb rfl) rfl (bnot_f hb9)) rfl (ltb rfl) ?_
                    refine DR.skip (i := 24) rfl (by kernel_rfl) (.no rfl rfl rfl (ltb rfl) rfl (bnot_f hb9)) rfl (ltb rfl) ?_
                    refine DR.skip (i := 25) rfl (by kernel_rfl) (.no rfl rfl rfl (ltb rfl) rfl (bnot_f hb9)) rfl (ltb rfl) ?_
                    refine DR.skip (i := 26) rfl (by kernel_rfl) (.no rfl rfl rfl (ltb rfl) rfl (bnot_f hb9)) rfl (ltb rfl) ?_
                    refine DR.skip (i := 27) rfl (by kernel_rfl) (.no rfl rfl rfl (ltb rfl) rfl (bnot_f hb9)) rfl (ltb rfl) ?_
                    refine DR.skip (i := 28) rfl (by kernel_rfl) (.no rfl rfl rfl (ltb rfl) rfl (bnot_f hb9)) rfl (ltb rfl) ?_
                    refine DR.skip (i := 29) rfl (by kernel_rfl) (.no rfl rfl rfl (ltb rfl) rfl (bnot_f hb9)) rfl (ltb rfl) ?_
                    refine DR.skip (i := 30) rfl (by kernel_rfl) (.no rfl rfl rfl (ltb rfl) rfl (bnot_f hb9)) rfl (ltb rfl) ?_
                    refine DR.skip (i := 31) rfl (by kernel_rfl) (.no rfl rfl rfl (ltb rfl) rfl (bnot_f hb9)) rfl (ltb rfl) ?_
                    refine DR.skip (i := 32) rfl (by kernel_rfl) (.no rfl rfl rfl (ltb rfl) rfl (bnot_f hb9)) rfl (ltb rfl) ?_
                    refine DR.done rfl ?_
                    intro w6 m4
                    refine WO.skip rfl (.no rfl rfl rfl (ltb rfl) rfl (bnot_f hb9)) rfl (ltb rfl) ?_
                    refine WO.skip rfl (.no rfl rfl rfl (ltb rfl) rfl (bnot_f hb9)) rfl (ltb rfl) ?_
                    refine WO.det (op_pick_t rfl (bnot_f hb9) rfl) rfl (.free rfl) rfl rfl ?_
                    refine WO.end ?_
                    refine NE.code ?_
                    refine CE.cond_t rfl rfl ?_
                    refine CE.seq ?_
                    refine CE.region ?_
                    refine WL.det (op_assign rfl) rfl rfl rfl ?_
                    refine WL.end ?_
                    refine NE.code ?_
                    refine CE.ret' ?_
                    refine XE.ret_blk ?_
                    refine XE.ret_then ?_
                    refine XE.ret_then ?_
                    refine XE.ret_blk ?_
                    refine XE.ret_then ?_
                    refine XE.leave1 Tryd.results88 rfl ?_
                    refine ⟨?_, (((((Mod.refl [] w).nt m1).nt m2).nt md2).nt m4)⟩
                    all_goals first | exact congrArg Value.bool (tunF_f (by rintro ⟨a1, a2, a3, a4, a5, a6, a7⟩; first | omega | (simp_all; done) | (simp_all [cn_z]; done) | (rw [tunL_out (i := i) (by omega) (by simp_all)] at a7; cases a7))).symm | (have e9 : i = n := (by omega); subst e9; exact congrArg Value.bool (tunF_t (by assumption) (by simp_all) (by simp_all) (by omega) (by omega) (by first | omega | (rw [← cn_z]; assumption) | simp_all) hu).symm) | (have e7 := tunL_out (ds := ds) (oc := oc) (i := i) (n := n) (by omega) (by simp_all); simp [tunF, e7]; done) | (have e9 : i = n := (by omega); subst e9; simp_all [tunF]; done) | (simp_all [tunF]; done) | (simp_all [tunF]; omega)
                · have hp8 := of_decide_eq_false hb8
                  refine CE.draw (fun _ => none) [0, 1, 2, 3, 4, 5, 6, 7, 8, 9, 10, 11, 12, 13, 14, 15, 16, 17, 18, 19, 20, 21, 22, 23, 24, 25, 26, 27, 28, 29, 30, 31, 32] [33, 34, 35] [] (by kernel_rfl) (by kernel_rfl) ?_
                  have md3 : Mod [] w2 w2.drew := (Mod.refl _ _).drew
                  generalize w2.drew = w7 at md3 ⊢
                  refine DR.det (i := 0) rfl rfl (by kernel_rfl) (.free rfl) rfl rfl (fun wD mD => op_move rfl) ?_
                  refine DR.det (i := 1) rfl rfl (by kernel_rfl) (.free rfl) rfl rfl (fun wD mD => op_gti rfl rfl) ?_
                  refine DR.det (i := 2) rfl rfl (by kernel_rfl) (.free rfl) rfl rfl (fun wD mD => op_move rfl) ?_
                  refine DR.skip (i := 3) rfl (by kernel_rfl) (.no rfl rfl rfl (ltb rfl) rfl hb8) rfl (ltb rfl) ?_
                  refine DR.skip (i := 4) rfl (by kernel_rfl) (.no rfl rfl rfl (ltb rfl) rfl hb8) rfl (ltb rfl) ?_
                  refine DR.skip (i := 5) rfl (by kernel_rfl) (.no rfl rfl rfl (ltb rfl) rfl hb8) rfl (ltb rfl) ?_
                  refine DR.skip (i := 6) rfl (by kernel_rfl) (.no rfl rfl rfl (ltb rfl) rfl hb8) rfl (ltb rfl) ?_
                  refine DR.skip (i := 7) rfl (by kernel_rfl) (.no rfl rfl rfl (ltb rfl) rfl hb8) rfl (ltb rfl) ?_
                  refine DR.skip (i := 8) rfl (by kernel_rfl) (.no rfl rfl rfl (ltb rfl) rfl hb8) rfl (ltb rfl) ?_
                  refine DR.skip (i := 9) rfl (by kernel_rfl) (.no rfl rfl rfl (ltb rfl) rfl hb8) rfl (ltb rfl) ?_
                  refine DR.skip (i := 10) rfl (by kernel_rfl) (.no rfl rfl rfl (ltb rfl) rfl hb8) rfl (ltb rfl) ?_
                  refine DR.skip (i := 11) rfl (by kernel_rfl) (.no rfl rfl rfl (ltb rfl) rfl hb8) rfl (ltb rfl) ?_
                  refine DR.skip (i := 12) rfl (by kernel_rfl) (.no rfl rfl rfl (ltb rfl) rfl hb8) rfl (ltb rfl) ?_
                  refine DR.skip (i := 13) rfl (by kernel_rfl) (.no rfl rfl rfl (ltb rfl) rfl hb8) rfl (ltb rfl) ?_
                  refine DR.skip (i := 14) rfl (by kernel_rfl) (.no rfl rfl rfl (ltb rfl) rfl hb8) rfl (ltb rfl) ?_
                  refine DR.skip (i := 15) rfl (by kernel_rfl) (.no rfl rfl rfl (ltb rfl) rfl hb8) rfl (ltb rfl) ?_
                  refine DR.skip (i := 16) rfl (by kernel_rfl) (.no rfl rfl rfl (ltb rfl) rfl hb8) rfl (ltb rfl) ?_
                  refine DR.skip (i := 17) rfl (by kernel_rfl) (.no rfl rfl rfl (ltb rfl) rfl hb8) rfl (ltb rfl) ?_
                  refine DR.skip (i := 18) rfl (by kernel_rfl) (.no rfl rfl rfl (ltb rfl) rfl hb8) rfl (ltb rfl) ?_
                  refine DR.skip (i := 19) rfl (by kernel_rfl) (.no rfl rfl rfl (ltb rfl) rfl hb8) rfl (ltb rfl) ?_
                  refine DR.det (i := 20) rfl rfl (by kernel_rfl) (.free rfl) rfl rfl (fun wD mD => op_pick_f rfl hb8 rfl) ?_
                  refine DR.det (i := 21) rfl rfl (by kernel_rfl) (.free rfl) rfl rfl (fun wD mD => op_move rfl) ?_
                  refine DR.det (i := 22) rfl rfl (by kernel_rfl) (.yes rfl rfl rfl (ltb rfl) rfl rfl) rfl rfl (fun wD mD => op_move rfl) ?_
                  refine DR.det (i := 23) rfl rfl (by kernel_rfl) (.yes rfl rfl rfl (ltb rfl) rfl rfl) rfl rfl (fun wD mD => op_nilCheck rfl) ?_
                  refine DR.det (i := 24) rfl rfl (by kernel_rfl) (.yes rfl rfl rfl (ltb rfl) rfl rfl) rfl rfl (fun wD mD => op_fieldAddr (off' := 2) rfl Tryd.runUnderlying39 rfl rfl Tryd.sizeOf30 rfl) ?_
                  refine DR.det (i := 25) rfl rfl (by kernel_rfl) (.yes rfl rfl rfl (ltb rfl) rfl rfl) rfl rfl (fun wD mD => op_load1 (i := 2) rfl Tryd.isAgg30 ((((q.ext m1).ext m2).ext md3).ext mD) rfl rfl) ?_
                  refine DR.det (i := 26) rfl rfl (by kernel_rfl) (.yes rfl rfl rfl (ltb rfl) rfl rfl) rfl rfl (fun wD mD => op_move rfl) ?_
                  refine DR.det (i := 27) rfl rfl (by kernel_rfl) (.yes rfl rfl rfl (ltb rfl) rfl rfl) rfl rfl (fun wD mD => op_indexSl (off' := 0 + i) rfl rfl rfl Tryd.runUnderlying30 Tryd.sizeOf22 (by omega) (by omega) (by omega)) ?_
                  refine DR.det (i := 28) rfl rfl (by kernel_rfl) (.yes rfl rfl rfl (ltb rfl) rfl rfl) rfl rfl (fun wD mD => op_load1 (i := i) rfl Tryd.isAgg22 ((((r.ext m1).ext m2).ext md3).ext mD) rfl (fl_get (by have eL : List.length ds = n := ln; omega))) ?_
                  refine DR.det (i := 29) rfl rfl (by kernel_rfl) (.yes rfl rfl rfl (ltb rfl) rfl rfl) rfl rfl (fun wD mD => op_move rfl) ?_
                  refine DR.det (i := 30) rfl rfl (by kernel_rfl) (.yes rfl rfl rfl (ltb rfl) rfl rfl) rfl rfl (fun wD mD => op_nilCheck rfl) ?_
                  refine DR.det (i := 31) rfl rfl (by kernel_rfl) (.yes rfl rfl rfl (ltb rfl) rfl rfl) rfl rfl (fun wD mD => op_fieldAddr (off' := 1) rfl Tryd.runUnderlying39 rfl rfl Tryd.sizeOf22 rfl) ?_
                  refine DR.det (i := 32) rfl rfl (by kernel_rfl) (.yes rfl rfl rfl (ltb rfl) rfl rfl) rfl rfl (fun wD mD => op_load1 (i := 1) rfl Tryd.isAgg22 ((((q.ext m1).ext m2).ext md3).ext mD) rfl rfl) ?_
                  refine DR.done rfl ?_
                  intro w8 m5
                  refine WO.det (op_flt (c := fLt .f32 (ds.getD i 0) oc) rfl rfl rfl rfl rfl) rfl (.yes rfl rfl rfl (ltb rfl) rfl rfl) rfl rfl ?_
                  refine WO.det (op_not rfl) rfl (.yes rfl rfl rfl (ltb rfl) rfl rfl) rfl rfl ?_
                  refine WO.det (op_pick_f rfl rfl rfl) rfl (.free rfl) rfl rfl ?_
                  refine WO.end ?_
                  refine NE.code ?_
                  rcases Bool.eq_false_or_eq_true (fLt .f32 (ds.getD i 0) oc) with hb11 | hb11
                  · refine CE.cond_f rfl (bnot_t hb11) ?_
                    refine CE.skip' ?_
                    refine NE.blk ?_
                    refine NE.code ?_
                    refine CE.region ?_
                    refine WL.det (op_move rfl) rfl rfl rfl ?_
                    refine WL.det (op_add (r := ((i + 1 : Nat) : Int)) rfl rfl (w_i64 (by omega) (by omega))) rfl rfl rfl ?_
                    refine WL.det (op_assign rfl) rfl rfl rfl ?_
                    refine WL.end ?_
                    exact NE.again (i + 1) (⟨rfl, rfl, rfl, rfl, trivial⟩) ⟨(by omega), (by simp_all [tunL]), ((m2.nt md3).nt m5)⟩ (by first | (dsimp only; omega) | omega)
                  · refine CE.cond_t rfl (bnot_f hb11) ?_
                    refine CE.seq ?_
                    refine CE.region ?_
                    refine WL.det (op_assign rfl) rfl rfl rfl ?_
                    refine WL.end ?_
                    refine NE.code ?_
                    refine CE.ret' ?_
                    refine XE.ret_blk ?_
                    refine XE.ret_then ?_
                    refine XE.ret_then ?_
                    refine XE.ret_blk ?_
                    refine XE.ret_then ?_
                    refine XE.leave1 Tryd.results88 rfl ?_
                    refine ⟨?_, (((((Mod.refl [] w).nt m1).nt m2).nt md3).nt m5)⟩
                    all_goals first | exact congrArg Value.bool (tunF_f (by rintro ⟨a1, a2, a3, a4, a5, a6, a7⟩; first | omega | (simp_all; done) | (simp_all [cn_z]; done) | (rw [tunL_out (i := i) (by omega) (by simp_all)] at a7; cases a7))).symm | (have e9 : i = n := (by omega); subst e9; exact congrArg Value.bool (tunF_t (by assumption) (by simp_all) (by simp_all) (by omega) (by omega) (by first | omega | (rw [← cn_z]; assumption) | simp_all) hu).symm) | (have e7 := tunL_out (ds := ds) (oc := oc) (i := i) (n := n) (by omega) (by simp_all); simp [tunF, e7]; done) | (have e9 : i = n := (by omega); subst e9; simp_all [tunF]; done) | (simp_all [tunF]; done) | (simp_all [tunF]; omega)
              · have hp7 := of_decide_eq_false hb7
                refine CE.cond_f rfl hb7 ?_
                refine CE.exit' ?_
                refine XE.exit_then ?_
                refine XE.exit_then ?_
                refine XE.exit_here ?_
                refine NE.code ?_
                refine CE.seq ?_
                refine CE.region ?_
                refine WL.det (op_assign rfl) rfl rfl rfl ?_
                refine WL.end ?_
                refine NE.code ?_
                refine CE.ret' ?_
                refine XE.leave1 Tryd.results88 rfl ?_
                refine ⟨?_, (((Mod.refl [] w).nt m1).nt m2)⟩
                all_goals first | exact congrArg Value.bool (tunF_f (by rintro ⟨a1, a2, a3, a4, a5, a6, a7⟩; first | omega | (simp_all; done) | (simp_all [cn_z]; done) | (rw [tunL_out (i := i) (by omega) (by simp_all)] at a7; cases a7))).symm | (have e9 : i = n := (by omega); subst e9; exact congrArg Value.bool (tunF_t (by assumption) (by simp_all) (by simp_all) (by omega) (by omega) (by first | omega | (rw [← cn_z]; assumption) | simp_all) hu).symm) | (have e7 := tunL_out (ds := ds) (oc := oc) (i := i) (n := n) (by omega) (by simp_all); simp [tunF, e7]; done) | (have e9 : i = n := (by omega); subst e9; simp_all [tunF]; done) | (simp_all [tunF]; done) | (simp_all [tunF]; omega)
            · have hp6 := hb6; try simp only [Bool.and_eq_true, Bool.or_eq_true, Bool.not_eq_true', Bool.not_eq_false', Bool.and_eq_false_iff, Bool.or_eq_false_iff, decide_eq_true_eq, decide_eq_false_iff_not, beq_iff_eq, bne_iff_ne, beq_eq_false_iff_ne, bne_eq_false_iff_eq, ne_eq, Bool.false_eq_true, not_false_eq_true, not_true_eq_false, vIn_t, vIn_f] at hp6
              refine CE.cond_t rfl (bnot_f hb6) ?_
              refine CE.seq ?_
              refine CE.region ?_
              refine WL.det (op_assign rfl) rfl rfl rfl ?_
              refine WL.end ?_
              refine NE.code ?_
              refine CE.ret' ?_
              refine XE.ret_then ?_
              refine XE.leave1 Tryd.results88 rfl ?_
              refine ⟨?_, ((Mod.refl [] w).nt m1)⟩
              all_goals first | exact congrArg Value.bool (tunF_f (by rintro ⟨a1, a2, a3, a4, a5, a6, a7⟩; first | omega | (simp_all; done) | (simp_all [cn_z]; done) | (rw [tunL_out (i := i) (by omega) (by simp_all)] at a7; cases a7))).symm | (have e9 : i = n := (by omega); subst e9; exact congrArg Value.bool (tunF_t (by assumption) (by simp_all) (by simp_all) (by omega) (by omega) (by first | omega | (rw [← cn_z]; assumption) | simp_all) hu).symm) | (have e7 := tunL_out (ds := ds) (oc := oc) (i := i) (n := n) (by omega) (by simp_all); simp [tunF, e7]; done) | (have e9 : i = n := (by omega); subst e9; simp_all [tunF]; done) | (simp_all [tunF]; done) | (simp_all [tunF]; omega)
      · refine WL.no rfl rfl rfl (ltb rfl) rfl (bnot_f hb3) rfl (ltb rfl) ?_
        refine WL.no rfl rfl rfl (ltb rfl) rfl (bnot_f hb3) rfl (ltb rfl) ?_
        refine WL.det (op_pick_t rfl (bnot_f hb3) rfl) rfl rfl rfl ?_
        refine WL.det (op_move rfl) rfl rfl rfl ?_
        refine WL.no rfl rfl rfl (ltb rfl) rfl rfl rfl (ltb rfl) ?_
        refine WL.no rfl rfl rfl (ltb rfl) rfl rfl rfl (ltb rfl) ?_
        refine WL.det (op_pick_t rfl rfl rfl) rfl rfl rfl ?_
        refine WL.det (op_move rfl) rfl rfl rfl ?_
        refine WL.no rfl rfl rfl (ltb rfl) rfl rfl rfl (ltb rfl) ?_
        refine WL.no rfl rfl rfl (ltb rfl) rfl rfl rfl (ltb rfl) ?_
        refine WL.no rfl rfl rfl (ltb rfl) rfl rfl rfl (ltb rfl) ?_
        refine WL.no rfl rfl rfl (ltb rfl) rfl rfl rfl (ltb rfl) ?_
        refine WL.no rfl rfl rfl (ltb rfl) rfl rfl rfl (ltb rfl) ?_
        refine WL.no rfl rfl rfl (ltb rfl) rfl rfl rfl (ltb rfl) ?_
        refine WL.no rfl rfl rfl (ltb rfl) rfl rfl rfl (ltb rfl) ?_
        refine WL.no rfl rfl rfl (ltb rfl) rfl rfl rfl (ltb rfl) ?_
        refine WL.det (op_pick_t rfl rfl rfl) rfl rfl rfl ?_
        refine WL.end ?_
        refine NE.code ?_
        refine CE.cond_t rfl rfl ?_
        refine CE.seq ?_
        refine CE.region ?_
        refine WL.det (op_assign rfl) rfl rfl rfl ?_
        refine WL.end ?_
        refine NE.code ?_
        refine CE.ret' ?_
        refine XE.ret_then ?_
        refine XE.leave1 Tryd.results88 rfl ?_
        refine ⟨?_, ((Mod.refl [] w).nt m1)⟩
        all_goals first | exact congrArg Value.bool (tunF_f (by rintro ⟨a1, a2, a3, a4, a5, a6, a7⟩; first | omega | (simp_all; done) | (simp_all [cn_z]; done) | (rw [tunL_out (i := i) (by omega) (by simp_all)] at a7; cases a7))).symm | (have e9 : i = n := (by omega); subst e9; exact congrArg Value.bool (tunF_t (by assumption) (by simp_all) (by simp_all) (by omega) (by omega) (by first | omega | (rw [← cn_z]; assumption) | simp_all) hu).symm) | (have e7 := tunL_out (ds := ds) (oc := oc) (i := i) (n := n) (by omega) (by simp_all); simp [tunF, e7]; done) | (have e9 : i = n := (by omega); subst e9; simp_all [tunF]; done) | (simp_all [tunF]; done) | (simp_all [tunF]; omega)
    · refine WL.no rfl rfl rfl (ltb rfl) rfl hb2 rfl (ltb rfl) ?_
      refine WL.no rfl rfl rfl (ltb rfl) rfl hb2 rfl (ltb rfl) ?_
      refine WL.no rfl rfl rfl (ltb rfl) rfl hb2 rfl (ltb rfl) ?_
      refine WL.no rfl rfl rfl (ltb rfl) rfl hb2 rfl (ltb rfl) ?_
      refine WL.no rfl rfl rfl (ltb rfl) rfl hb2 rfl (ltb rfl) ?_
      refine WL.yes rfl rfl rfl (ltb rfl) rfl (bnot_t hb1) ?_
      refine WL.det (op_pick_f rfl hb2 rfl) rfl rfl rfl ?_
      refine WL.yes rfl rfl rfl (ltb rfl) rfl (bnot_t hb1) ?_
      refine WL.det (op_not rfl) rfl rfl rfl ?_
      refine WL.det (op_pick_f rfl (bnot_t hb1) rfl) rfl rfl rfl ?_
      refine WL.det (op_move rfl) rfl rfl rfl ?_
      refine WL.no rfl rfl rfl (ltb rfl) rfl rfl rfl (ltb rfl) ?_
      refine WL.no rfl rfl rfl (ltb rfl) rfl rfl rfl (ltb rfl) ?_
      refine WL.det (op_pick_t rfl rfl rfl) rfl rfl rfl ?_
      refine WL.det (op_move rfl) rfl rfl rfl ?_
      refine WL.no rfl rfl rfl (ltb rfl) rfl rfl rfl (ltb rfl) ?_
      refine WL.no rfl rfl rfl (ltb rfl) rfl rfl rfl (ltb rfl) ?_
      refine WL.det (op_pick_t rfl rfl rfl) rfl rfl rfl ?_
      refine WL.det (op_move rfl) rfl rfl rfl ?_
      refine WL.no rfl rfl rfl (ltb rfl) rfl rfl rfl (ltb rfl) ?_
      refine WL.no rfl rfl rfl (ltb rfl) rfl rfl rfl (ltb rfl) ?_
      refine WL.no rfl rfl rfl (ltb rfl) rfl rfl rfl (ltb rfl) ?_
      refine WL.no rfl rfl rfl (ltb rfl) rfl rfl rfl (ltb rfl) ?_
      refine WL.no rfl rfl rfl (ltb rfl) rfl rfl rfl (ltb rfl) ?_
      refine WL.no rfl rfl rfl (ltb rfl) rfl rfl rfl (ltb rfl) ?_
      refine WL.no rfl rfl rfl (ltb rfl) rfl rfl rfl (ltb rfl) ?_
      refine WL.no rfl rfl rfl (ltb rfl) rfl rfl rfl (ltb rfl) ?_
      refine WL.det (op_pick_t rfl rfl rfl) rfl rfl rfl ?_
      refine WL.end ?_
      refine NE.code ?_
      refine CE.cond_t rfl rfl ?_
      refine CE.seq ?_
      refine CE.region ?_
      refine WL.det (op_assign rfl) rfl rfl rfl ?_
      refine WL.end ?_
      refine NE.code ?_
      refine CE.ret' ?_
      refine XE.ret_then ?_
      refine XE.leave1 Tryd.results88 rfl ?_
      refine ⟨?_, ((Mod.refl [] w).nt m1)⟩
      all_goals first | exact congrArg Value.bool (tunF_f (by rintro ⟨a1, a2, a3, a4, a5, a6, a7⟩; first | omega | (simp_all; done) | (simp_all [cn_z]; done) | (rw [tunL_out (i := i) (by omega) (by simp_all)] at a7; cases a7))).symm | (have e9 : i = n := (by omega); subst e9; exact congrArg Value.bool (tunF_t (by assumption) (by simp_all) (by simp_all) (by omega) (by omega) (by first | omega | (rw [← cn_z]; assumption) | simp_all) hu).symm) | (have e7 := tunL_out (ds := ds) (oc := oc) (i := i) (n := n) (by omega) (by simp_all); simp [tunF, e7]; done) | (have e9 : i = n := (by omega); subst e9; simp_all [tunF]; done) | (simp_all [tunF]; done) | (simp_all [tunF]; omega)
  · refine WL.no rfl rfl rfl (ltb rfl) rfl (bnot_f hb1) rfl (ltb rfl) ?_
    refine WL.no rfl rfl rfl (ltb rfl) rfl (bnot_f hb1) rfl (ltb rfl) ?_
    refine WL.no rfl rfl rfl (ltb rfl) rfl (bnot_f hb1) rfl (ltb rfl) ?_
    refine WL.no rfl rfl rfl (ltb rfl) rfl (bnot_f hb1) rfl (ltb rfl) ?_
    refine WL.no rfl rfl rfl (ltb rfl) rfl (bnot_f hb1) rfl (ltb rfl) ?_
    refine WL.no rfl rfl rfl (ltb rfl) rfl (bnot_f hb1) rfl (ltb rfl) ?_
    refine WL.nou rfl rfl rfl (ltb rfl) rfl rfl (ltb rfl) ?_
    refine WL.nou rfl rfl rfl (ltb rfl) rfl rfl (ltb rfl) ?_
    refine WL.nou rfl rfl rfl (ltb rfl) rfl rfl (ltb rfl) ?_
    refine WL.nou rfl rfl rfl (ltb rfl) rfl rfl (ltb rfl) ?_
    refine WL.nou rfl rfl rfl (ltb rfl) rfl rfl (ltb rfl) ?_
    refine WL.no rfl rfl rfl (ltb rfl) rfl (bnot_f hb1) rfl (ltb rfl) ?_
    refine WL.no rfl rfl rfl (ltb rfl) rfl (bnot_f hb1) rfl (ltb rfl) ?_
    refine WL.det (op_pick_t rfl (bnot_f hb1) rfl) rfl rfl rfl ?_
    refine WL.det (op_move rfl) rfl rfl rfl ?_
    refine WL.no rfl rfl rfl (ltb rfl) rfl rfl rfl (ltb rfl) ?_
    refine WL.no rfl rfl rfl (ltb rfl) rfl rfl rfl (ltb rfl) ?_
    refine WL.det (op_pick_t rfl rfl rfl) rfl rfl rfl ?_
    refine WL.det (op_move rfl) rfl rfl rfl ?_
    refine WL.no rfl rfl rfl (ltb rfl) rfl rfl rfl (ltb rfl) ?_
    refine WL.no rfl rfl rfl (ltb rfl) rfl rfl rfl (ltb rfl) ?_
    refine WL.det (op_pick_t rfl rfl rfl) rfl rfl rfl ?_
    refine WL.det (op_move rfl) rfl rfl rfl ?_
    refine WL.no rfl rfl rfl (ltb rfl) rfl rfl rfl (ltb rfl) ?_
    refine WL.no rfl rfl rfl (ltb rfl) rfl rfl rfl (ltb rfl) ?_
    refine WL.no rfl rfl rfl (ltb rfl) rfl rfl rfl (ltb rfl) ?_
    refine WL.no rfl rfl rfl (ltb rfl) rfl rfl rfl (ltb rfl) ?_
    refine WL.no rfl rfl rfl (ltb rfl) rfl rfl rfl (ltb rfl) ?_
    refine WL.no rfl rfl rfl (ltb rfl) rfl rfl rfl (ltb rfl) ?_
    refine WL.no rfl rfl rfl (ltb rfl) rfl rfl rfl (ltb rfl) ?_
    refine WL.no rfl rfl rfl (ltb rfl) rfl rfl rfl (ltb rfl) ?_
    refine WL.det (op_pick_t rfl rfl rfl) rfl rfl rfl ?_
    refine WL.end ?_
    refine NE.code ?_
    refine CE.cond_t rfl rfl ?_
    refine CE.seq ?_
    refine CE.region ?_
    refine WL.det (op_assign rfl) rfl rfl rfl ?_
    refine WL.end ?_
    refine NE.code ?_
    refine CE.ret' ?_
    refine XE.ret_then ?_
    refine XE.leave1 Tryd.results88 rfl ?_
    refine ⟨?_, ((Mod.refl [] w).nt m1)⟩
    all_goals first | exact congrArg Value.bool (tunF_f (by rintro ⟨a1, a2, a3, a4, a5, a6, a7⟩; first | omega | (simp_all; done) | (simp_all [cn_z]; done) | (rw [tunL_out (i := i) (by omega) (by simp_all)] at a7; cases a7))).symm | (have e9 : i = n := (by omega); subst e9; exact congrArg Value.bool (tunF_t (by assumption) (by simp_all) (by simp_all) (by omega) (by omega) (by first | omega | (rw [← cn_z]; assumption) | simp_all) hu).symm) | (have e7 := tunL_out (ds := ds) (oc := oc) (i := i) (n := n) (by omega) (by simp_all); simp [tunF, e7]; done) | (have e9 : i = n := (by omega); subst e9; simp_all [tunF]; done) | (simp_all [tunF]; done) | (simp_all [tunF]; omega)

set_option maxRecDepth 100000 in
set_option maxHeartbeats 2000000 in
theorem c_sValidT (ba : Nat) (oc : Nat) (n : Nat) (c : Nat) (b : Nat) (ds : List Nat) (ln : ds.length = n) (hn : n ≤ 1048576) (w : World) (r : Rng w b 0 (fl ds)) : Cl Tryd.prog 64 #[.agg #[vF ba, vF oc, vS b 0 n c]] w fun v w' => v = .bool (tunF ba oc ds n) ∧ Mod [] w w' := by
  refine Cl.of Tryd.func64 Tryd.ntmps64 rfl rfl (ρ := [(0, .agg #[vF ba, vF oc, vS b 0 n c])]) rfl ?_
  refine CE.seq ?_
  refine CE.region ?_
  refine WL.op (op_box (cs := [vF ba, vF oc, vS b 0 n c]) rfl rfl) rfl rfl (ltb rfl) ?_
  rintro _ w1 ⟨rfl, r1, m1, z1⟩
  refine WL.det (op_assign rfl) rfl rfl rfl ?_
  refine WL.end ?_
  refine NE.code ?_
  refine CE.seq ?_
  refine CE.region ?_
  refine WL.call (oc_call (vs := [vP w.heap.size 0]) (cap := []) rfl rfl rfl Tryd.call88 (c_l07Ok ba oc n c b ds w.heap.size ln (by omega) w1 r1.rng (r.ext m1))) rfl rfl (ltb rfl) ?_
  rintro _ w2 ⟨rfl, m2⟩
  refine WL.det (op_assign rfl) rfl rfl rfl ?_
  refine WL.end ?_
  refine NE.code ?_
  refine CE.ret' ?_
  refine XE.leave1 Tryd.results64 rfl ?_
  refine ⟨rfl, (((Mod.refl [] w).nt m1).nt m2)⟩

set_option maxRecDepth 100000 in
set_option maxHeartbeats 2000000 in
theorem c_nameIn1 (nx : ByteArray) (kd : Int) (fa : Nat) (fb : Nat) (fc : Nat) (p : Nat) (nm : ByteArray) (w : World) (q : Rng w p 0 [.string nm]) : Cl Tryd.prog 95 #[.agg #[.string nx, vI kd, vF fa, vF fb, vF fc], vP p 0] w fun v w' => v = .bool (sEq nx nm) ∧ Mod [] w w' := by
  refine Cl.of Tryd.func95 Tryd.ntmps95 rfl rfl (ρ := [(0, .agg #[.string nx, vI kd, vF fa, vF fb, vF fc]), (1, vP p 0)]) rfl ?_
  refine CE.seq ?_
  refine CE.region ?_
  refine WL.op (op_box (cs := [.string nx, vI kd, vF fa, vF fb, vF fc]) rfl rfl) rfl rfl (ltb rfl) ?_
  rintro _ w1 ⟨rfl, r1, m1, z1⟩
  refine WL.det (op_assign rfl) rfl rfl rfl ?_
  refine WL.end ?_
  refine NE.code ?_
  refine CE.seq ?_
  refine CE.region ?_
  refine WL.det (op_fieldAddr (off' := 0) rfl Tryd.runUnderlying27 rfl rfl Tryd.sizeOf9 rfl) rfl rfl rfl ?_
  refine WL.det (op_load1 (i := 0) rfl Tryd.isAgg9 r1.rng rfl rfl) rfl rfl rfl ?_
  refine WL.det (op_load1 (i := 0) rfl Tryd.isAgg9 (q.ext m1) rfl rfl) rfl rfl rfl ?_
  refine WL.det (op_eqs rfl rfl) rfl rfl rfl ?_
  refine WL.det (op_assign rfl) rfl rfl rfl ?_
  refine WL.end ?_
  refine NE.code ?_
  refine CE.ret' ?_
  refine XE.leave1 Tryd.results95 rfl ?_
  refine ⟨?_, ((Mod.refl [] w).nt m1)⟩
  all_goals simp_all

set_option maxRecDepth 100000 in
set_option maxHeartbeats 2000000 in
theorem c_indexN (n : Nat) (c : Nat) (b : Nat) (es : List InR) (k : Nat) (p : Nat) (nm : ByteArray) (ln : es.length = n) (hn : n ≤ 1048576) (hk : k ≤ n) (w : World) (r : Rng w b 0 (cat InR.cells es)) (q : Rng w p 0 [.string nm]) : Cl Tryd.prog 94 #[vS b 0 k c, .func (.func 95) #[] #[vP p 0]] w fun v w' => ∃ (z : Int), v = vI z ∧ (decide ((0 : Int) ≤ z) = nameN es nm k) ∧ Mod [] w w' := by
  refine Cl.of Tryd.func94 Tryd.ntmps94 rfl rfl (ρ := [(0, vS b 0 k c), (1, .func (.func 95) #[] #[vP p 0])]) rfl ?_
  refine CE.seq ?_
  refine CE.region ?_
  refine WL.det (op_assign rfl) rfl rfl rfl ?_
  refine WL.end ?_
  refine NE.code ?_
  refine CE.seq ?_
  refine CE.seq ?_
  refine CE.region ?_
  refine WL.det (op_move rfl) rfl rfl rfl ?_
  refine WL.det (op_len rfl Tryd.runUnderlying40) rfl rfl rfl ?_
  refine WL.det (op_move rfl) rfl rfl rfl ?_
  refine WL.end ?_
  refine NE.code ?_
  refine CE.block ?_
  refine CE.loop (fun (i : Nat) => [(8, vI ((i : Nat) : Int)), (0, vS b 0 k c), (1, .func (.func 95) #[] #[vP p 0]), (4, vI 0), (7, vI ((k : Nat) : Int))]) (fun (i : Nat) => fun W => (i ≤ k) ∧ (nameN es nm i = false) ∧ Mod [] w W) (fun (i : Nat) => k - i) 0 (⟨rfl, rfl, rfl, rfl, rfl, trivial⟩) ⟨(by omega), (by rfl), Mod.refl _ _⟩ ?_
  rintro i w1 ⟨hi, hu, m1⟩
  show CE _ _ _ _ [(8, vI ((i : Nat) : Int)), (0, vS b 0 k c), (1, .func (.func 95) #[] #[vP p 0]), (4, vI 0), (7, vI ((k : Nat) : Int))] _
  refine CE.seq ?_
  refine CE.region ?_
  refine WL.det (op_lti rfl rfl) rfl rfl rfl ?_
  refine WL.end ?_
  refine NE.code ?_
  refine CE.seq ?_
  rcases Bool.eq_false_or_eq_true (decide (((i : Nat) : Int) < ((k : Nat) : Int))) with hb1 | hb1
  · have hp1 := of_decide_eq_true hb1
    refine CE.cond_t rfl hb1 ?_
    refine CE.skip' ?_
    refine NE.code ?_
    refine CE.seq ?_
    refine CE.block ?_
    refine CE.seq ?_
    refine CE.region ?_
    refine WL.det (op_move rfl) rfl rfl rfl ?_
    refine WL.det (op_assign rfl) rfl rfl rfl ?_
    refine WL.end ?_
    refine NE.code ?_
    refine CE.seq ?_
    refine CE.region ?_
    refine WL.det (op_move rfl) rfl rfl rfl ?_
    refine WL.det (op_move rfl) rfl rfl rfl ?_
    refine WL.det (op_move rfl) rfl rfl rfl ?_
    refine WL.det (op_indexSl (off' := 0 + i * 5) rfl rfl rfl Tryd.runUnderlying40 Tryd.sizeOf27 (by omega) (by omega) (by omega)) rfl rfl rfl ?_
    refine WL.det (op_loadA (i := i * 5) (cs := [.string ((es.getD i InR.d).name), vI ((es.getD i InR.d).kind), vF ((es.getD i InR.d).a), vF ((es.getD i InR.d).b), vF ((es.getD i InR.d).c)]) rfl Tryd.isAgg27 Tryd.sizeOf27 (r.ext m1) rfl (cat_at (f := InR.cells) (m := 5) (i := i) (d := InR.d) (fun _ => rfl) (by have eL : List.length es = n := ln; omega)) rfl) rfl rfl rfl ?_
    refine WL.call (oc_call (vs := [.agg #[.string ((es.getD i InR.d).name), vI ((es.getD i InR.d).kind), vF ((es.getD i InR.d).a), vF ((es.getD i InR.d).b), vF ((es.getD i InR.d).c)]]) (cap := [vP p 0]) rfl rfl rfl Tryd.call95 (c_nameIn1 ((es.getD i InR.d).name) ((es.getD i InR.d).kind) ((es.getD i InR.d).a) ((es.getD i InR.d).b) ((es.getD i InR.d).c) p nm w1 (q.ext m1))) rfl rfl (ltb rfl) ?_
    rintro _ w2 ⟨rfl, m2⟩
    refine WL.end ?_
    refine NE.code ?_
    rcases Bool.eq_false_or_eq_true ((sEq ((es.getD i InR.d).name) nm)) with hb2 | hb2
    · refine CE.cond_t rfl hb2 ?_
      refine CE.seq ?_
      refine CE.region ?_
      refine WL.det (op_move rfl) rfl rfl rfl ?_
      refine WL.det (op_assign rfl) rfl rfl rfl ?_
      refine WL.end ?_
      refine NE.code ?_
      refine CE.ret' ?_
      refine XE.ret_blk ?_
      refine XE.ret_then ?_
      refine XE.ret_then ?_
      refine XE.ret_blk ?_
      refine XE.ret_then ?_
      refine XE.leave1 Tryd.results94 rfl ?_
      refine ⟨((i : Nat) : Int), rfl, ?_, (((Mod.refl [] w).nt m1).nt m2)⟩
      all_goals first | (rw [nameN_in (i := i) (by omega) (by assumption)]; exact decide_eq_true (by omega)) | (have e9 : i = k := (by omega); subst e9; rw [hu]; exact decide_eq_false (by omega))
    · refine CE.cond_f rfl hb2 ?_
      refine CE.skip' ?_
      refine NE.blk ?_
      refine NE.code ?_
      refine CE.region ?_
      refine WL.det (op_add (r := ((i + 1 : Nat) : Int)) rfl rfl (w_i64 (by omega) (by omega))) rfl rfl rfl ?_
      refine WL.det (op_move rfl) rfl rfl rfl ?_
      refine WL.end ?_
      exact NE.again (i + 1) (⟨rfl, rfl, rfl, rfl, rfl, trivial⟩) ⟨(by omega), (by simp_all [nameN]), (m1.nt m2)⟩ (by first | (dsimp only; omega) | omega)
  · have hp1 := of_decide_eq_false hb1
    refine CE.cond_f rfl hb1 ?_
    refine CE.exit' ?_
    refine XE.exit_then ?_
    refine XE.exit_then ?_
    refine XE.exit_here ?_
    refine NE.code ?_
    refine CE.seq ?_
    refine CE.region ?_
    refine WL.det (op_assign rfl) rfl rfl rfl ?_
    refine WL.end ?_
    refine NE.code ?_
    refine CE.ret' ?_
    refine XE.leave1 Tryd.results94 rfl ?_
    refine ⟨(-1), rfl, ?_, ((Mod.refl [] w).nt m1)⟩
    all_goals first | (rw [nameN_in (i := i) (by omega) (by assumption)]; exact decide_eq_true (by omega)) | (have e9 : i = k := (by omega); subst e9; rw [hu]; exact decide_eq_false (by omega))

set_option maxRecDepth 100000 in
set_option maxHeartbeats 2000000 in
theorem c_nameIn (n : Nat) (c : Nat) (b : Nat) (es : List InR) (k : Nat) (nm : ByteArray) (ln : es.length = n) (hn : n ≤ 1048576) (hk : k ≤ n) (w : World) (r : Rng w b 0 (cat InR.cells es)) : Cl Tryd.prog 71 #[vS b 0 k c, .string nm] w fun v w' => ∃ (z : Int), v = vI z ∧ (decide ((0 : Int) ≤ z) = nameN es nm k) ∧ Mod [] w w' := by
  refine Cl.of Tryd.func71 Tryd.ntmps71 rfl rfl (ρ := [(0, vS b 0 k c), (1, .string nm)]) rfl ?_
  refine CE.seq ?_
  refine CE.region ?_
  refine WL.op (op_box (cs := [.string nm]) rfl rfl) rfl rfl (ltb rfl) ?_
  rintro _ w1 ⟨rfl, r1, m1, z1⟩
  refine WL.det (op_assign rfl) rfl rfl rfl ?_
  refine WL.end ?_
  refine NE.code ?_
  refine CE.seq ?_
  refine CE.region ?_
  refine WL.det (op_move rfl) rfl rfl rfl ?_
  refine WL.det (op_makeFunc (vs := []) (us := [vP w.heap.size 0]) rfl rfl) rfl rfl rfl ?_
  refine WL.call (oc_call (vs := [vS b 0 k c, .func (.func 95) #[] #[vP w.heap.size 0]]) (cap := []) rfl rfl rfl Tryd.call94 (c_indexN n c b es k w.heap.size nm ln (by omega) (by omega) w1 (r.ext m1) r1.rng)) rfl rfl (ltb rfl) ?_
  rintro _ w2 ⟨z2, rfl, h1, m2⟩
  refine WL.det (op_assign rfl) rfl rfl rfl ?_
  refine WL.end ?_
  refine NE.code ?_
  refine CE.ret' ?_
  refine XE.leave1 Tryd.results71 rfl ?_
  refine ⟨z2, rfl, ?_, (((Mod.refl [] w).nt m1).nt m2)⟩
  all_goals assumption

set_option maxRecDepth 100000 in
set_option maxHeartbeats 2000000 in
theorem c_areInstr (n : Nat) (c : Nat) (b : Nat) (es : List InR) (ln : es.length = n) (hn : n ≤ 1048576) (hS : ∀ i, (es.getD i InR.d).name.size ≤ 9223372036854775807) (hcn : n ≤ c) (w : World) (r : Rng w b 0 (cat InR.cells es)) : Cl Tryd.prog 45 #[vS b 0 n c] w fun v w' => v = .bool (insF es n) ∧ Mod [] w w' := by
  refine Cl.of Tryd.func45 Tryd.ntmps45 rfl rfl (ρ := [(0, vS b 0 n c)]) rfl ?_
  refine CE.seq ?_
  refine CE.region ?_
  refine WL.det (op_assign rfl) rfl rfl rfl ?_
  refine WL.end ?_
  refine NE.code ?_
  refine CE.seq ?_
  refine CE.seq ?_
  refine CE.region ?_
  refine WL.det (op_move rfl) rfl rfl rfl ?_
  refine WL.det (op_len rfl Tryd.runUnderlying40) rfl rfl rfl ?_
  refine WL.det (op_gti rfl rfl) rfl rfl rfl ?_
  refine WL.end ?_
  refine NE.code ?_
  rcases Bool.eq_false_or_eq_true (decide ((6 : Int) < ((n : Nat) : Int))) with hb1 | hb1
  · have hp1 := of_decide_eq_true hb1
    refine CE.cond_t rfl hb1 ?_
    refine CE.seq ?_
    refine CE.region ?_
    refine WL.det (op_assign rfl) rfl rfl rfl ?_
    refine WL.end ?_
    refine NE.code ?_
    refine CE.ret' ?_
    refine XE.ret_then ?_
    refine XE.leave1 Tryd.results45 rfl ?_
    refine ⟨?_, (Mod.refl [] w)⟩
    all_goals first | exact congrArg Value.bool (insF_f (by rintro ⟨a1, a2⟩; first | omega | (rw [insL_out (i := i) (by omega) (by simp_all)] at a2; cases a2))).symm | (have e9 : i = n := (by omega); subst e9; exact congrArg Value.bool (insF_t (by omega) hu).symm) | (have e7 := insL_out (es := es) (i := i) (n := n) (by omega) (by simp_all); simp [insF, e7]; done) | (have e9 : i = n := (by omega); subst e9; simp_all [insF]; done) | (simp_all [insF]; done) | (simp_all [insF]; omega)
  · have hp1 := of_decide_eq_false hb1
    refine CE.cond_f rfl hb1 ?_
    refine CE.skip' ?_
    refine NE.code ?_
    refine CE.seq ?_
    refine CE.seq ?_
    refine CE.region ?_
    refine WL.det (op_move rfl) rfl rfl rfl ?_
    refine WL.det (op_len rfl Tryd.runUnderlying40) rfl rfl rfl ?_
    refine WL.det (op_move rfl) rfl rfl rfl ?_
    refine WL.end ?_
    refine NE.code ?_
    refine CE.block ?_
    refine CE.loop (fun (i : Nat) => [(10, vI ((i : Nat) : Int)), (0, vS b 0 n c), (2, .bool false), (8, vS b 0 n c), (9, vI ((n : Nat) : Int))]) (fun (i : Nat) => fun W => (i ≤ n) ∧ (insL es i = true) ∧ Mod [] w W) (fun (i : Nat) => n - i) 0 (⟨rfl, rfl, rfl, rfl, rfl, trivial⟩) ⟨(by omega), (by rfl), Mod.refl _ _⟩ ?_
    rintro i w1 ⟨hi, hu, m1⟩
    have hsi := hS i
    show CE _ _ _ _ [(10, vI ((i : Nat) : Int)), (0, vS b 0 n c), (2, .bool false), (8, vS b 0 n c), (9, vI ((n : Nat) : Int))] _
    refine CE.seq ?_
    refine CE.region ?_
    refine WL.det (op_lti rfl rfl) rfl rfl rfl ?_
    refine WL.end ?_
    refine NE.code ?_
    refine CE.seq ?_
    rcases Bool.eq_false_or_eq_true (decide (((i : Nat) : Int) < ((n : Nat) : Int))) with hb2 | hb2
    · have hp2 := of_decide_eq_true hb2
      refine CE.cond_t rfl hb2 ?_
      refine CE.skip' ?_
      refine NE.code ?_
      refine CE.seq ?_
      refine CE.block ?_
      refine CE.seq ?_
      refine CE.region ?_
      refine WL.det (op_move rfl) rfl rfl rfl ?_
      refine WL.det (op_indexSl (off' := 0 + i * 5) rfl rfl rfl Tryd.runUnderlying40 Tryd.sizeOf27 (by omega) (by omega) (by omega)) rfl rfl rfl ?_
      refine WL.det (op_loadA (i := i * 5) (cs := [.string ((es.getD i InR.d).name), vI ((es.getD i InR.d).kind), vF ((es.getD i InR.d).a), vF ((es.getD i InR.d).b), vF ((es.getD i InR.d).c)]) rfl Tryd.isAgg27 Tryd.sizeOf27 (r.ext m1) rfl (cat_at (f := InR.cells) (m := 5) (i := i) (d := InR.d) (fun _ => rfl) (by have eL : List.length es = n := ln; omega)) rfl) rfl rfl rfl ?_
      refine WL.op (op_alloc (cs := [.string ByteArray.empty, vI 0, vF 0, vF 0, vF 0]) Tryd.zeroValue27 rfl) rfl rfl (ltb rfl) ?_
      rintro _ w2 ⟨rfl, r1, m2, z1⟩
      refine WL.det (op_assign rfl) rfl rfl rfl ?_
      refine WL.op0 (op_store (i := 0) (cs := [.string ((es.getD i InR.d).name), vI ((es.getD i InR.d).kind), vF ((es.getD i InR.d).a), vF ((es.getD i InR.d).b), vF ((es.getD i InR.d).c)]) rfl rfl rfl Tryd.sizeOf27 rfl r1 rfl (lB rfl) rfl) rfl rfl ?_
      rintro _ w3 ⟨r2, m3, z2⟩
      have r3 : Row w3 w1.heap.size 0 [.string ((es.getD i InR.d).name), vI ((es.getD i InR.d).kind), vF ((es.getD i InR.d).a), vF ((es.getD i InR.d).b), vF ((es.getD i InR.d).c)] := Row.congr r2 rfl
      refine WL.end ?_
      refine NE.code ?_
      refine CE.seq ?_
      rcases Bool.eq_false_or_eq_true (instF ((es.getD i InR.d).name) ((es.getD i InR.d).kind) ((es.getD i InR.d).a) ((es.getD i InR.d).b) ((es.getD i InR.d).c)) with hb3 | hb3
      · refine CE.draw (fun | 1 => some (fun _ wA uA wB => uA = .bool (instF ((es.getD i InR.d).name) ((es.getD i InR.d).kind) ((es.getD i InR.d).a) ((es.getD i InR.d).b) ((es.getD i InR.d).c)) ∧ Mod [] wA wB) | _ => none) [0, 1, 2, 3, 4, 5, 6, 7, 8] [9, 10, 11] [] (by kernel_rfl) (by kernel_rfl) ?_
        have md1 : Mod [] w3 w3.drew := (Mod.refl _ _).drew
        generalize w3.drew = w4 at md1 ⊢
        refine DR.det (i := 0) rfl rfl (by kernel_rfl) (.free rfl) rfl rfl (fun wD mD => op_loadA (i := 0) (cs := [.string ((es.getD i InR.d).name), vI ((es.getD i InR.d).kind), vF ((es.getD i InR.d).a), vF ((es.getD i InR.d).b), vF ((es.getD i InR.d).c)]) rfl Tryd.isAgg27 Tryd.sizeOf27 ((r3.ext md1).ext mD).rng rfl rfl rfl) ?_
        refine DR.call (i := 1) (fun uA => uA = .bool (instF ((es.getD i InR.d).name) ((es.getD i InR.d).kind) ((es.getD i InR.d).a) ((es.getD i InR.d).b) ((es.getD i InR.d).c))) rfl rfl (by kernel_rfl) (.free rfl) rfl (ltb rfl) ⟨_, rfl⟩ (vs := [.func (.func 12) #[] #[], .agg #[.string ((es.getD i InR.d).name), vI ((es.getD i InR.d).kind), vF ((es.getD i InR.d).a), vF ((es.getD i InR.d).b), vF ((es.getD i InR.d).c)]]) rfl (fun wD mD => oc_call (vs := [.agg #[.string ((es.getD i InR.d).name), vI ((es.getD i InR.d).kind), vF ((es.getD i InR.d).a), vF ((es.getD i InR.d).b), vF ((es.getD i InR.d).c)]]) (cap := []) rfl rfl rfl Tryd.call12 (c_iValidI ((es.getD i InR.d).name) ((es.getD i InR.d).kind) ((es.getD i InR.d).a) ((es.getD i InR.d).b) ((es.getD i InR.d).c) (by assumption) wD)) ?_ ?_
        · rintro w1 _ w2 m1 ⟨rfl, m2⟩; exact ⟨rfl, m2⟩
        rintro _ rfl
        refine DR.det (i := 2) rfl rfl (by kernel_rfl) (.free rfl) rfl rfl (fun wD mD => op_not rfl) ?_
        refine DR.det (i := 3) rfl rfl (by kernel_rfl) (.free rfl) rfl rfl (fun wD mD => op_move rfl) ?_
        refine DR.det (i := 4) rfl rfl (by kernel_rfl) (.yes rfl rfl rfl (ltb rfl) rfl (bnot_t hb3)) rfl rfl (fun wD mD => op_move rfl) ?_
        refine DR.det (i := 5) rfl rfl (by kernel_rfl) (.yes rfl rfl rfl (ltb rfl) rfl (bnot_t hb3)) rfl rfl (fun wD mD => op_move rfl) ?_
        refine DR.det (i := 6) rfl rfl (by kernel_rfl) (.yes rfl rfl rfl (ltb rfl) rfl (bnot_t hb3)) rfl rfl (fun wD mD => op_slHi' (j := i) rfl rfl rfl Tryd.runUnderlying40 Tryd.sizeOf27 (by omega)) ?_
        refine DR.det (i := 7) rfl rfl (by kernel_rfl) (.yes rfl rfl rfl (ltb rfl) rfl (bnot_t hb3)) rfl rfl (fun wD mD => op_fieldAddr (off' := 0) rfl Tryd.runUnderlying27 rfl rfl Tryd.sizeOf9 rfl) ?_
        refine DR.det (i := 8) rfl rfl (by kernel_rfl) (.yes rfl rfl rfl (ltb rfl) rfl (bnot_t hb3)) rfl rfl (fun wD mD => op_load1 (i := 0) rfl Tryd.isAgg9 ((r3.ext md1).ext mD).rng rfl rfl) ?_
        refine DR.done rfl ?_
        intro w5 m4
        refine WO.call rfl (.yes rfl rfl rfl (ltb rfl) rfl (bnot_t hb3)) rfl (ltb rfl) (oc_call (vs := [vS b 0 i c, .string ((es.getD i InR.d).name)]) (cap := []) rfl rfl rfl Tryd.call71 (c_nameIn n c b es i ((es.getD i InR.d).name) ln (by omega) (by omega) w5 (((Rng.youngS r ((r.ext m1).ext m2) m3 (allge_cons (lT m1.size lR) allge_nil)).ext md1).ext m4))) ?_
        rintro _ w6 ⟨z3, rfl, h1, m5⟩
        refine WO.det (op_gei rfl rfl) rfl (.yes rfl rfl rfl (ltb rfl) rfl (bnot_t hb3)) rfl rfl ?_
        refine WO.det (op_pick_f rfl (bnot_t hb3) rfl) rfl (.free rfl) rfl rfl ?_
        refine WO.end ?_
        refine NE.code ?_
        rcases Bool.eq_false_or_eq_true (decide ((0 : Int) ≤ z3)) with hb4 | hb4
        · have hp4 := of_decide_eq_true hb4
          refine CE.cond_t rfl hb4 ?_
          refine CE.seq ?_
          refine CE.region ?_
          refine WL.det (op_assign rfl) rfl rfl rfl ?_
          refine WL.end ?_
          refine NE.code ?_
          refine CE.ret' ?_
          refine XE.ret_blk ?_
          refine XE.ret_then ?_
          refine XE.ret_then ?_
          refine XE.ret_blk ?_
          refine XE.ret_then ?_
          refine XE.leave1 Tryd.results45 rfl ?_
          refine ⟨?_, (((((((Mod.refl [] w).nt m1).nt m2).then m3 ((aC (.inr (lT m1.size lR)) aN))).nt md1).nt m4).nt m5)⟩
          all_goals first | exact congrArg Value.bool (insF_f (by rintro ⟨a1, a2⟩; first | omega | (rw [insL_out (i := i) (by omega) (by simp_all)] at a2; cases a2))).symm | (have e9 : i = n := (by omega); subst e9; exact congrArg Value.bool (insF_t (by omega) hu).symm) | (have e7 := insL_out (es := es) (i := i) (n := n) (by omega) (by simp_all); simp [insF, e7]; done) | (have e9 : i = n := (by omega); subst e9; simp_all [insF]; done) | (simp_all [insF]; done) | (simp_all [insF]; omega)
        · have hp4 := of_decide_eq_false hb4
          refine CE.cond_f rfl hb4 ?_
          refine CE.skip' ?_
          refine NE.blk ?_
          refine NE.code ?_
          refine CE.region ?_
          refine WL.det (op_add (r := ((i + 1 : Nat) : Int)) rfl rfl (w_i64 (by omega) (by omega))) rfl rfl rfl ?_
          refine WL.det (op_move rfl) rfl rfl rfl ?_
          refine WL.end ?_
          exact NE.again (i + 1) (⟨rfl, rfl, rfl, rfl, rfl, trivial⟩) ⟨(by omega), (by simp_all [insL]), (((((m1.nt m2).then m3 ((aC (.inr (lT m1.size lR)) aN))).nt md1).nt m4).nt m5)⟩ (by first | (dsimp only; omega) | omega)
      · refine CE.draw (fun | 1 => some (fun _ wA uA wB => uA = .bool (instF ((es.getD i InR.d).name) ((es.getD i InR.d).kind) ((es.getD i InR.d).a) ((es.getD i InR.d).b) ((es.getD i InR.d).c)) ∧ Mod [] wA wB) | _ => none) [0, 1, 2, 3, 4, 5, 6, 7, 8] [9, 10, 11] [] (by kernel_rfl) (by kernel_rfl) ?_
        have md2 : Mod [] w3 w3.drew := (Mod.refl _ _).drew
        generalize w3.drew = w7 at md2 ⊢
        refine DR.det (i := 0) rfl rfl (by kernel_rfl) (.free rfl) rfl rfl (fun wD mD => op_loadA (i := 0) (cs := [.string ((es.getD i InR.d).name), vI ((es.getD i InR.d).kind), vF ((es.getD i InR.d).a), vF ((es.getD i InR.d).b), vF ((es.getD i InR.d).c)]) rfl Tryd.isAgg27 Tryd.sizeOf27 ((r3.ext md2).ext mD).rng rfl rfl rfl) ?_
        refine DR.call (i := 1) (fun uA => uA = .bool (instF ((es.getD i InR.d).name) ((es.getD i InR.d).kind) ((es.getD i InR.d).a) ((es.getD i InR.d).b) ((es.getD i InR.d).c))) rfl rfl (by kernel_rfl) (.free rfl) rfl (ltb rfl) ⟨_, rfl⟩ (vs := [.func (.func 12) #[] #[], .agg #[.string ((es.getD i InR.d).name), vI ((es.getD i InR.d).kind), vF ((es.getD i InR.d).a), vF ((es.getD i InR.d).b), vF ((es.getD i InR.d).c)]]) rfl (fun wD mD => oc_call (vs := [.agg #[.string ((es.getD i InR.d).name), vI ((es.getD i InR.d).kind), vF ((es.getD i InR.d).a), vF ((es.getD i InR.d).b), vF ((es.getD i InR.d).c)]]) (cap := []) rfl rfl rfl Tryd.call12 (c_iValidI ((es.getD i InR.d).name) ((es.getD i InR.d).kind) ((es.getD i InR.d).a) ((es.getD i InR.d).b) ((es.getD i InR.d).c) (by assumption) wD)) ?_ ?_
        · rintro w1 _ w2 m1 ⟨rfl, m2⟩; exact ⟨rfl, m2⟩
        rintro _ rfl
        refine DR.det (i := 2) rfl rfl (by kernel_rfl) (.free rfl) rfl rfl (fun wD mD => op_not rfl) ?_
        refine DR.det (i := 3) rfl rfl (by kernel_rfl) (.free rfl) rfl rfl (fun wD mD => op_move rfl) ?_
        refine DR.skip (i := 4) rfl (by kernel_rfl) (.no rfl rfl rfl (ltb rfl) rfl (bnot_f hb3)) rfl (ltb rfl) ?_
        refine DR.skip (i := 5) rfl (by kernel_rfl) (.no rfl rfl rfl (ltb rfl) rfl (bnot_f hb3)) rfl (ltb rfl) ?_
        refine DR.skip (i := 6) rfl (by kernel_rfl) (.no rfl rfl rfl (ltb rfl) rfl (bnot_f hb3)) rfl (ltb rfl) ?_
        refine DR.skip (i := 7) rfl (by kernel_rfl) (.no rfl rfl rfl (ltb rfl) rfl (bnot_f hb3)) rfl (ltb rfl) ?_
        refine DR.skip (i := 8) rfl (by kernel_rfl) (.no rfl rfl rfl (ltb rfl) rfl (bnot_f hb3)) rfl (ltb rfl) ?_
        refine DR.done rfl ?_
        intro w8 m6
        refine WO.skip rfl (.no rfl rfl rfl (ltb rfl) rfl (bnot_f hb3)) rfl (ltb rfl) ?_
        refine WO.skip rfl (.no rfl rfl rfl (ltb rfl) rfl (bnot_f hb3)) rfl (ltb rfl) ?_
        refine WO.det (op_pick_t rfl (bnot_f hb3) rfl) rfl (.free rfl) rfl rfl ?_
        refine WO.end ?_
        refine NE.code ?_
        refine CE.cond_t rfl rfl ?_
        refine CE.seq ?_
        refine CE.region ?_
        refine WL.det (op_assign rfl) rfl rfl rfl ?_
        refine WL.end ?_
        refine NE.code ?_
        refine CE.ret' ?_
        refine XE.ret_blk ?_
        refine XE.ret_then ?_
        refine XE.ret_then ?_
        refine XE.ret_blk ?_
        refine XE.ret_then ?_
        refine XE.leave1 Tryd.results45 rfl ?_
        refine ⟨?_, ((((((Mod.refl [] w).nt m1).nt m2).then m3 ((aC (.inr (lT m1.size lR)) aN))).nt md2).nt m6)⟩
        all_goals first | exact congrArg Value.bool (insF_f (by rintro ⟨a1, a2⟩; first | omega | (rw [insL_out (i := i) (by omega) (by simp_all)] at a2; cases a2))).symm | (have e9 : i = n := (by omega); subst e9; exact congrArg Value.bool (insF_t (by omega) hu).symm) | (have e7 := insL_out (es := es) (i := i) (n := n) (by omega) (by simp_all); simp [insF, e7]; done) | (have e9 : i = n := (by omega); subst e9; simp_all [insF]; done) | (simp_all [insF]; done) | (simp_all [insF]; omega)
    · have hp2 := of_decide_eq_false hb2
      refine CE.cond_f rfl hb2 ?_
      refine CE.exit' ?_
      refine XE.exit_then ?_
      refine XE.exit_then ?_
      refine XE.exit_here ?_
      refine NE.code ?_
      refine CE.seq ?_
      refine CE.region ?_
      refine WL.det (op_assign rfl) rfl rfl rfl ?_
      refine WL.end ?_
      refine NE.code ?_
      refine CE.ret' ?_
      refine XE.leave1 Tryd.results45 rfl ?_
      refine ⟨?_, ((Mod.refl [] w).nt m1)⟩
      all_goals first | exact congrArg Value.bool (insF_f (by rintro ⟨a1, a2⟩; first | omega | (rw [insL_out (i := i) (by omega) (by simp_all)] at a2; cases a2))).symm | (have e9 : i = n := (by omega); subst e9; exact congrArg Value.bool (insF_t (by omega) hu).symm) | (have e7 := insL_out (es := es) (i := i) (n := n) (by omega) (by simp_all); simp [insF, e7]; done) | (have e9 : i = n := (by omega); subst e9; simp_all [insF]; done) | (simp_all [insF]; done) | (simp_all [insF]; omega)

set_option maxRecDepth 100000 in
set_option maxHeartbeats 2000000 in
theorem c_l08InstrP (nx : ByteArray) (kd : Int) (fa : Nat) (fb : Nat) (fc : Nat) (p : Nat) (k : Nat) (vs : List Value) (hs : nx.size ≤ 9223372036854775807) (hk : k + 5 ≤ vs.length) (w : World) (q : Rng w p 0 (splice vs k [.string nx, vI kd, vF fa, vF fb, vF fc])) : Cl Tryd.prog 30 #[vP p k] w fun v w' => v = .bool (instF nx kd fa fb fc) ∧ Mod [] w w' := by
  refine Cl.of Tryd.func30 Tryd.ntmps30 rfl rfl (ρ := [(0, vP p k)]) rfl ?_
  refine CE.seq ?_
  refine CE.region ?_
  refine WL.det (op_assign rfl) rfl rfl rfl ?_
  refine WL.end ?_
  refine NE.code ?_
  refine CE.seq ?_
  refine CE.seq ?_
  refine CE.region ?_
  refine WL.det (op_move rfl) rfl rfl rfl ?_
  refine WL.det (op_nilCheck rfl) rfl rfl rfl ?_
  refine WL.det (op_fieldAddr (off' := k) rfl Tryd.runUnderlying27 rfl rfl Tryd.sizeOf9 rfl) rfl rfl rfl ?_
  refine WL.det (op_load1 (i := k) rfl Tryd.isAgg9 q (Nat.zero_add _) (sub_get (i := 0) hk rfl)) rfl rfl rfl ?_
  refine WL.call (oc_call (vs := [.string nx]) (cap := []) rfl rfl rfl Tryd.call59 (c_l08Name nx (by assumption) w)) rfl rfl (ltb rfl) ?_
  rintro _ w1 ⟨rfl, m1⟩
  refine WL.det (op_not rfl) rfl rfl rfl ?_
  refine WL.det (op_move rfl) rfl rfl rfl ?_
  rcases Bool.eq_false_or_eq_true (nameF nx) with hb1 | hb1
  · refine WL.yes rfl rfl rfl (ltb rfl) rfl (bnot_t hb1) ?_
    refine WL.det (op_move rfl) rfl rfl rfl ?_
    refine WL.yes rfl rfl rfl (ltb rfl) rfl (bnot_t hb1) ?_
    refine WL.det (op_nilCheck rfl) rfl rfl rfl ?_
    refine WL.yes rfl rfl rfl (ltb rfl) rfl (bnot_t hb1) ?_
    refine WL.det (op_fieldAddr (off' := k + 3) rfl Tryd.runUnderlying27 rfl rfl Tryd.sizeOf22 rfl) rfl rfl rfl ?_
    refine WL.yes rfl rfl rfl (ltb rfl) rfl (bnot_t hb1) ?_
    refine WL.det (op_load1 (i := k + 3) rfl Tryd.isAgg22 (q.ext m1) (Nat.zero_add _) (sub_get (i := 3) hk rfl)) rfl rfl rfl ?_
    refine WL.yes rfl rfl rfl (ltb rfl) rfl (bnot_t hb1) ?_
    refine WL.call (oc_call (vs := [vF fb, vF 1065353216, .bool false]) (cap := []) rfl rfl rfl Tryd.call60 (c_l08BetF fb 1065353216 w1)) rfl rfl (ltb rfl) ?_
    rintro _ w2 ⟨rfl, m2⟩
    refine WL.yes rfl rfl rfl (ltb rfl) rfl (bnot_t hb1) ?_
    refine WL.det (op_not rfl) rfl rfl rfl ?_
    refine WL.det (op_pick_f rfl (bnot_t hb1) rfl) rfl rfl rfl ?_
    refine WL.end ?_
    refine NE.code ?_
    rcases Bool.eq_false_or_eq_true (fGe .f32 fb 0 && fLe .f32 fb 1065353216) with hb2 | hb2
    · refine CE.cond_f rfl (bnot_t hb2) ?_
      refine CE.skip' ?_
      refine NE.code ?_
      refine CE.seq ?_
      refine CE.seq ?_
      refine CE.region ?_
      refine WL.det (op_move rfl) rfl rfl rfl ?_
      refine WL.det (op_nilCheck rfl) rfl rfl rfl ?_
      refine WL.det (op_fieldAddr (off' := k + 1) rfl Tryd.runUnderlying27 rfl rfl Tryd.sizeOf2 rfl) rfl rfl rfl ?_
      refine WL.det (op_load1 (i := k + 1) rfl Tryd.isAgg2 ((q.ext m1).ext m2) (Nat.zero_add _) (sub_get (i := 1) hk rfl)) rfl rfl rfl ?_
      refine WL.end ?_
      refine NE.code ?_
      refine CE.block ?_
      refine CE.seq ?_
      refine CE.region ?_
      refine WL.det (op_eqi rfl rfl) rfl rfl rfl ?_
      refine WL.det (op_assign rfl) rfl rfl rfl ?_
      refine WL.end ?_
      refine NE.code ?_
      rcases Bool.eq_false_or_eq_true ((kd == (1 : Int))) with hb3 | hb3
      · have hp3 := eq_of_beq hb3
        refine CE.cond_t rfl hb3 ?_
        refine CE.seq ?_
        refine CE.region ?_
        refine WL.det (op_move rfl) rfl rfl rfl ?_
        refine WL.det (op_nilCheck rfl) rfl rfl rfl ?_
        refine WL.det (op_fieldAddr (off' := k + 2) rfl Tryd.runUnderlying27 rfl rfl Tryd.sizeOf22 rfl) rfl rfl rfl ?_
        refine WL.det (op_load1 (i := k + 2) rfl Tryd.isAgg22 ((q.ext m1).ext m2) (Nat.zero_add _) (sub_get (i := 2) hk rfl)) rfl rfl rfl ?_
        refine WL.call (oc_call (vs := [vF fa, vF 1056964608, .bool false]) (cap := []) rfl rfl rfl Tryd.call60 (c_l08BetF fa 1056964608 w2)) rfl rfl (ltb rfl) ?_
        rintro _ w3 ⟨rfl, m3⟩
        refine WL.det (op_move rfl) rfl rfl rfl ?_
        rcases Bool.eq_false_or_eq_true ((fGe .f32 fa 0 && fLe .f32 fa 1056964608)) with hb4 | hb4
        · refine WL.yes rfl rfl rfl (ltb rfl) rfl hb4 ?_
          refine WL.det (op_move rfl) rfl rfl rfl ?_
          refine WL.yes rfl rfl rfl (ltb rfl) rfl hb4 ?_
          refine WL.det (op_nilCheck rfl) rfl rfl rfl ?_
          refine WL.yes rfl rfl rfl (ltb rfl) rfl hb4 ?_
          refine WL.det (op_fieldAddr (off' := k + 4) rfl Tryd.runUnderlying27 rfl rfl Tryd.sizeOf22 rfl) rfl rfl rfl ?_
          refine WL.yes rfl rfl rfl (ltb rfl) rfl hb4 ?_
          refine WL.det (op_load1 (i := k + 4) rfl Tryd.isAgg22 (((q.ext m1).ext m2).ext m3) (Nat.zero_add _) (sub_get (i := 4) hk rfl)) rfl rfl rfl ?_
          refine WL.yes rfl rfl rfl (ltb rfl) rfl hb4 ?_
          refine WL.call (oc_call (vs := [vF fc, vF 1065353216, .bool true]) (cap := []) rfl rfl rfl Tryd.call60 (c_l08BetT fc 1065353216 w3)) rfl rfl (ltb rfl) ?_
          rintro _ w4 ⟨rfl, m4⟩
          refine WL.det (op_pick_t rfl hb4 rfl) rfl rfl rfl ?_
          refine WL.det (op_assign rfl) rfl rfl rfl ?_
          refine WL.end ?_
          refine NE.code ?_
          refine CE.ret' ?_
          refine XE.ret_blk ?_
          refine XE.ret_then ?_
          refine XE.leave1 Tryd.results30 rfl ?_
          refine ⟨?_, (((((Mod.refl [] w).nt m1).nt m2).nt m3).nt m4)⟩
          all_goals simp_all [instF]
        · refine WL.no rfl rfl rfl (ltb rfl) rfl hb4 rfl (ltb rfl) ?_
          refine WL.no rfl rfl rfl (ltb rfl) rfl hb4 rfl (ltb rfl) ?_
          refine WL.no rfl rfl rfl (ltb rfl) rfl hb4 rfl (ltb rfl) ?_
          refine WL.no rfl rfl rfl (ltb rfl) rfl hb4 rfl (ltb rfl) ?_
          refine WL.no rfl rfl rfl (ltb rfl) rfl hb4 rfl (ltb rfl) ?_
          refine WL.det (op_pick_f rfl hb4 rfl) rfl rfl rfl ?_
          refine WL.det (op_assign rfl) rfl rfl rfl ?_
          refine WL.end ?_
          refine NE.code ?_
          refine CE.ret' ?_
          refine XE.ret_blk ?_
          refine XE.ret_then ?_
          refine XE.leave1 Tryd.results30 rfl ?_
          refine ⟨?_, ((((Mod.refl [] w).nt m1).nt m2).nt m3)⟩
          all_goals simp_all [instF]
      · have hp3 := ne_of_beq_false hb3
        refine CE.cond_f rfl hb3 ?_
        refine CE.seq ?_
        refine CE.region ?_
        refine WL.det (op_eqi rfl rfl) rfl rfl rfl ?_
        refine WL.det (op_assign rfl) rfl rfl rfl ?_
        refine WL.end ?_
        refine NE.code ?_
        rcases Bool.eq_false_or_eq_true ((kd == (2 : Int))) with hb5 | hb5
        · have hp5 := eq_of_beq hb5
          refine CE.cond_t rfl hb5 ?_
          refine CE.seq ?_
          refine CE.region ?_
          refine WL.det (op_move rfl) rfl rfl rfl ?_
          refine WL.det (op_nilCheck rfl) rfl rfl rfl ?_
          refine WL.det (op_fieldAddr (off' := k + 2) rfl Tryd.runUnderlying27 rfl rfl Tryd.sizeOf22 rfl) rfl rfl rfl ?_
          refine WL.det (op_load1 (i := k + 2) rfl Tryd.isAgg22 ((q.ext m1).ext m2) (Nat.zero_add _) (sub_get (i := 2) hk rfl)) rfl rfl rfl ?_
          refine WL.call (oc_call (vs := [vF fa, vF 1065353216, .bool true]) (cap := []) rfl rfl rfl Tryd.call60 (c_l08BetT fa 1065353216 w2)) rfl rfl (ltb rfl) ?_
          rintro _ w5 ⟨rfl, m5⟩
          refine WL.det (op_move rfl) rfl rfl rfl ?_
          rcases Bool.eq_false_or_eq_true ((fGe .f32 fa 0 && fLt .f32 fa 1065353216)) with hb6 | hb6
          · refine WL.yes rfl rfl rfl (ltb rfl) rfl hb6 ?_
            refine WL.det (op_move rfl) rfl rfl rfl ?_
            refine WL.yes rfl rfl rfl (ltb rfl) rfl hb6 ?_
            refine WL.det (op_nilCheck rfl) rfl rfl rfl ?_
            refine WL.yes rfl rfl rfl (ltb rfl) rfl hb6 ?_
            refine WL.det (op_fieldAddr (off' := k + 4) rfl Tryd.runUnderlying27 rfl rfl Tryd.sizeOf22 rfl) rfl rfl rfl ?_
            refine WL.yes rfl rfl rfl (ltb rfl) rfl hb6 ?_
            refine WL.det (op_load1 (i := k + 4) rfl Tryd.isAgg22 (((q.ext m1).ext m2).ext m5) (Nat.zero_add _) (sub_get (i := 4) hk rfl)) rfl rfl rfl ?_
            refine WL.yes rfl rfl rfl (ltb rfl) rfl hb6 ?_
            refine WL.det (op_feq (c := fEq .f32 fc 0) rfl rfl rfl rfl rfl) rfl rfl rfl ?_
            refine WL.yes rfl rfl rfl (ltb rfl) rfl hb6 ?_
            refine WL.det (op_move rfl) rfl rfl rfl ?_
            rcases Bool.eq_false_or_eq_true (fEq .f32 fc 0) with hb7 | hb7
            · refine WL.no rfl rfl rfl (ltb rfl) rfl hb7 rfl (ltb rfl) ?_
              refine WL.no rfl rfl rfl (ltb rfl) rfl hb7 rfl (ltb rfl) ?_
              refine WL.no rfl rfl rfl (ltb rfl) rfl hb7 rfl (ltb rfl) ?_
              refine WL.no rfl rfl rfl (ltb rfl) rfl hb7 rfl (ltb rfl) ?_
              refine WL.no rfl rfl rfl (ltb rfl) rfl hb7 rfl (ltb rfl) ?_
              refine WL.yes rfl rfl rfl (ltb rfl) rfl hb6 ?_
              refine WL.det (op_pick_t rfl hb7 rfl) rfl rfl rfl ?_
              refine WL.det (op_pick_t rfl hb6 rfl) rfl rfl rfl ?_
              refine WL.det (op_assign rfl) rfl rfl rfl ?_
              refine WL.end ?_
              refine NE.code ?_
              refine CE.ret' ?_
              refine XE.ret_blk ?_
              refine XE.ret_then ?_
              refine XE.leave1 Tryd.results30 rfl ?_
              refine ⟨?_, ((((Mod.refl [] w).nt m1).nt m2).nt m5)⟩
              all_goals simp_all [instF]
            · refine WL.yes rfl rfl rfl (ltb rfl) rfl hb7 ?_
              refine WL.det (op_move rfl) rfl rfl rfl ?_
              refine WL.yes rfl rfl rfl (ltb rfl) rfl hb7 ?_
              refine WL.det (op_nilCheck rfl) rfl rfl rfl ?_
              refine WL.yes rfl rfl rfl (ltb rfl) rfl hb7 ?_
              refine WL.det (op_fieldAddr (off' := k + 4) rfl Tryd.runUnderlying27 rfl rfl Tryd.sizeOf22 rfl) rfl rfl rfl ?_
              refine WL.yes rfl rfl rfl (ltb rfl) rfl hb7 ?_
              refine WL.det (op_load1 (i := k + 4) rfl Tryd.isAgg22 (((q.ext m1).ext m2).ext m5) (Nat.zero_add _) (sub_get (i := 4) hk rfl)) rfl rfl rfl ?_
              refine WL.yes rfl rfl rfl (ltb rfl) rfl hb7 ?_
              refine WL.det (op_feq (c := fEq .f32 fc 1065353216) rfl rfl rfl rfl rfl) rfl rfl rfl ?_
              refine WL.yes rfl rfl rfl (ltb rfl) rfl hb6 ?_
              refine WL.det (op_pick_f rfl hb7 rfl) rfl rfl rfl ?_
              refine WL.det (op_pick_t rfl hb6 rfl) rfl rfl rfl ?_
              refine WL.det (op_assign rfl) rfl rfl rfl ?_
              refine WL.end ?_
              refine NE.code ?_
              refine CE.ret' ?_
              refine XE.ret_blk ?_
              refine XE.ret_then ?_
              refine XE.leave1 Tryd.results30 rfl ?_
              refine ⟨?_, ((((Mod.refl [] w).nt m1).nt m2).nt m5)⟩
              all_goals simp_all [instF]
          · refine WL.no rfl rfl rfl (ltb rfl) rfl hb6 rfl (ltb rfl) ?_
            refine WL.no rfl rfl rfl (ltb rfl) rfl hb6 rfl (ltb rfl) ?_
            refine WL.no rfl rfl rfl (ltb rfl) rfl hb6 rfl (ltb rfl) ?_
            refine WL.no rfl rfl rfl (ltb rfl) rfl hb6 rfl (ltb rfl) ?_
            refine WL.no rfl rfl rfl (ltb rfl) rfl hb6 rfl (ltb rfl) ?_
            refine WL.no rfl rfl rfl (ltb rfl) rfl hb6 rfl (ltb rfl) ?_
            refine WL.nou rfl rfl rfl (ltb rfl) rfl rfl (ltb rfl) ?_
            refine WL.nou rfl rfl rfl (ltb rfl) rfl rfl (ltb rfl) ?_
            refine WL.nou rfl rfl rfl (ltb rfl) rfl rfl (ltb rfl) ?_
            refine WL.nou rfl rfl rfl (ltb rfl) rfl rfl (ltb rfl) ?_
            refine WL.nou rfl rfl rfl (ltb rfl) rfl rfl (ltb rfl) ?_
            refine WL.no rfl rfl rfl (ltb rfl) rfl hb6 rfl (ltb rfl) ?_
            refine WL.det (op_pick_f rfl hb6 rfl) rfl rfl rfl ?_
            refine WL.det (op_assign rfl) rfl rfl rfl ?_
            refine WL.end ?_
            refine NE.code ?_
            refine CE.ret' ?_
            refine XE.ret_blk ?_
            refine XE.ret_then ?_
            refine XE.leave1 Tryd.results30 rfl ?_
            refine ⟨?_, ((((Mod.refl [] w).nt m1).nt m2).nt m5)⟩
            all_goals simp_all [instF]
        · have hp5 := ne_of_beq_false hb5
          refine CE.cond_f rfl hb5 ?_
          refine CE.seq ?_
          refine CE.region ?_
          refine WL.det (op_eqi rfl rfl) rfl rfl rfl ?_
          refine WL.det (op_assign rfl) rfl rfl rfl ?_
          refine WL.end ?_
          refine NE.code ?_
          rcases Bool.eq_false_or_eq_true ((kd == (3 : Int))) with hb8 | hb8
          · have hp8 := eq_of_beq hb8
            refine CE.cond_t rfl hb8 ?_
            refine CE.seq ?_
            refine CE.region ?_
            refine WL.det (op_move rfl) rfl rfl rfl ?_
            refine WL.det (op_nilCheck rfl) rfl rfl rfl ?_
            refine WL.det (op_fieldAddr (off' := k + 2) rfl Tryd.runUnderlying27 rfl rfl Tryd.sizeOf22 rfl) rfl rfl rfl ?_
            refine WL.det (op_load1 (i := k + 2) rfl Tryd.isAgg22 ((q.ext m1).ext m2) (Nat.zero_add _) (sub_get (i := 2) hk rfl)) rfl rfl rfl ?_
            refine WL.call (oc_call (vs := [vF fa, vF 1065353216, .bool true]) (cap := []) rfl rfl rfl Tryd.call60 (c_l08BetT fa 1065353216 w2)) rfl rfl (ltb rfl) ?_
            rintro _ w6 ⟨rfl, m6⟩
            refine WL.det (op_move rfl) rfl rfl rfl ?_
            rcases Bool.eq_false_or_eq_true ((fGe .f32 fa 0 && fLt .f32 fa 1065353216)) with hb9 | hb9
            · refine WL.yes rfl rfl rfl (ltb rfl) rfl hb9 ?_
              refine WL.det (op_move rfl) rfl rfl rfl ?_
              refine WL.yes rfl rfl rfl (ltb rfl) rfl hb9 ?_
              refine WL.det (op_nilCheck rfl) rfl rfl rfl ?_
              refine WL.yes rfl rfl rfl (ltb rfl) rfl hb9 ?_
              refine WL.det (op_fieldAddr (off' := k + 4) rfl Tryd.runUnderlying27 rfl rfl Tryd.sizeOf22 rfl) rfl rfl rfl ?_
              refine WL.yes rfl rfl rfl (ltb rfl) rfl hb9 ?_
              refine WL.det (op_load1 (i := k + 4) rfl Tryd.isAgg22 (((q.ext m1).ext m2).ext m6) (Nat.zero_add _) (sub_get (i := 4) hk rfl)) rfl rfl rfl ?_
              refine WL.yes rfl rfl rfl (ltb rfl) rfl hb9 ?_
              refine WL.call (oc_call (vs := [vF fc]) (cap := []) rfl rfl rfl Tryd.call61 (c_l01Finite fc fc rfl w6)) rfl rfl (ltb rfl) ?_
              rintro _ w7 ⟨rfl, m7⟩
              refine WL.det (op_pick_t rfl hb9 rfl) rfl rfl rfl ?_
              refine WL.det (op_assign rfl) rfl rfl rfl ?_
              refine WL.end ?_
              refine NE.code ?_
              refine CE.ret' ?_
              refine XE.ret_blk ?_
              refine XE.ret_then ?_
              refine XE.leave1 Tryd.results30 rfl ?_
              refine ⟨?_, (((((Mod.refl [] w).nt m1).nt m2).nt m6).nt m7)⟩
              all_goals simp_all [instF]
            · refine WL.no rfl rfl rfl (ltb rfl) rfl hb9 rfl (ltb rfl) ?_
              refine WL.no rfl rfl rfl (ltb rfl) rfl hb9 rfl (ltb rfl) ?_
              refine WL.no rfl rfl rfl (ltb rfl) rfl hb9 rfl (ltb rfl) ?_
              refine WL.no rfl rfl rfl (ltb rfl) rfl hb9 rfl (ltb rfl) ?_
              refine WL.no rfl rfl rfl (ltb rfl) rfl hb9 rfl (ltb rfl) ?_
              refine WL.det (op_pick_f rfl hb9 rfl) rfl rfl rfl ?_
              refine WL.det (op_assign rfl) rfl rfl rfl ?_
              refine WL.end ?_
              refine NE.code ?_
              refine CE.ret' ?_
              refine XE.ret_blk ?_
              refine XE.ret_then ?_
              refine XE.leave1 Tryd.results30 rfl ?_
              refine ⟨?_, ((((Mod.refl [] w).nt m1).nt m2).nt m6)⟩
              all_goals simp_all [instF]
          · have hp8 := ne_of_beq_false hb8
            refine CE.cond_f rfl hb8 ?_
            refine CE.skip' ?_
            refine NE.blk ?_
            refine NE.code ?_
            refine CE.seq ?_
            refine CE.region ?_
            refine WL.det (op_assign rfl) rfl rfl rfl ?_
            refine WL.end ?_
            refine NE.code ?_
            refine CE.ret' ?_
            refine XE.leave1 Tryd.results30 rfl ?_
            refine ⟨?_, (((Mod.refl [] w).nt m1).nt m2)⟩
            all_goals simp_all [instF]
    · refine CE.cond_t rfl (bnot_f hb2) ?_
      refine CE.seq ?_
      refine CE.region ?_
      refine WL.det (op_assign rfl) rfl rfl rfl ?_
      refine WL.end ?_
      refine NE.code ?_
      refine CE.ret' ?_
      refine XE.ret_then ?_
      refine XE.leave1 Tryd.results30 rfl ?_
      refine ⟨?_, (((Mod.refl [] w).nt m1).nt m2)⟩
      all_goals simp_all [instF]
  · refine WL.no rfl rfl rfl (ltb rfl) rfl (bnot_f hb1) rfl (ltb rfl) ?_
    refine WL.no rfl rfl rfl (ltb rfl) rfl (bnot_f hb1) rfl (ltb rfl) ?_
    refine WL.no rfl rfl rfl (ltb rfl) rfl (bnot_f hb1) rfl (ltb rfl) ?_
    refine WL.no rfl rfl rfl (ltb rfl) rfl (bnot_f hb1) rfl (ltb rfl) ?_
    refine WL.no rfl rfl rfl (ltb rfl) rfl (bnot_f hb1) rfl (ltb rfl) ?_
    refine WL.no rfl rfl rfl (ltb rfl) rfl (bnot_f hb1) rfl (ltb rfl) ?_
    refine WL.det (op_pick_t rfl (bnot_f hb1) rfl) rfl rfl rfl ?_
    refine WL.end ?_
    refine NE.code ?_
    refine CE.cond_t rfl rfl ?_
    refine CE.seq ?_
    refine CE.region ?_
    refine WL.det (op_assign rfl) rfl rfl rfl ?_
    refine WL.end ?_
    refine NE.code ?_
    refine CE.ret' ?_
    refine XE.ret_then ?_
    refine XE.leave1 Tryd.results30 rfl ?_
    refine ⟨?_, ((Mod.refl [] w).nt m1)⟩
    all_goals simp_all [instF]

end Go.Proofs.YtdopidalhkcefaaDoor
