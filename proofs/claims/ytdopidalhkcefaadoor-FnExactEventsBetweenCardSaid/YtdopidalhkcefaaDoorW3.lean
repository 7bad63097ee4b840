/- Valid events: the reference. -/
import Derived.Test.YtdopidalhkcefaaDoorW2
set_option linter.unusedVariables false
set_option linter.unusedSimpArgs false
namespace Go.Proofs.YtdopidalhkcefaaDoor

theorem stepS_cnt {es : List EvR} {n m : Int} {i : Nat} (h : stepS es n m i = true) : vIn (es.getD i EvR.d).at_ (0 : Int) (100000 : Int) = true ∧ vIn (es.getD i EvR.d).note (0 : Int) (n - (1 : Int)) = true ∧ (((es.getD i EvR.d).kind = 2 ∧ cntK 2 es (es.getD i EvR.d).note i = 0 ∧ cntK 1 es (es.getD i EvR.d).note i = 0) ∨ ((es.getD i EvR.d).kind = 1 ∧ cntK 1 es (es.getD i EvR.d).note i = 0 ∧ cntK 2 es (es.getD i EvR.d).note i ≠ 0)) := by
  unfold stepS at h
  rw [Bool.and_eq_true, Bool.and_eq_true] at h
  obtain ⟨⟨a, b⟩, c⟩ := h
  refine ⟨a, b, ?_⟩
  by_cases k : (es.getD i EvR.d).kind = 2
  · rw [if_pos k] at c
    simp only [Bool.and_eq_true, beq_iff_eq] at c
    exact .inl ⟨k, c.2, c.1.1.1.1⟩
  · rw [if_neg k] at c
    simp only [Bool.and_eq_true, beq_iff_eq, bne_iff_ne] at c
    exact .inr ⟨c.1.1.1.1.1, c.2, c.1.1.1.1.2⟩
theorem evS1_cnt {es : List EvR} {n m : Int} : ∀ {i : Nat}, evS1 es n m i = true → ∀ z, cntK 2 es z i ≤ 1 ∧ cntK 1 es z i ≤ 1
  | 0, _, z => ⟨Nat.zero_le _, Nat.zero_le _⟩
  | i + 1, h, z => by
    unfold evS1 at h
    rw [Bool.and_eq_true] at h
    obtain ⟨a1, a2⟩ := evS1_cnt h.1 z
    obtain ⟨_, _, c⟩ := stepS_cnt h.2
    have e2 : cntK 2 es z (i + 1) = cntK 2 es z i + (if (es.getD i EvR.d).kind = 2 ∧ (es.getD i EvR.d).note = z then 1 else 0) := rfl
    have e1 : cntK 1 es z (i + 1) = cntK 1 es z i + (if (es.getD i EvR.d).kind = 1 ∧ (es.getD i EvR.d).note = z then 1 else 0) := rfl
    rw [e1, e2]
    by_cases hz : (es.getD i EvR.d).note = z
    · subst hz
      rcases c with ⟨k, c1, c2⟩ | ⟨k, c1, c2⟩
      · rw [if_pos ⟨k, rfl⟩, if_neg (fun e => by rw [k] at e; exact absurd e.1 (by decide))]; omega
      · rw [if_neg (fun e => by rw [k] at e; exact absurd e.1 (by decide)), if_pos ⟨k, rfl⟩]; omega
    · rw [if_neg (fun e => hz e.2), if_neg (fun e => hz e.2)]; omega
theorem evS_fn {es : List EvR} {N : Nat} {m : Int} (h : ¬ (N = 2 * (N / 2) ∧ N / 2 ≤ 64)) : evS es N m = false := by
  unfold evS
  by_cases h1 : N = 2 * (N / 2)
  · rw [decide_eq_false (p := N / 2 ≤ 64) (fun e => h ⟨h1, e⟩), Bool.and_false]; rfl
  · rw [decide_eq_false h1]; rfl
theorem evS_f1 {es : List EvR} {N : Nat} {m : Int} (h : evS1 es ((N / 2 : Nat) : Int) m N = false) : evS es N m = false := by unfold evS; rw [h, Bool.and_false]; rfl
theorem evS_f2 {es : List EvR} {N : Nat} {m : Int} (h : evS2 es N N = false) : evS es N m = false := by unfold evS; rw [h, Bool.and_false]
theorem evS_t {es : List EvR} {N : Nat} {m : Int} (h1 : N = 2 * (N / 2)) (h2 : N / 2 ≤ 64) (h3 : evS1 es ((N / 2 : Nat) : Int) m N = true) (h4 : evS2 es N N = true) : evS es N m = true := by
  unfold evS; rw [decide_eq_true h1, decide_eq_true h2, h3, h4]; rfl

set_option maxRecDepth 100000 in
set_option maxHeartbeats 2000000 in
theorem c_l08Events (n : Nat) (c : Nat) (b : Nat) (es : List EvR) (m : Int) (ln : es.length = n) (hn : n ≤ 1048576) (m1 : 0 ≤ m) (m2 : m ≤ 1048576) (w : World) (r : Rng w b 0 (cat EvR.cells es)) : Cl Tryd.prog 65 #[vS b 0 n c, vI m] w fun v w' => v = .bool (evS es n m) ∧ Mod [] w w' := by
  refine Cl.of Tryd.func65 Tryd.ntmps65 rfl rfl (ρ := [(0, vS b 0 n c), (1, vI m)]) rfl ?_
  refine CE.seq ?_
  refine CE.region ?_
  refine WL.det (op_assign rfl) rfl rfl rfl ?_
  refine WL.end ?_
  refine NE.code ?_
  refine CE.seq ?_
  refine CE.region ?_
  refine WL.det (op_move rfl) rfl rfl rfl ?_
  refine WL.det (op_len rfl Tryd.runUnderlying41) rfl rfl rfl ?_
  refine WL.det (op_quo (r := ((n / 2 : Nat) : Int)) rfl rfl (by omega) (quo_nat (by omega))) rfl rfl rfl ?_
  refine WL.det (op_assign rfl) rfl rfl rfl ?_
  refine WL.end ?_
  refine NE.code ?_
  refine CE.seq ?_
  refine CE.seq ?_
  refine CE.region ?_
  refine WL.det (op_move rfl) rfl rfl rfl ?_
  refine WL.det (op_len rfl Tryd.runUnderlying41) rfl rfl rfl ?_
  refine WL.det (op_move rfl) rfl rfl rfl ?_
  refine WL.det (op_mul (r := ((2 * (n / 2) : Nat) : Int)) rfl rfl (w_i64 (by omega) (by omega))) rfl rfl rfl ?_
  refine WL.det (op_nei rfl rfl) rfl rfl rfl ?_
  refine WL.det (op_move rfl) rfl rfl rfl ?_
  rcases Bool.eq_false_or_eq_true ((((n : Nat) : Int) != ((2 * (n / 2) : Nat) : Int))) with hb1 | hb1
  · have hp1 := bne_iff_ne.1 hb1
    refine WL.no rfl rfl rfl (ltb rfl) rfl hb1 rfl (ltb rfl) ?_
    refine WL.no rfl rfl rfl (ltb rfl) rfl hb1 rfl (ltb rfl) ?_
    refine WL.det (op_pick_t rfl hb1 rfl) rfl rfl rfl ?_
    refine WL.end ?_
    refine NE.code ?_
    refine CE.cond_t rfl rfl ?_
    refine CE.seq ?_
    refine CE.region ?_
    refine WL.det (op_assign rfl) rfl rfl rfl ?_
    refine WL.end ?_
    refine NE.code ?_
    refine CE.ret' ?_
    refine XE.ret_then ?_
    refine XE.leave1 Tryd.results65 rfl ?_
    refine ⟨?_, (Mod.refl [] w)⟩
    all_goals first | exact congrArg Value.bool (evS_fn (by omega)).symm | exact congrArg Value.bool (evS_f1 (evS1_out (i := i) (by omega) (by first | exact stepS_f (by rintro ⟨a1, a2⟩; rw [vIn_t] at a1 a2; omega) | exact stepS_f2 (by assumption) (by rintro ⟨a1, a2, a3, a4, a5⟩; rw [vIn_t] at a2 a3; first | omega | (have h9 : finF (es.getD i EvR.d).force = false := (by assumption); rw [a4] at h9; cases h9)) | exact stepS_f1 (by assumption) (by rintro ⟨a1, a2, a3, a4, a5⟩; first | omega | (have h9 : (cn .f32 (es.getD i EvR.d).force == cn .f32 0) = false := (by assumption); rw [a4] at h9; cases h9)) | exact stepS_f0 (by assumption) (by assumption)))).symm | exact congrArg Value.bool (evS_f2 (evS2_out (i := q) (by omega) (by omega) (by assumption))).symm | (have e8 : i = n := (by omega); rw [e8] at hu; have e9 : q = n ∨ n = 0 := (by omega); rcases e9 with e9 | e9; (rw [e9] at hv; exact congrArg Value.bool (evS_t (by omega) (by omega) hu hv).symm); (exact congrArg Value.bool (evS_t (by omega) (by omega) hu (by rw [e9]; rfl)).symm))
  · have hp1 := bne_eq_false_iff_eq.1 hb1
    refine WL.yes rfl rfl rfl (ltb rfl) rfl hb1 ?_
    refine WL.det (op_move rfl) rfl rfl rfl ?_
    refine WL.yes rfl rfl rfl (ltb rfl) rfl hb1 ?_
    refine WL.det (op_gti rfl rfl) rfl rfl rfl ?_
    refine WL.det (op_pick_f rfl hb1 rfl) rfl rfl rfl ?_
    refine WL.end ?_
    refine NE.code ?_
    rcases Bool.eq_false_or_eq_true (decide ((64 : Int) < ((n / 2 : Nat) : Int))) with hb2 | hb2
    · have hp2 := of_decide_eq_true hb2
      refine CE.cond_t rfl hb2 ?_
      refine CE.seq ?_
      refine CE.region ?_
      refine WL.det (op_assign rfl) rfl rfl rfl ?_
      refine WL.end ?_
      refine NE.code ?_
      refine CE.ret' ?_
      refine XE.ret_then ?_
      refine XE.leave1 Tryd.results65 rfl ?_
      refine ⟨?_, (Mod.refl [] w)⟩
      all_goals first | exact congrArg Value.bool (evS_fn (by omega)).symm | exact congrArg Value.bool (evS_f1 (evS1_out (i := i) (by omega) (by first | exact stepS_f (by rintro ⟨a1, a2⟩; rw [vIn_t] at a1 a2; omega) | exact stepS_f2 (by assumption) (by rintro ⟨a1, a2, a3, a4, a5⟩; rw [vIn_t] at a2 a3; first | omega | (have h9 : finF (es.getD i EvR.d).force = false := (by assumption); rw [a4] at h9; cases h9)) | exact stepS_f1 (by assumption) (by rintro ⟨a1, a2, a3, a4, a5⟩; first | omega | (have h9 : (cn .f32 (es.getD i EvR.d).force == cn .f32 0) = false := (by assumption); rw [a4] at h9; cases h9)) | exact stepS_f0 (by assumption) (by assumption)))).symm | exact congrArg Value.bool (evS_f2 (evS2_out (i := q) (by omega) (by omega) (by assumption))).symm | (have e8 : i = n := (by omega); rw [e8] at hu; have e9 : q = n ∨ n = 0 := (by omega); rcases e9 with e9 | e9; (rw [e9] at hv; exact congrArg Value.bool (evS_t (by omega) (by omega) hu hv).symm); (exact congrArg Value.bool (evS_t (by omega) (by omega) hu (by rw [e9]; rfl)).symm))
    · have hp2 := of_decide_eq_false hb2
      refine CE.cond_f rfl hb2 ?_
      refine CE.skip' ?_
      refine NE.code ?_
      refine CE.seq ?_
      refine CE.region ?_
      refine WL.det (op_move rfl) rfl rfl rfl ?_
      refine WL.op (op_makeR (f := IntR.cells) (d := IntR.d) (i := Tryd.t2) (m := n / 2) (sz := 1) (bt := 8) rfl rfl rfl rfl Tryd.underlying104 rfl rfl rfl rfl (by decide) rfl rfl (by decide) (by omega)) rfl rfl (ltb rfl) ?_
      rintro _ w1 ⟨rfl, r1, m1, z1⟩
      refine WL.det (op_assign rfl) rfl rfl rfl ?_
      refine WL.end ?_
      refine NE.code ?_
      refine CE.seq ?_
      refine CE.region ?_
      refine WL.det (op_move rfl) rfl rfl rfl ?_
      refine WL.op (op_makeR (f := IntR.cells) (d := IntR.d) (i := Tryd.t2) (m := n / 2) (sz := 1) (bt := 8) rfl rfl rfl rfl Tryd.underlying104 rfl rfl rfl rfl (by decide) rfl rfl (by decide) (by omega)) rfl rfl (ltb rfl) ?_
      rintro _ w2 ⟨rfl, r2, m2, z2⟩
      refine WL.det (op_assign rfl) rfl rfl rfl ?_
      refine WL.end ?_
      refine NE.code ?_
      refine CE.seq ?_
      refine CE.seq ?_
      refine CE.region ?_
      refine WL.det (op_assign rfl) rfl rfl rfl ?_
      refine WL.end ?_
      refine NE.code ?_
      refine CE.block ?_
      refine CE.loop (fun (z : Nat × List IntR × List IntR) => [(8, vI ((z.1 : Nat) : Int)), (0, vS b 0 n c), (1, vI m), (4, .bool false), (5, vI ((n / 2 : Nat) : Int)), (6, vS w.heap.size 0 (n / 2) (n / 2)), (7, vS w1.heap.size 0 (n / 2) (n / 2))]) (fun (z : Nat × List IntR × List IntR) => fun W => (z.1 ≤ n) ∧ (z.2.1.length = n / 2) ∧ (z.2.2.length = n / 2) ∧ (∀ j, j < n / 2 → (z.2.1.getD j IntR.d).v = ((cntK 2 es ((j : Nat) : Int) z.1 : Nat) : Int)) ∧ (∀ j, j < n / 2 → (z.2.2.getD j IntR.d).v = ((cntK 1 es ((j : Nat) : Int) z.1 : Nat) : Int)) ∧ (evS1 es ((n / 2 : Nat) : Int) m z.1 = true) ∧ Row W w.heap.size 0 (cat IntR.cells z.2.1) ∧ Row W w1.heap.size 0 (cat IntR.cells z.2.2) ∧ Mod [w.heap.size, w1.heap.size] w2 W) (fun (z : Nat × List IntR × List IntR) => n - z.1) (0, (List.replicate (n / 2) IntR.d), (List.replicate (n / 2) IntR.d)) (⟨rfl, rfl, rfl, rfl, rfl, rfl, rfl, trivial⟩) ⟨(by omega), (by exact List.length_replicate), (by exact List.length_replicate), (by exact cnt_zero), (by exact cnt_zero), (by rfl), (Row.congr (r1.ext m2) rfl), (Row.congr r2 rfl), Mod.refl _ _⟩ ?_
      rintro ⟨i, ss, ps⟩ w3 ⟨hi, lss, lps, hss, hps, hu, r3, r4, m3⟩
      replace hi : i ≤ n := hi
      replace lss : ss.length = n / 2 := lss
      replace lps : ps.length = n / 2 := lps
      replace hss : ∀ j, j < n / 2 → (ss.getD j IntR.d).v = ((cntK 2 es ((j : Nat) : Int) i : Nat) : Int) := hss
      replace hps : ∀ j, j < n / 2 → (ps.getD j IntR.d).v = ((cntK 1 es ((j : Nat) : Int) i : Nat) : Int) := hps
      replace hu : evS1 es ((n / 2 : Nat) : Int) m i = true := hu
      replace r3 : Row w3 w.heap.size 0 (cat IntR.cells ss) := r3
      replace r4 : Row w3 w1.heap.size 0 (cat IntR.cells ps) := r4
      have hc1 := cntK_le 1 es (es.getD i EvR.d).note i
      have hc2 := cntK_le 2 es (es.getD i EvR.d).note i
      have hc3 := evS1_cnt hu (es.getD i EvR.d).note
      show CE _ _ _ _ [(8, vI ((i : Nat) : Int)), (0, vS b 0 n c), (1, vI m), (4, .bool false), (5, vI ((n / 2 : Nat) : Int)), (6, vS w.heap.size 0 (n / 2) (n / 2)), (7, vS w1.heap.size 0 (n / 2) (n / 2))] _
      refine CE.seq ?_
      refine CE.seq ?_
      refine CE.region ?_
      refine WL.det (op_move rfl) rfl rfl rfl ?_
      refine WL.det (op_move rfl) rfl rfl rfl ?_
      refine WL.det (op_len rfl Tryd.runUnderlying41) rfl rfl rfl ?_
      refine WL.det (op_lti rfl rfl) rfl rfl rfl ?_
      refine WL.end ?_
      refine NE.code ?_
      rcases Bool.eq_false_or_eq_true (decide (((i : Nat) : Int) < ((n : Nat) : Int))) with hb3 | hb3
      · have hp3 := of_decide_eq_true hb3
        refine CE.cond_t rfl hb3 ?_
        refine CE.skip' ?_
        refine NE.code ?_
        refine CE.seq ?_
        refine CE.block ?_
        refine CE.seq ?_
        refine CE.region ?_
        refine WL.det (op_move rfl) rfl rfl rfl ?_
        refine WL.det (op_move rfl) rfl rfl rfl ?_
        refine WL.det (op_indexSl (off' := 0 + i * 6) rfl rfl rfl Tryd.runUnderlying41 Tryd.sizeOf72 (by omega) (by omega) (by omega)) rfl rfl rfl ?_
        refine WL.det (op_assign rfl) rfl rfl rfl ?_
        refine WL.end ?_
        refine NE.code ?_
        refine CE.seq ?_
        refine CE.seq ?_
        refine CE.region ?_
        refine WL.det (op_move rfl) rfl rfl rfl ?_
        refine WL.det (op_nilCheck rfl) rfl rfl rfl ?_
        refine WL.det (op_fieldAddr (off' := 0 + i * 6) rfl Tryd.runUnderlying72 rfl rfl Tryd.sizeOf2 rfl) rfl rfl rfl ?_
        refine WL.det (op_load1 (i := i * 6) rfl Tryd.isAgg2 (Rng.youngS r ((r.ext m1).ext m2) m3 (allge_cons lR (allge_cons (lT m1.size lR) allge_nil))) rfl (cat_get0 (f := EvR.cells) (m := 6) (i := i) (d := EvR.d) (fun _ => rfl) (by have eL : List.length es = n := ln; omega) rfl)) rfl rfl rfl ?_
        refine WL.call (oc_call (vs := [vI ((es.getD i EvR.d).at_), vI 0, vI 100000]) (cap := []) rfl rfl rfl Tryd.call80 (c_l00In ((es.getD i EvR.d).at_) (0 : Int) (100000 : Int) w3)) rfl rfl (ltb rfl) ?_
        rintro _ _ ⟨rfl, rfl⟩
        refine WL.det (op_not rfl) rfl rfl rfl ?_
        refine WL.det (op_move rfl) rfl rfl rfl ?_
        rcases Bool.eq_false_or_eq_true (vIn ((es.getD i EvR.d).at_) (0 : Int) (100000 : Int)) with hb4 | hb4
        · have hp4 := hb4; try simp only [Bool.and_eq_true, Bool.or_eq_true, Bool.not_eq_true', Bool.not_eq_false', Bool.and_eq_false_iff, Bool.or_eq_false_iff, decide_eq_true_eq, decide_eq_false_iff_not, beq_iff_eq, bne_iff_ne, beq_eq_false_iff_ne, bne_eq_false_iff_eq, ne_eq, Bool.false_eq_true, not_false_eq_true, not_true_eq_false, vIn_t, vIn_f] at hp4
          refine WL.yes rfl rfl rfl (ltb rfl) rfl (bnot_t hb4) ?_
          refine WL.det (op_move rfl) rfl rfl rfl ?_
          refine WL.yes rfl rfl rfl (ltb rfl) rfl (bnot_t hb4) ?_
          refine WL.det (op_nilCheck rfl) rfl rfl rfl ?_
          refine WL.yes rfl rfl rfl (ltb rfl) rfl (bnot_t hb4) ?_
          refine WL.det (op_fieldAddr (off' := 0 + i * 6 + 2) rfl Tryd.runUnderlying72 rfl rfl Tryd.sizeOf2 rfl) rfl rfl rfl ?_
          refine WL.yes rfl rfl rfl (ltb rfl) rfl (bnot_t hb4) ?_
          refine WL.det (op_load1 (i := i * 6 + 2) rfl Tryd.isAgg2 (Rng.youngS r ((r.ext m1).ext m2) m3 (allge_cons lR (allge_cons (lT m1.size lR) allge_nil))) rfl (cat_get (f := EvR.cells) (m := 6) (i := i) (d := EvR.d) (fun _ => rfl) (by have eL : List.length es = n := ln; omega) rfl)) rfl rfl rfl ?_
          refine WL.yes rfl rfl rfl (ltb rfl) rfl (bnot_t hb4) ?_
          refine WL.det (op_move rfl) rfl rfl rfl ?_
          refine WL.yes rfl rfl rfl (ltb rfl) rfl (bnot_t hb4) ?_
          refine WL.det (op_sub (r := ((n / 2 - 1 : Nat) : Int)) rfl rfl (w_nsub (l := n / 2) (n := 1) (by omega) (by omega))) rfl rfl rfl ?_
          refine WL.yes rfl rfl rfl (ltb rfl) rfl (bnot_t hb4) ?_
          refine WL.call (oc_call (vs := [vI ((es.getD i EvR.d).note), vI 0, vI ((n / 2 - 1 : Nat) : Int)]) (cap := []) rfl rfl rfl Tryd.call80 (c_l00In ((es.getD i EvR.d).note) (0 : Int) ((n / 2 - 1 : Nat) : Int) w3)) rfl rfl (ltb rfl) ?_
          rintro _ _ ⟨rfl, rfl⟩
          refine WL.yes rfl rfl rfl (ltb rfl) rfl (bnot_t hb4) ?_
          refine WL.det (op_not rfl) rfl rfl rfl ?_
          refine WL.det (op_pick_f rfl (bnot_t hb4) rfl) rfl rfl rfl ?_
          refine WL.end ?_
          refine NE.code ?_
          rcases Bool.eq_false_or_eq_true (vIn ((es.getD i EvR.d).note) (0 : Int) ((n / 2 - 1 : Nat) : Int)) with hb5 | hb5
          · have hp5 := hb5; try simp only [Bool.and_eq_true, Bool.or_eq_true, Bool.not_eq_true', Bool.not_eq_false', Bool.and_eq_false_iff, Bool.or_eq_false_iff, decide_eq_true_eq, decide_eq_false_iff_not, beq_iff_eq, bne_iff_ne, beq_eq_false_iff_ne, bne_eq_false_iff_eq, ne_eq, Bool.false_eq_true, not_false_eq_true, not_true_eq_false, vIn_t, vIn_f] at hp5
            refine CE.cond_f rfl (bnot_t hb5) ?_
            refine CE.skip' ?_
            refine NE.code ?_
            refine CE.seq ?_
            refine CE.seq ?_
            refine CE.region ?_
            refine WL.det (op_move rfl) rfl rfl rfl ?_
            refine WL.det (op_nilCheck rfl) rfl rfl rfl ?_
            refine WL.det (op_fieldAddr (off' := 0 + i * 6 + 1) rfl Tryd.runUnderlying72 rfl rfl Tryd.sizeOf2 rfl) rfl rfl rfl ?_
            refine WL.det (op_load1 (i := i * 6 + 1) rfl Tryd.isAgg2 (Rng.youngS r ((r.ext m1).ext m2) m3 (allge_cons lR (allge_cons (lT m1.size lR) allge_nil))) rfl (cat_get (f := EvR.cells) (m := 6) (i := i) (d := EvR.d) (fun _ => rfl) (by have eL : List.length es = n := ln; omega) rfl)) rfl rfl rfl ?_
            refine WL.end ?_
            refine NE.code ?_
            refine CE.block ?_
            refine CE.seq ?_
            refine CE.region ?_
            refine WL.det (op_eqi rfl rfl) rfl rfl rfl ?_
            refine WL.det (op_assign rfl) rfl rfl rfl ?_
            refine WL.end ?_
            refine NE.code ?_
            rcases Bool.eq_false_or_eq_true ((((es.getD i EvR.d).kind) == (2 : Int))) with hb6 | hb6
            · have hp6 := eq_of_beq hb6
              refine CE.cond_t rfl hb6 ?_
              refine CE.seq ?_
              refine CE.region ?_
              refine WL.det (op_move rfl) rfl rfl rfl ?_
              refine WL.det (op_move rfl) rfl rfl rfl ?_
              refine WL.det (op_nilCheck rfl) rfl rfl rfl ?_
              refine WL.det (op_fieldAddr (off' := 0 + i * 6 + 2) rfl Tryd.runUnderlying72 rfl rfl Tryd.sizeOf2 rfl) rfl rfl rfl ?_
              refine WL.det (op_load1 (i := i * 6 + 2) rfl Tryd.isAgg2 (Rng.youngS r ((r.ext m1).ext m2) m3 (allge_cons lR (allge_cons (lT m1.size lR) allge_nil))) rfl (cat_get (f := EvR.cells) (m := 6) (i := i) (d := EvR.d) (fun _ => rfl) (by have eL : List.length es = n := ln; omega) rfl)) rfl rfl rfl ?_
              refine WL.det (op_indexSl (off' := 0 + (((es.getD i EvR.d).note)).toNat * 1) rfl rfl rfl Tryd.runUnderlying104 Tryd.sizeOf2 (by omega) (by omega) (by omega)) rfl rfl rfl ?_
              refine WL.det (op_load1 (i := (((es.getD i EvR.d).note)).toNat * 1) rfl Tryd.isAgg2 r3.rng rfl (cat_get0 (f := IntR.cells) (m := 1) (i := (((es.getD i EvR.d).note)).toNat) (d := IntR.d) (fun _ => rfl) (by have eL : List.length ss = (n / 2) := lss; omega) (congrArg (fun z => some (vI z)) (cnt_at hss (by omega) (by omega))))) rfl rfl rfl ?_
              refine WL.det (op_add (r := ((cntK 2 es (es.getD i EvR.d).note i + 1 : Nat) : Int)) rfl rfl (w_i64 (by omega) (by omega))) rfl rfl rfl ?_
              refine WL.det (op_indexSl (off' := 0 + (((es.getD i EvR.d).note)).toNat * 1) rfl rfl rfl Tryd.runUnderlying104 Tryd.sizeOf2 (by omega) (by omega) (by omega)) rfl rfl rfl ?_
              refine WL.op0 (op_store (i := (((es.getD i EvR.d).note)).toNat * 1) (cs := [vI ((cntK 2 es (es.getD i EvR.d).note i + 1 : Nat) : Int)]) rfl rfl rfl Tryd.sizeOf2 rfl r3 rfl (cat_fit (fun _ => rfl) lss (by omega)) rfl) rfl rfl ?_
              rintro _ w4 ⟨r5, m4, z3⟩
              have r6 : Row w4 w.heap.size 0 (cat IntR.cells (ss.set ((((es.getD i EvR.d).note)).toNat) (IntR.mk ((cntK 2 es (es.getD i EvR.d).note i + 1 : Nat) : Int)))) := Row.congr r5 (cat_set (f := IntR.cells) (fun _ => rfl) lss (by omega) (IntR.mk ((cntK 2 es (es.getD i EvR.d).note i + 1 : Nat) : Int)))
              refine WL.end ?_
              refine NE.code ?_
              refine CE.seq ?_
              refine CE.region ?_
              refine WL.det (op_move rfl) rfl rfl rfl ?_
              refine WL.det (op_move rfl) rfl rfl rfl ?_
              refine WL.det (op_nilCheck rfl) rfl rfl rfl ?_
              refine WL.det (op_fieldAddr (off' := 0 + i * 6 + 2) rfl Tryd.runUnderlying72 rfl rfl Tryd.sizeOf2 rfl) rfl rfl rfl ?_
              refine WL.det (op_load1 (i := i * 6 + 2) rfl Tryd.isAgg2 (Rng.youngS r (Rng.youngS r ((r.ext m1).ext m2) m3 (allge_cons lR (allge_cons (lT m1.size lR) allge_nil))) m4 (allge_cons lR allge_nil)) rfl (cat_get (f := EvR.cells) (m := 6) (i := i) (d := EvR.d) (fun _ => rfl) (by have eL : List.length es = n := ln; omega) rfl)) rfl rfl rfl ?_
              refine WL.det (op_indexSl (off' := 0 + (((es.getD i EvR.d).note)).toNat * 1) rfl rfl rfl Tryd.runUnderlying104 Tryd.sizeOf2 (by omega) (by omega) (by omega)) rfl rfl rfl ?_
              refine WL.det (op_load1 (i := (((es.getD i EvR.d).note)).toNat * 1) rfl Tryd.isAgg2 (r4.mod m4 (nC (lG (lL r1.lt lR)) nN)).rng rfl (cat_get0 (f := IntR.cells) (m := 1) (i := (((es.getD i EvR.d).note)).toNat) (d := IntR.d) (fun _ => rfl) (by have eL : List.length ps = (n / 2) := lps; omega) (congrArg (fun z => some (vI z)) (cnt_at hps (by omega) (by omega))))) rfl rfl rfl ?_
              refine WL.det (op_gti rfl rfl) rfl rfl rfl ?_
              refine WL.det (op_move rfl) rfl rfl rfl ?_
              rcases Bool.eq_false_or_eq_true (decide ((0 : Int) < ((cntK 1 es (es.getD i EvR.d).note i : Nat) : Int))) with hb7 | hb7
              · have hp7 := of_decide_eq_true hb7
                refine WL.no rfl rfl rfl (ltb rfl) rfl hb7 rfl (ltb rfl) ?_
                refine WL.no rfl rfl rfl (ltb rfl) rfl hb7 rfl (ltb rfl) ?_
                refine WL.no rfl rfl rfl (ltb rfl) rfl hb7 rfl (ltb rfl) ?_
                refine WL.no rfl rfl rfl (ltb rfl) rfl hb7 rfl (ltb rfl) ?_
                refine WL.no rfl rfl rfl (ltb rfl) rfl hb7 rfl (ltb rfl) ?_
                refine WL.no rfl rfl rfl (ltb rfl) rfl hb7 rfl (ltb rfl) ?_
                refine WL.no rfl rfl rfl (ltb rfl) rfl hb7 rfl (ltb rfl) ?_
                refine WL.no rfl rfl rfl (ltb rfl) rfl hb7 rfl (ltb rfl) ?_
                refine WL.det (op_pick_t rfl hb7 rfl) rfl rfl rfl ?_
                refine WL.det (op_move rfl) rfl rfl rfl ?_
                refine WL.no rfl rfl rfl (ltb rfl) rfl rfl rfl (ltb rfl) ?_
                refine WL.no rfl rfl rfl (ltb rfl) rfl rfl rfl (ltb rfl) ?_
                refine WL.no rfl rfl rfl (ltb rfl) rfl rfl rfl (ltb rfl) ?_
                refine WL.no rfl rfl rfl (ltb rfl) rfl rfl rfl (ltb rfl) ?_
                refine WL.no rfl rfl rfl (ltb rfl) rfl rfl rfl (ltb rfl) ?_
                refine WL.no rfl rfl rfl (ltb rfl) rfl rfl rfl (ltb rfl) ?_
                refine WL.det (op_pick_t rfl rfl rfl) rfl rfl rfl ?_
                refine WL.det (op_move rfl) rfl rfl rfl ?_
                refine WL.no rfl rfl rfl (ltb rfl) rfl rfl rfl (ltb rfl) ?_
                refine WL.no rfl rfl rfl (ltb rfl) rfl rfl rfl (ltb rfl) ?_
                refine WL.no rfl rfl rfl (ltb rfl) rfl rfl rfl (ltb rfl) ?_
                refine WL.no rfl rfl rfl (ltb rfl) rfl rfl rfl (ltb rfl) ?_
                refine WL.no rfl rfl rfl (ltb rfl) rfl rfl rfl (ltb rfl) ?_
                refine WL.no rfl rfl rfl (ltb rfl) rfl rfl rfl (ltb rfl) ?_
                refine WL.det (op_pick_t rfl rfl rfl) rfl rfl rfl ?_
                refine WL.end ?_
                refine NE.code ?_
                refine CE.cond_t rfl rfl ?_
                refine CE.seq ?_
                refine CE.region ?_
                refine WL.det (op_assign rfl) rfl rfl rfl ?_
                refine WL.end ?_
                refine NE.code ?_
                refine CE.ret' ?_
                refine XE.ret_blk ?_
                refine XE.ret_then ?_
                refine XE.ret_blk ?_
                refine XE.ret_then ?_
                refine XE.ret_then ?_
                refine XE.ret_blk ?_
                refine XE.ret_then ?_
                refine XE.leave1 Tryd.results65 rfl ?_
                refine ⟨?_, (((((Mod.refl [] w).nt m1).nt m2).then m3 ((aC (.inr lR) (aC (.inr (lT m1.size lR)) aN)))).then m4 ((aC (.inr lR) aN)))⟩
                all_goals first | exact congrArg Value.bool (evS_fn (by omega)).symm | exact congrArg Value.bool (evS_f1 (evS1_out (i := i) (by omega) (by first | exact stepS_f (by rintro ⟨a1, a2⟩; rw [vIn_t] at a1 a2; omega) | exact stepS_f2 (by assumption) (by rintro ⟨a1, a2, a3, a4, a5⟩; rw [vIn_t] at a2 a3; first | omega | (have h9 : finF (es.getD i EvR.d).force = false := (by assumption); rw [a4] at h9; cases h9)) | exact stepS_f1 (by assumption) (by rintro ⟨a1, a2, a3, a4, a5⟩; first | omega | (have h9 : (cn .f32 (es.getD i EvR.d).force == cn .f32 0) = false := (by assumption); rw [a4] at h9; cases h9)) | exact stepS_f0 (by assumption) (by assumption)))).symm | exact congrArg Value.bool (evS_f2 (evS2_out (i := q) (by omega) (by omega) (by assumption))).symm | (have e8 : i = n := (by omega); rw [e8] at hu; have e9 : q = n ∨ n = 0 := (by omega); rcases e9 with e9 | e9; (rw [e9] at hv; exact congrArg Value.bool (evS_t (by omega) (by omega) hu hv).symm); (exact congrArg Value.bool (evS_t (by omega) (by omega) hu (by rw [e9]; rfl)).symm))
              · have hp7 := of_decide_eq_false hb7
                refine WL.yes rfl rfl rfl (ltb rfl) rfl hb7 ?_
                refine WL.det (op_move rfl) rfl rfl rfl ?_
                refine WL.yes rfl rfl rfl (ltb rfl) rfl hb7 ?_
                refine WL.det (op_nilCheck rfl) rfl rfl rfl ?_
                refine WL.yes rfl rfl rfl (ltb rfl) rfl hb7 ?_
                refine WL.det (op_fieldAddr (off' := 0 + i * 6 + 3) rfl Tryd.runUnderlying72 rfl rfl Tryd.sizeOf2 rfl) rfl rfl rfl ?_
                refine WL.yes rfl rfl rfl (ltb rfl) rfl hb7 ?_
                refine WL.det (op_load1 (i := i * 6 + 3) rfl Tryd.isAgg2 (Rng.youngS r (Rng.youngS r ((r.ext m1).ext m2) m3 (allge_cons lR (allge_cons (lT m1.size lR) allge_nil))) m4 (allge_cons lR allge_nil)) rfl (cat_get (f := EvR.cells) (m := 6) (i := i) (d := EvR.d) (fun _ => rfl) (by have eL : List.length es = n := ln; omega) rfl)) rfl rfl rfl ?_
                refine WL.yes rfl rfl rfl (ltb rfl) rfl hb7 ?_
                refine WL.det (op_move rfl) rfl rfl rfl ?_
                refine WL.yes rfl rfl rfl (ltb rfl) rfl hb7 ?_
                refine WL.det (op_sub (r := (m - (1 : Int))) rfl rfl (w_i64 (by omega) (by omega))) rfl rfl rfl ?_
                refine WL.yes rfl rfl rfl (ltb rfl) rfl hb7 ?_
                refine WL.call (oc_call (vs := [vI ((es.getD i EvR.d).ins), vI 0, vI (m - (1 : Int))]) (cap := []) rfl rfl rfl Tryd.call80 (c_l00In ((es.getD i EvR.d).ins) (0 : Int) (m - (1 : Int)) w4)) rfl rfl (ltb rfl) ?_
                rintro _ _ ⟨rfl, rfl⟩
                refine WL.yes rfl rfl rfl (ltb rfl) rfl hb7 ?_
                refine WL.det (op_not rfl) rfl rfl rfl ?_
                refine WL.det (op_pick_f rfl hb7 rfl) rfl rfl rfl ?_
                refine WL.det (op_move rfl) rfl rfl rfl ?_
                rcases Bool.eq_false_or_eq_true (vIn ((es.getD i EvR.d).ins) (0 : Int) (m - (1 : Int))) with hb8 | hb8
                · have hp8 := hb8; try simp only [Bool.and_eq_true, Bool.or_eq_true, Bool.not_eq_true', Bool.not_eq_false', Bool.and_eq_false_iff, Bool.or_eq_false_iff, decide_eq_true_eq, decide_eq_false_iff_not, beq_iff_eq, bne_iff_ne, beq_eq_false_iff_ne, bne_eq_false_iff_eq, ne_eq, Bool.false_eq_true, not_false_eq_true, not_true_eq_false, vIn_t, vIn_f] at hp8
                  refine WL.yes rfl rfl rfl (ltb rfl) rfl (bnot_t hb8) ?_
                  refine WL.det (op_move rfl) rfl rfl rfl ?_
                  refine WL.yes rfl rfl rfl (ltb rfl) rfl (bnot_t hb8) ?_
                  refine WL.det (op_nilCheck rfl) rfl rfl rfl ?_
                  refine WL.yes rfl rfl rfl (ltb rfl) rfl (bnot_t hb8) ?_
                  refine WL.det (op_fieldAddr (off' := 0 + i * 6 + 4) rfl Tryd.runUnderlying72 rfl rfl Tryd.sizeOf2 rfl) rfl rfl rfl ?_
                  refine WL.yes rfl rfl rfl (ltb rfl) rfl (bnot_t hb8) ?_
                  refine WL.det (op_load1 (i := i * 6 + 4) rfl Tryd.isAgg2 (Rng.youngS r (Rng.youngS r ((r.ext m1).ext m2) m3 (allge_cons lR (allge_cons (lT m1.size lR) allge_nil))) m4 (allge_cons lR allge_nil)) rfl (cat_get (f := EvR.cells) (m := 6) (i := i) (d := EvR.d) (fun _ => rfl) (by have eL : List.length es = n := ln; omega) rfl)) rfl rfl rfl ?_
                  refine WL.yes rfl rfl rfl (ltb rfl) rfl (bnot_t hb8) ?_
                  refine WL.call (oc_call (vs := [vI ((es.getD i EvR.d).key), vI (-100), vI 100]) (cap := []) rfl rfl rfl Tryd.call80 (c_l00In ((es.getD i EvR.d).key) (-100 : Int) (100 : Int) w4)) rfl rfl (ltb rfl) ?_
                  rintro _ _ ⟨rfl, rfl⟩
                  refine WL.yes rfl rfl rfl (ltb rfl) rfl (bnot_t hb8) ?_
                  refine WL.det (op_not rfl) rfl rfl rfl ?_
                  refine WL.det (op_pick_f rfl (bnot_t hb8) rfl) rfl rfl rfl ?_
                  refine WL.det (op_move rfl) rfl rfl rfl ?_
                  rcases Bool.eq_false_or_eq_true (vIn ((es.getD i EvR.d).key) (-100 : Int) (100 : Int)) with hb9 | hb9
                  · have hp9 := hb9; try simp only [Bool.and_eq_true, Bool.or_eq_true, Bool.not_eq_true', Bool.not_eq_false', Bool.and_eq_false_iff, Bool.or_eq_false_iff, decide_eq_true_eq, decide_eq_false_iff_not, beq_iff_eq, bne_iff_ne, beq_eq_false_iff_ne, bne_eq_false_iff_eq, ne_eq, Bool.false_eq_true, not_false_eq_true, not_true_eq_false, vIn_t, vIn_f] at hp9
                    refine WL.yes rfl rfl rfl (ltb rfl) rfl (bnot_t hb9) ?_
                    refine WL.det (op_move rfl) rfl rfl rfl ?_
                    refine WL.yes rfl rfl rfl (ltb rfl) rfl (bnot_t hb9) ?_
                    refine WL.det (op_nilCheck rfl) rfl rfl rfl ?_
                    refine WL.yes rfl rfl rfl (ltb rfl) rfl (bnot_t hb9) ?_
                    refine WL.det (op_fieldAddr (off' := 0 + i * 6 + 5) rfl Tryd.runUnderlying72 rfl rfl Tryd.sizeOf22 rfl) rfl rfl rfl ?_
                    refine WL.yes rfl rfl rfl (ltb rfl) rfl (bnot_t hb9) ?_
                    refine WL.det (op_load1 (i := i * 6 + 5) rfl Tryd.isAgg22 (Rng.youngS r (Rng.youngS r ((r.ext m1).ext m2) m3 (allge_cons lR (allge_cons (lT m1.size lR) allge_nil))) m4 (allge_cons lR allge_nil)) rfl (cat_get (f := EvR.cells) (m := 6) (i := i) (d := EvR.d) (fun _ => rfl) (by have eL : List.length es = n := ln; omega) rfl)) rfl rfl rfl ?_
                    refine WL.yes rfl rfl rfl (ltb rfl) rfl (bnot_t hb9) ?_
                    refine WL.call (oc_call (vs := [vF ((es.getD i EvR.d).force)]) (cap := []) rfl rfl rfl Tryd.call61 (c_l01Finite ((es.getD i EvR.d).force) ((es.getD i EvR.d).force) rfl w4)) rfl rfl (ltb rfl) ?_
                    rintro _ w5 ⟨rfl, m5⟩
                    refine WL.yes rfl rfl rfl (ltb rfl) rfl (bnot_t hb9) ?_
                    refine WL.det (op_not rfl) rfl rfl rfl ?_
                    refine WL.det (op_pick_f rfl (bnot_t hb9) rfl) rfl rfl rfl ?_
                    refine WL.end ?_
                    refine NE.code ?_
                    rcases Bool.eq_false_or_eq_true (finF ((es.getD i EvR.d).force)) with hb10 | hb10
                    · refine CE.cond_f rfl (bnot_t hb10) ?_
                      refine CE.skip' ?_
                      refine NE.blk ?_
                      refine NE.code ?_
                      refine CE.seq ?_
                      refine CE.region ?_
                      refine WL.det (op_move rfl) rfl rfl rfl ?_
                      refine WL.det (op_move rfl) rfl rfl rfl ?_
                      refine WL.det (op_nilCheck rfl) rfl rfl rfl ?_
                      refine WL.det (op_fieldAddr (off' := 0 + i * 6 + 2) rfl Tryd.runUnderlying72 rfl rfl Tryd.sizeOf2 rfl) rfl rfl rfl ?_
                      refine WL.det (op_load1 (i := i * 6 + 2) rfl Tryd.isAgg2 ((Rng.youngS r (Rng.youngS r ((r.ext m1).ext m2) m3 (allge_cons lR (allge_cons (lT m1.size lR) allge_nil))) m4 (allge_cons lR allge_nil)).ext m5) rfl (cat_get (f := EvR.cells) (m := 6) (i := i) (d := EvR.d) (fun _ => rfl) (by have eL : List.length es = n := ln; omega) rfl)) rfl rfl rfl ?_
                      refine WL.det (op_indexSl (off' := 0 + (((es.getD i EvR.d).note)).toNat * 1) rfl rfl rfl Tryd.runUnderlying104 Tryd.sizeOf2 (by omega) (by omega) (by omega)) rfl rfl rfl ?_
                      refine WL.det (op_load1 (i := (((es.getD i EvR.d).note)).toNat * 1) rfl Tryd.isAgg2 (r6.ext m5).rng rfl (cat_get0 (f := IntR.cells) (m := 1) (i := (((es.getD i EvR.d).note)).toNat) (d := IntR.d) (fun _ => rfl) (by have eL : List.length (ss.set ((((es.getD i EvR.d).note)).toNat) (IntR.mk ((cntK 2 es (es.getD i EvR.d).note i + 1 : Nat) : Int))) = (n / 2) := ((List.length_set).trans lss); omega) (congrArg (fun z => some (vI z)) (set_at lss (by omega))))) rfl rfl rfl ?_
                      refine WL.det (op_gti rfl rfl) rfl rfl rfl ?_
                      refine WL.det (op_move rfl) rfl rfl rfl ?_
                      rcases Bool.eq_false_or_eq_true (decide ((1 : Int) < (((cntK 2 es (es.getD i EvR.d).note i : Nat) : Int) + (1 : Int)))) with hb11 | hb11
                      · have hp11 := of_decide_eq_true hb11
                        refine WL.no rfl rfl rfl (ltb rfl) rfl hb11 rfl (ltb rfl) ?_
                        refine WL.no rfl rfl rfl (ltb rfl) rfl hb11 rfl (ltb rfl) ?_
                        refine WL.no rfl rfl rfl (ltb rfl) rfl hb11 rfl (ltb rfl) ?_
                        refine WL.no rfl rfl rfl (ltb rfl) rfl hb11 rfl (ltb rfl) ?_
                        refine WL.no rfl rfl rfl (ltb rfl) rfl hb11 rfl (ltb rfl) ?_
                        refine WL.no rfl rfl rfl (ltb rfl) rfl hb11 rfl (ltb rfl) ?_
                        refine WL.no rfl rfl rfl (ltb rfl) rfl hb11 rfl (ltb rfl) ?_
                        refine WL.no rfl rfl rfl (ltb rfl) rfl hb11 rfl (ltb rfl) ?_
                        refine WL.det (op_pick_t rfl hb11 rfl) rfl rfl rfl ?_
                        refine WL.end ?_
                        refine NE.code ?_
                        refine CE.cond_t rfl rfl ?_
                        refine CE.seq ?_
                        refine CE.region ?_
                        refine WL.det (op_assign rfl) rfl rfl rfl ?_
                        refine WL.end ?_
                        refine NE.code ?_
                        refine CE.ret' ?_
                        refine XE.ret_blk ?_
                        refine XE.ret_then ?_
                        refine XE.ret_then ?_
                        refine XE.ret_blk ?_
                        refine XE.ret_then ?_
                        refine XE.leave1 Tryd.results65 rfl ?_
                        refine ⟨?_, ((((((Mod.refl [] w).nt m1).nt m2).then m3 ((aC (.inr lR) (aC (.inr (lT m1.size lR)) aN)))).then m4 ((aC (.inr lR) aN))).nt m5)⟩
                        all_goals first | exact congrArg Value.bool (evS_fn (by omega)).symm | exact congrArg Value.bool (evS_f1 (evS1_out (i := i) (by omega) (by first | exact stepS_f (by rintro ⟨a1, a2⟩; rw [vIn_t] at a1 a2; omega) | exact stepS_f2 (by assumption) (by rintro ⟨a1, a2, a3, a4, a5⟩; rw [vIn_t] at a2 a3; first | omega | (have h9 : finF (es.getD i EvR.d).force = false := (by assumption); rw [a4] at h9; cases h9)) | exact stepS_f1 (by assumption) (by rintro ⟨a1, a2, a3, a4, a5⟩; first | omega | (have h9 : (cn .f32 (es.getD i EvR.d).force == cn .f32 0) = false := (by assumption); rw [a4] at h9; cases h9)) | exact stepS_f0 (by assumption) (by assumption)))).symm | exact congrArg Value.bool (evS_f2 (evS2_out (i := q) (by omega) (by omega) (by assumption))).symm | (have e8 : i = n := (by omega); rw [e8] at hu; have e9 : q = n ∨ n = 0 := (by omega); rcases e9 with e9 | e9; (rw [e9] at hv; exact congrArg Value.bool (evS_t (by omega) (by omega) hu hv).symm); (exact congrArg Value.bool (evS_t (by omega) (by omega) hu (by rw [e9]; rfl)).symm))
                      · have hp11 := of_decide_eq_false hb11
                        refine WL.yes rfl rfl rfl (ltb rfl) rfl hb11 ?_
                        refine WL.det (op_move rfl) rfl rfl rfl ?_
                        refine WL.yes rfl rfl rfl (ltb rfl) rfl hb11 ?_
                        refine WL.det (op_move rfl) rfl rfl rfl ?_
                        refine WL.yes rfl rfl rfl (ltb rfl) rfl hb11 ?_
                        refine WL.det (op_nilCheck rfl) rfl rfl rfl ?_
                        refine WL.yes rfl rfl rfl (ltb rfl) rfl hb11 ?_
                        refine WL.det (op_fieldAddr (off' := 0 + i * 6 + 2) rfl Tryd.runUnderlying72 rfl rfl Tryd.sizeOf2 rfl) rfl rfl rfl ?_
                        refine WL.yes rfl rfl rfl (ltb rfl) rfl hb11 ?_
                        refine WL.det (op_load1 (i := i * 6 + 2) rfl Tryd.isAgg2 ((Rng.youngS r (Rng.youngS r ((r.ext m1).ext m2) m3 (allge_cons lR (allge_cons (lT m1.size lR) allge_nil))) m4 (allge_cons lR allge_nil)).ext m5) rfl (cat_get (f := EvR.cells) (m := 6) (i := i) (d := EvR.d) (fun _ => rfl) (by have eL : List.length es = n := ln; omega) rfl)) rfl rfl rfl ?_
                        refine WL.yes rfl rfl rfl (ltb rfl) rfl hb11 ?_
                        refine WL.det (op_indexSl (off' := 0 + (((es.getD i EvR.d).note)).toNat * 1) rfl rfl rfl Tryd.runUnderlying104 Tryd.sizeOf2 (by omega) (by omega) (by omega)) rfl rfl rfl ?_
                        refine WL.yes rfl rfl rfl (ltb rfl) rfl hb11 ?_
                        refine WL.det (op_load1 (i := (((es.getD i EvR.d).note)).toNat * 1) rfl Tryd.isAgg2 ((r4.mod m4 (nC (lG (lL r1.lt lR)) nN)).ext m5).rng rfl (cat_get0 (f := IntR.cells) (m := 1) (i := (((es.getD i EvR.d).note)).toNat) (d := IntR.d) (fun _ => rfl) (by have eL : List.length ps = (n / 2) := lps; omega) (congrArg (fun z => some (vI z)) (cnt_at hps (by omega) (by omega))))) rfl rfl rfl ?_
                        refine WL.yes rfl rfl rfl (ltb rfl) rfl hb11 ?_
                        refine WL.det (op_gti rfl rfl) rfl rfl rfl ?_
                        refine WL.det (op_pick_f rfl hb11 rfl) rfl rfl rfl ?_
                        refine WL.end ?_
                        refine NE.code ?_
                        rcases Bool.eq_false_or_eq_true (decide ((1 : Int) < ((cntK 1 es (es.getD i EvR.d).note i : Nat) : Int))) with hb12 | hb12
                        · have hp12 := of_decide_eq_true hb12
                          refine CE.cond_t rfl hb12 ?_
                          refine CE.seq ?_
                          refine CE.region ?_
                          refine WL.det (op_assign rfl) rfl rfl rfl ?_
                          refine WL.end ?_
                          refine NE.code ?_
                          refine CE.ret' ?_
                          refine XE.ret_blk ?_
                          refine XE.ret_then ?_
                          refine XE.ret_then ?_
                          refine XE.ret_blk ?_
                          refine XE.ret_then ?_
                          refine XE.leave1 Tryd.results65 rfl ?_
                          refine ⟨?_, ((((((Mod.refl [] w).nt m1).nt m2).then m3 ((aC (.inr lR) (aC (.inr (lT m1.size lR)) aN)))).then m4 ((aC (.inr lR) aN))).nt m5)⟩
                          all_goals first | exact congrArg Value.bool (evS_fn (by omega)).symm | exact congrArg Value.bool (evS_f1 (evS1_out (i := i) (by omega) (by first | exact stepS_f (by rintro ⟨a1, a2⟩; rw [vIn_t] at a1 a2; omega) | exact stepS_f2 (by assumption) (by rintro ⟨a1, a2, a3, a4, a5⟩; rw [vIn_t] at a2 a3; first | omega | (have h9 : finF (es.getD i EvR.d).force = false := (by assumption); rw [a4] at h9; cases h9)) | exact stepS_f1 (by assumption) (by rintro ⟨a1, a2, a3, a4, a5⟩; first | omega | (have h9 : (cn .f32 (es.getD i EvR.d).force == cn .f32 0) = false := (by assumption); rw [a4] at h9; cases h9)) | exact stepS_f0 (by assumption) (by assumption)))).symm | exact congrArg Value.bool (evS_f2 (evS2_out (i := q) (by omega) (by omega) (by assumption))).symm | (have e8 : i = n := (by omega); rw [e8] at hu; have e9 : q = n ∨ n = 0 := (by omega); rcases e9 with e9 | e9; (rw [e9] at hv; exact congrArg Value.bool (evS_t (by omega) (by omega) hu hv).symm); (exact congrArg Value.bool (evS_t (by omega) (by omega) hu (by rw [e9]; rfl)).symm))
                        · have hp12 := of_decide_eq_false hb12
                          refine CE.cond_f rfl hb12 ?_
                          refine CE.skip' ?_
                          refine NE.blk ?_
                          refine NE.code ?_
                          refine CE.region ?_
                          refine WL.det (op_move rfl) rfl rfl rfl ?_
                          refine WL.det (op_add (r := ((i + 1 : Nat) : Int)) rfl rfl (w_i64 (by omega) (by omega))) rfl rfl rfl ?_
                          refine WL.det (op_assign rfl) rfl rfl rfl ?_
                          refine WL.end ?_
                          exact NE.again ((i + 1), (ss.set ((((es.getD i EvR.d).note)).toNat) (IntR.mk ((cntK 2 es (es.getD i EvR.d).note i + 1 : Nat) : Int))), ps) (⟨rfl, rfl, rfl, rfl, rfl, rfl, rfl, trivial⟩) ⟨(by omega), (by first | exact (List.length_set).trans lss | exact lss), (by first | exact (List.length_set).trans lps | exact lps), (by first | exact cnt_set hss lss (by assumption) (by omega) (by omega) | exact cnt_keep hss (by omega)), (by first | exact cnt_set hps lps (by assumption) (by omega) (by omega) | exact cnt_keep hps (by omega)), (by unfold evS1; rw [hu, Bool.true_and]; first | exact stepS_2 (by assumption) (by assumption) ((vIn_t _ _ _).2 ⟨by omega, by omega⟩) (by omega) (by assumption) (by assumption) (by assumption) (by omega) | exact stepS_1 (by assumption) (by assumption) ((vIn_t _ _ _).2 ⟨by omega, by omega⟩) (by omega) (by omega) (by omega) (by assumption) (by omega)), (Row.congr (r6.ext m5) rfl), (Row.congr ((r4.mod m4 (nC (lG (lL r1.lt lR)) nN)).ext m5) rfl), ((m3.then m4 ((aC (.inl (by simp)) aN))).nt m5)⟩ (by first | (dsimp only; omega) | omega)
                    · refine CE.cond_t rfl (bnot_f hb10) ?_
                      refine CE.seq ?_
                      refine CE.region ?_
                      refine WL.det (op_assign rfl) rfl rfl rfl ?_
                      refine WL.end ?_
                      refine NE.code ?_
                      refine CE.ret' ?_
                      refine XE.ret_blk ?_
                      refine XE.ret_then ?_
                      refine XE.ret_blk ?_
                      refine XE.ret_then ?_
                      refine XE.ret_then ?_
                      refine XE.ret_blk ?_
                      refine XE.ret_then ?_
                      refine XE.leave1 Tryd.results65 rfl ?_
                      refine ⟨?_, ((((((Mod.refl [] w).nt m1).nt m2).then m3 ((aC (.inr lR) (aC (.inr (lT m1.size lR)) aN)))).then m4 ((aC (.inr lR) aN))).nt m5)⟩
                      all_goals first | exact congrArg Value.bool (evS_fn (by omega)).symm | exact congrArg Value.bool (evS_f1 (evS1_out (i := i) (by omega) (by first | exact stepS_f (by rintro ⟨a1, a2⟩; rw [vIn_t] at a1 a2; omega) | exact stepS_f2 (by assumption) (by rintro ⟨a1, a2, a3, a4, a5⟩; rw [vIn_t] at a2 a3; first | omega | (have h9 : finF (es.getD i EvR.d).force = false := (by assumption); rw [a4] at h9; cases h9)) | exact stepS_f1 (by assumption) (by rintro ⟨a1, a2, a3, a4, a5⟩; first | omega | (have h9 : (cn .f32 (es.getD i EvR.d).force == cn .f32 0) = false := (by assumption); rw [a4] at h9; cases h9)) | exact stepS_f0 (by assumption) (by assumption)))).symm | exact congrArg Value.bool (evS_f2 (evS2_out (i := q) (by omega) (by omega) (by assumption))).symm | (have e8 : i = n := (by omega); rw [e8] at hu; have e9 : q = n ∨ n = 0 := (by omega); rcases e9 with e9 | e9; (rw [e9] at hv; exact congrArg Value.bool (evS_t (by omega) (by omega) hu hv).symm); (exact congrArg Value.bool (evS_t (by omega) (by omega) hu (by rw [e9]; rfl)).symm))
                  · have hp9 := hb9; try simp only [Bool.and_eq_true, Bool.or_eq_true, Bool.not_eq_true', Bool.not_eq_false', Bool.and_eq_false_iff, Bool.or_eq_false_iff, decide_eq_true_eq, decide_eq_false_iff_not, beq_iff_eq, bne_iff_ne, beq_eq_false_iff_ne, bne_eq_false_iff_eq, ne_eq, Bool.false_eq_true, not_false_eq_true, not_true_eq_false, vIn_t, vIn_f] at hp9
                    refine WL.no rfl rfl rfl (ltb rfl) rfl (bnot_f hb9) rfl (ltb rfl) ?_
                    refine WL.no rfl rfl rfl (ltb rfl) rfl (bnot_f hb9) rfl (ltb rfl) ?_
                    refine WL.no rfl rfl rfl (ltb rfl) rfl (bnot_f hb9) rfl (ltb rfl) ?_
                    refine WL.no rfl rfl rfl (ltb rfl) rfl (bnot_f hb9) rfl (ltb rfl) ?_
                    refine WL.no rfl rfl rfl (ltb rfl) rfl (bnot_f hb9) rfl (ltb rfl) ?_
                    refine WL.no rfl rfl rfl (ltb rfl) rfl (bnot_f hb9) rfl (ltb rfl) ?_
                    refine WL.det (op_pick_t rfl (bnot_f hb9) rfl) rfl rfl rfl ?_
                    refine WL.end ?_
                    refine NE.code ?_
                    refine CE.cond_t rfl rfl ?_
                    refine CE.seq ?_
                    refine CE.region ?_
                    refine WL.det (op_assign rfl) rfl rfl rfl ?_
                    refine WL.end ?_
                    refine NE.code ?_
                    refine CE.ret' ?_
                    refine XE.ret_blk ?_
                    refine XE.ret_then ?_
                    refine XE.ret_blk ?_
                    refine XE.ret_then ?_
                    refine XE.ret_then ?_
                    refine XE.ret_blk ?_
                    refine XE.ret_then ?_
                    refine XE.leave1 Tryd.results65 rfl ?_
                    refine ⟨?_, (((((Mod.refl [] w).nt m1).nt m2).then m3 ((aC (.inr lR) (aC (.inr (lT m1.size lR)) aN)))).then m4 ((aC (.inr lR) aN)))⟩
                    all_goals first | exact congrArg Value.bool (evS_fn (by omega)).symm | exact congrArg Value.bool (evS_f1 (evS1_out (i := i) (by omega) (by first | exact stepS_f (by rintro ⟨a1, a2⟩; rw [vIn_t] at a1 a2; omega) | exact stepS_f2 (by assumption) (by rintro ⟨a1, a2, a3, a4, a5⟩; rw [vIn_t] at a2 a3; first | omega | (have h9 : finF (es.getD i EvR.d).force = false := (by assumption); rw [a4] at h9; cases h9)) | exact stepS_f1 (by assumption) (by rintro ⟨a1, a2, a3, a4, a5⟩; first | omega | (have h9 : (cn .f32 (es.getD i EvR.d).force == cn .f32 0) = false := (by assumption); rw [a4] at h9; cases h9)) | exact stepS_f0 (by assumption) (by assumption)))).symm | exact congrArg Value.bool (evS_f2 (evS2_out (i := q) (by omega) (by omega) (by assumption))).symm | (have e8 : i = n := (by omega); rw [e8] at hu; have e9 : q = n ∨ n = 0 := (by omega); rcases e9 with e9 | e9; (rw [e9] at hv; exact congrArg Value.bool (evS_t (by omega) (by omega) hu hv).symm); (exact congrArg Value.bool (evS_t (by omega) (by omega) hu (by rw [e9]; rfl)).symm))
                · have hp8 := hb8; try simp only [Bool.and_eq_true, Bool.or_eq_true, Bool.not_eq_true', Bool.not_eq_false', Bool.and_eq_false_iff, Bool.or_eq_false_iff, decide_eq_true_eq, decide_eq_false_iff_not, beq_iff_eq, bne_iff_ne, beq_eq_false_iff_ne, bne_eq_false_iff_eq, ne_eq, Bool.false_eq_true, not_false_eq_true, not_true_eq_false, vIn_t, vIn_f] at hp8
                  refine WL.no rfl rfl rfl (ltb rfl) rfl (bnot_f hb8) rfl (ltb rfl) ?_
                  refine WL.no rfl rfl rfl (ltb rfl) rfl (bnot_f hb8) rfl (ltb rfl) ?_
                  refine WL.no rfl rfl rfl (ltb rfl) rfl (bnot_f hb8) rfl (ltb rfl) ?_
                  refine WL.no rfl rfl rfl (ltb rfl) rfl (bnot_f hb8) rfl (ltb rfl) ?_
                  refine WL.no rfl rfl rfl (ltb rfl) rfl (bnot_f hb8) rfl (ltb rfl) ?_
                  refine WL.no rfl rfl rfl (ltb rfl) rfl (bnot_f hb8) rfl (ltb rfl) ?_
                  refine WL.det (op_pick_t rfl (bnot_f hb8) rfl) rfl rfl rfl ?_
                  refine WL.det (op_move rfl) rfl rfl rfl ?_
                  refine WL.no rfl rfl rfl (ltb rfl) rfl rfl rfl (ltb rfl) ?_
                  refine WL.no rfl rfl rfl (ltb rfl) rfl rfl rfl (ltb rfl) ?_
                  refine WL.no rfl rfl rfl (ltb rfl) rfl rfl rfl (ltb rfl) ?_
                  refine WL.no rfl rfl rfl (ltb rfl) rfl rfl rfl (ltb rfl) ?_
                  refine WL.no rfl rfl rfl (ltb rfl) rfl rfl rfl (ltb rfl) ?_
                  refine WL.no rfl rfl rfl (ltb rfl) rfl rfl rfl (ltb rfl) ?_
                  refine WL.det (op_pick_t rfl rfl rfl) rfl rfl rfl ?_
                  refine WL.end ?_
                  refine NE.code ?_
                  refine CE.cond_t rfl rfl ?_
                  refine CE.seq ?_
                  refine CE.region ?_
                  refine WL.det (op_assign rfl) rfl rfl rfl ?_
                  refine WL.end ?_
                  refine NE.code ?_
                  refine CE.ret' ?_
                  refine XE.ret_blk ?_
                  refine XE.ret_then ?_
                  refine XE.ret_blk ?_
                  refine XE.ret_then ?_
                  refine XE.ret_then ?_
                  refine XE.ret_blk ?_
                  refine XE.ret_then ?_
                  refine XE.leave1 Tryd.results65 rfl ?_
                  refine ⟨?_, (((((Mod.refl [] w).nt m1).nt m2).then m3 ((aC (.inr lR) (aC (.inr (lT m1.size lR)) aN)))).then m4 ((aC (.inr lR) aN)))⟩
                  all_goals first | exact congrArg Value.bool (evS_fn (by omega)).symm | exact congrArg Value.bool (evS_f1 (evS1_out (i := i) (by omega) (by first | exact stepS_f (by rintro ⟨a1, a2⟩; rw [vIn_t] at a1 a2; omega) | exact stepS_f2 (by assumption) (by rintro ⟨a1, a2, a3, a4, a5⟩; rw [vIn_t] at a2 a3; first | omega | (have h9 : finF (es.getD i EvR.d).force = false := (by assumption); rw [a4] at h9; cases h9)) | exact stepS_f1 (by assumption) (by rintro ⟨a1, a2, a3, a4, a5⟩; first | omega | (have h9 : (cn .f32 (es.getD i EvR.d).force == cn .f32 0) = false := (by assumption); rw [a4] at h9; cases h9)) | exact stepS_f0 (by assumption) (by assumption)))).symm | exact congrArg Value.bool (evS_f2 (evS2_out (i := q) (by omega) (by omega) (by assumption))).symm | (have e8 : i = n := (by omega); rw [e8] at hu; have e9 : q = n ∨ n = 0 := (by omega); rcases e9 with e9 | e9; (rw [e9] at hv; exact congrArg Value.bool (evS_t (by omega) (by omega) hu hv).symm); (exact congrArg Value.bool (evS_t (by omega) (by omega) hu (by rw [e9]; rfl)).symm))
            · have hp6 := ne_of_beq_false hb6
              refine CE.cond_f rfl hb6 ?_
              refine CE.seq ?_
              refine CE.region ?_
              refine WL.det (op_eqi rfl rfl) rfl rfl rfl ?_
              refine WL.det (op_assign rfl) rfl rfl rfl ?_
              refine WL.end ?_
              refine NE.code ?_
              rcases Bool.eq_false_or_eq_true ((((es.getD i EvR.d).kind) == (1 : Int))) with hb13 | hb13
              · have hp13 := eq_of_beq hb13
                refine CE.cond_t rfl hb13 ?_
                refine CE.seq ?_
                refine CE.region ?_
                refine WL.det (op_move rfl) rfl rfl rfl ?_
                refine WL.det (op_move rfl) rfl rfl rfl ?_
                refine WL.det (op_nilCheck rfl) rfl rfl rfl ?_
                refine WL.det (op_fieldAddr (off' := 0 + i * 6 + 2) rfl Tryd.runUnderlying72 rfl rfl Tryd.sizeOf2 rfl) rfl rfl rfl ?_
                refine WL.det (op_load1 (i := i * 6 + 2) rfl Tryd.isAgg2 (Rng.youngS r ((r.ext m1).ext m2) m3 (allge_cons lR (allge_cons (lT m1.size lR) allge_nil))) rfl (cat_get (f := EvR.cells) (m := 6) (i := i) (d := EvR.d) (fun _ => rfl) (by have eL : List.length es = n := ln; omega) rfl)) rfl rfl rfl ?_
                refine WL.det (op_indexSl (off' := 0 + (((es.getD i EvR.d).note)).toNat * 1) rfl rfl rfl Tryd.runUnderlying104 Tryd.sizeOf2 (by omega) (by omega) (by omega)) rfl rfl rfl ?_
                refine WL.det (op_load1 (i := (((es.getD i EvR.d).note)).toNat * 1) rfl Tryd.isAgg2 r4.rng rfl (cat_get0 (f := IntR.cells) (m := 1) (i := (((es.getD i EvR.d).note)).toNat) (d := IntR.d) (fun _ => rfl) (by have eL : List.length ps = (n / 2) := lps; omega) (congrArg (fun z => some (vI z)) (cnt_at hps (by omega) (by omega))))) rfl rfl rfl ?_
                refine WL.det (op_add (r := ((cntK 1 es (es.getD i EvR.d).note i + 1 : Nat) : Int)) rfl rfl (w_i64 (by omega) (by omega))) rfl rfl rfl ?_
                refine WL.det (op_indexSl (off' := 0 + (((es.getD i EvR.d).note)).toNat * 1) rfl rfl rfl Tryd.runUnderlying104 Tryd.sizeOf2 (by omega) (by omega) (by omega)) rfl rfl rfl ?_
                refine WL.op0 (op_store (i := (((es.getD i EvR.d).note)).toNat * 1) (cs := [vI ((cntK 1 es (es.getD i EvR.d).note i + 1 : Nat) : Int)]) rfl rfl rfl Tryd.sizeOf2 rfl r4 rfl (cat_fit (fun _ => rfl) lps (by omega)) rfl) rfl rfl ?_
                rintro _ w6 ⟨r7, m6, z4⟩
                have r8 : Row w6 w1.heap.size 0 (cat IntR.cells (ps.set ((((es.getD i EvR.d).note)).toNat) (IntR.mk ((cntK 1 es (es.getD i EvR.d).note i + 1 : Nat) : Int)))) := Row.congr r7 (cat_set (f := IntR.cells) (fun _ => rfl) lps (by omega) (IntR.mk ((cntK 1 es (es.getD i EvR.d).note i + 1 : Nat) : Int)))
                refine WL.end ?_
                refine NE.code ?_
                refine CE.seq ?_
                refine CE.region ?_
                refine WL.det (op_move rfl) rfl rfl rfl ?_
                refine WL.det (op_move rfl) rfl rfl rfl ?_
                refine WL.det (op_nilCheck rfl) rfl rfl rfl ?_
                refine WL.det (op_fieldAddr (off' := 0 + i * 6 + 2) rfl Tryd.runUnderlying72 rfl rfl Tryd.sizeOf2 rfl) rfl rfl rfl ?_
                refine WL.det (op_load1 (i := i * 6 + 2) rfl Tryd.isAgg2 (Rng.youngS r (Rng.youngS r ((r.ext m1).ext m2) m3 (allge_cons lR (allge_cons (lT m1.size lR) allge_nil))) m6 (allge_cons (lT m1.size lR) allge_nil)) rfl (cat_get (f := EvR.cells) (m := 6) (i := i) (d := EvR.d) (fun _ => rfl) (by have eL : List.length es = n := ln; omega) rfl)) rfl rfl rfl ?_
                refine WL.det (op_indexSl (off' := 0 + (((es.getD i EvR.d).note)).toNat * 1) rfl rfl rfl Tryd.runUnderlying104 Tryd.sizeOf2 (by omega) (by omega) (by omega)) rfl rfl rfl ?_
                refine WL.det (op_load1 (i := (((es.getD i EvR.d).note)).toNat * 1) rfl Tryd.isAgg2 (r3.mod m6 (nC (lE (lL r1.lt lR)) nN)).rng rfl (cat_get0 (f := IntR.cells) (m := 1) (i := (((es.getD i EvR.d).note)).toNat) (d := IntR.d) (fun _ => rfl) (by have eL : List.length ss = (n / 2) := lss; omega) (congrArg (fun z => some (vI z)) (cnt_at hss (by omega) (by omega))))) rfl rfl rfl ?_
                refine WL.det (op_eqi rfl rfl) rfl rfl rfl ?_
                refine WL.det (op_move rfl) rfl rfl rfl ?_
                rcases Bool.eq_false_or_eq_true ((((cntK 2 es (es.getD i EvR.d).note i : Nat) : Int) == (0 : Int))) with hb14 | hb14
                · have hp14 := eq_of_beq hb14
                  refine WL.no rfl rfl rfl (ltb rfl) rfl hb14 rfl (ltb rfl) ?_
                  refine WL.no rfl rfl rfl (ltb rfl) rfl hb14 rfl (ltb rfl) ?_
                  refine WL.no rfl rfl rfl (ltb rfl) rfl hb14 rfl (ltb rfl) ?_
                  refine WL.no rfl rfl rfl (ltb rfl) rfl hb14 rfl (ltb rfl) ?_
                  refine WL.no rfl rfl rfl (ltb rfl) rfl hb14 rfl (ltb rfl) ?_
                  refine WL.det (op_pick_t rfl hb14 rfl) rfl rfl rfl ?_
                  refine WL.det (op_move rfl) rfl rfl rfl ?_
                  refine WL.no rfl rfl rfl (ltb rfl) rfl rfl rfl (ltb rfl) ?_
                  refine WL.no rfl rfl rfl (ltb rfl) rfl rfl rfl (ltb rfl) ?_
                  refine WL.no rfl rfl rfl (ltb rfl) rfl rfl rfl (ltb rfl) ?_
                  refine WL.no rfl rfl rfl (ltb rfl) rfl rfl rfl (ltb rfl) ?_
                  refine WL.no rfl rfl rfl (ltb rfl) rfl rfl rfl (ltb rfl) ?_
                  refine WL.det (op_pick_t rfl rfl rfl) rfl rfl rfl ?_
                  refine WL.det (op_move rfl) rfl rfl rfl ?_
                  refine WL.no rfl rfl rfl (ltb rfl) rfl rfl rfl (ltb rfl) ?_
                  refine WL.no rfl rfl rfl (ltb rfl) rfl rfl rfl (ltb rfl) ?_
                  refine WL.no rfl rfl rfl (ltb rfl) rfl rfl rfl (ltb rfl) ?_
                  refine WL.no rfl rfl rfl (ltb rfl) rfl rfl rfl (ltb rfl) ?_
                  refine WL.no rfl rfl rfl (ltb rfl) rfl rfl rfl (ltb rfl) ?_
                  refine WL.no rfl rfl rfl (ltb rfl) rfl rfl rfl (ltb rfl) ?_
                  refine WL.det (op_pick_t rfl rfl rfl) rfl rfl rfl ?_
                  refine WL.end ?_
                  refine NE.code ?_
                  refine CE.cond_t rfl rfl ?_
                  refine CE.seq ?_
                  refine CE.region ?_
                  refine WL.det (op_assign rfl) rfl rfl rfl ?_
                  refine WL.end ?_
                  refine NE.code ?_
                  refine CE.ret' ?_
                  refine XE.ret_blk ?_
                  refine XE.ret_then ?_
                  refine XE.ret_blk ?_
                  refine XE.ret_then ?_
                  refine XE.ret_then ?_
                  refine XE.ret_blk ?_
                  refine XE.ret_then ?_
                  refine XE.leave1 Tryd.results65 rfl ?_
                  refine ⟨?_, (((((Mod.refl [] w).nt m1).nt m2).then m3 ((aC (.inr lR) (aC (.inr (lT m1.size lR)) aN)))).then m6 ((aC (.inr (lT m1.size lR)) aN)))⟩
                  all_goals first | exact congrArg Value.bool (evS_fn (by omega)).symm | exact congrArg Value.bool (evS_f1 (evS1_out (i := i) (by omega) (by first | exact stepS_f (by rintro ⟨a1, a2⟩; rw [vIn_t] at a1 a2; omega) | exact stepS_f2 (by assumption) (by rintro ⟨a1, a2, a3, a4, a5⟩; rw [vIn_t] at a2 a3; first | omega | (have h9 : finF (es.getD i EvR.d).force = false := (by assumption); rw [a4] at h9; cases h9)) | exact stepS_f1 (by assumption) (by rintro ⟨a1, a2, a3, a4, a5⟩; first | omega | (have h9 : (cn .f32 (es.getD i EvR.d).force == cn .f32 0) = false := (by assumption); rw [a4] at h9; cases h9)) | exact stepS_f0 (by assumption) (by assumption)))).symm | exact congrArg Value.bool (evS_f2 (evS2_out (i := q) (by omega) (by omega) (by assumption))).symm | (have e8 : i = n := (by omega); rw [e8] at hu; have e9 : q = n ∨ n = 0 := (by omega); rcases e9 with e9 | e9; (rw [e9] at hv; exact congrArg Value.bool (evS_t (by omega) (by omega) hu hv).symm); (exact congrArg Value.bool (evS_t (by omega) (by omega) hu (by rw [e9]; rfl)).symm))
                · have hp14 := ne_of_beq_false hb14
                  refine WL.yes rfl rfl rfl (ltb rfl) rfl hb14 ?_
                  refine WL.det (op_move rfl) rfl rfl rfl ?_
                  refine WL.yes rfl rfl rfl (ltb rfl) rfl hb14 ?_
                  refine WL.det (op_nilCheck rfl) rfl rfl rfl ?_
                  refine WL.yes rfl rfl rfl (ltb rfl) rfl hb14 ?_
                  refine WL.det (op_fieldAddr (off' := 0 + i * 6 + 3) rfl Tryd.runUnderlying72 rfl rfl Tryd.sizeOf2 rfl) rfl rfl rfl ?_
                  refine WL.yes rfl rfl rfl (ltb rfl) rfl hb14 ?_
                  refine WL.det (op_load1 (i := i * 6 + 3) rfl Tryd.isAgg2 (Rng.youngS r (Rng.youngS r ((r.ext m1).ext m2) m3 (allge_cons lR (allge_cons (lT m1.size lR) allge_nil))) m6 (allge_cons (lT m1.size lR) allge_nil)) rfl (cat_get (f := EvR.cells) (m := 6) (i := i) (d := EvR.d) (fun _ => rfl) (by have eL : List.length es = n := ln; omega) rfl)) rfl rfl rfl ?_
                  refine WL.yes rfl rfl rfl (ltb rfl) rfl hb14 ?_
                  refine WL.det (op_nei rfl rfl) rfl rfl rfl ?_
                  refine WL.det (op_pick_f rfl hb14 rfl) rfl rfl rfl ?_
                  refine WL.det (op_move rfl) rfl rfl rfl ?_
                  rcases Bool.eq_false_or_eq_true ((((es.getD i EvR.d).ins) != (0 : Int))) with hb15 | hb15
                  · have hp15 := bne_iff_ne.1 hb15
                    refine WL.no rfl rfl rfl (ltb rfl) rfl hb15 rfl (ltb rfl) ?_
                    refine WL.no rfl rfl rfl (ltb rfl) rfl hb15 rfl (ltb rfl) ?_
                    refine WL.no rfl rfl rfl (ltb rfl) rfl hb15 rfl (ltb rfl) ?_
                    refine WL.no rfl rfl rfl (ltb rfl) rfl hb15 rfl (ltb rfl) ?_
                    refine WL.no rfl rfl rfl (ltb rfl) rfl hb15 rfl (ltb rfl) ?_
                    refine WL.det (op_pick_t rfl hb15 rfl) rfl rfl rfl ?_
                    refine WL.det (op_move rfl) rfl rfl rfl ?_
                    refine WL.no rfl rfl rfl (ltb rfl) rfl rfl rfl (ltb rfl) ?_
                    refine WL.no rfl rfl rfl (ltb rfl) rfl rfl rfl (ltb rfl) ?_
                    refine WL.no rfl rfl rfl (ltb rfl) rfl rfl rfl (ltb rfl) ?_
                    refine WL.no rfl rfl rfl (ltb rfl) rfl rfl rfl (ltb rfl) ?_
                    refine WL.no rfl rfl rfl (ltb rfl) rfl rfl rfl (ltb rfl) ?_
                    refine WL.no rfl rfl rfl (ltb rfl) rfl rfl rfl (ltb rfl) ?_
                    refine WL.det (op_pick_t rfl rfl rfl) rfl rfl rfl ?_
                    refine WL.end ?_
                    refine NE.code ?_
                    refine CE.cond_t rfl rfl ?_
                    refine CE.seq ?_
                    refine CE.region ?_
                    refine WL.det (op_assign rfl) rfl rfl rfl ?_
                    refine WL.end ?_
                    refine NE.code ?_
                    refine CE.ret' ?_
                    refine XE.ret_blk ?_
                    refine XE.ret_then ?_
                    refine XE.ret_blk ?_
                    refine XE.ret_then ?_
                    refine XE.ret_then ?_
                    refine XE.ret_blk ?_
                    refine XE.ret_then ?_
                    refine XE.leave1 Tryd.results65 rfl ?_
                    refine ⟨?_, (((((Mod.refl [] w).nt m1).nt m2).then m3 ((aC (.inr lR) (aC (.inr (lT m1.size lR)) aN)))).then m6 ((aC (.inr (lT m1.size lR)) aN)))⟩
                    all_goals first | exact congrArg Value.bool (evS_fn (by omega)).symm | exact congrArg Value.bool (evS_f1 (evS1_out (i := i) (by omega) (by first | exact stepS_f (by rintro ⟨a1, a2⟩; rw [vIn_t] at a1 a2; omega) | exact stepS_f2 (by assumption) (by rintro ⟨a1, a2, a3, a4, a5⟩; rw [vIn_t] at a2 a3; first | omega | (have h9 : finF (es.getD i EvR.d).force = false := (by assumption); rw [a4] at h9; cases h9)) | exact stepS_f1 (by assumption) (by rintro ⟨a1, a2, a3, a4, a5⟩; first | omega | (have h9 : (cn .f32 (es.getD i EvR.d).force == cn .f32 0) = false := (by assumption); rw [a4] at h9; cases h9)) | exact stepS_f0 (by assumption) (by assumption)))).symm | exact congrArg Value.bool (evS_f2 (evS2_out (i := q) (by omega) (by omega) (by assumption))).symm | (have e8 : i = n := (by omega); rw [e8] at hu; have e9 : q = n ∨ n = 0 := (by omega); rcases e9 with e9 | e9; (rw [e9] at hv; exact congrArg Value.bool (evS_t (by omega) (by omega) hu hv).symm); (exact congrArg Value.bool (evS_t (by omega) (by omega) hu (by rw [e9]; rfl)).symm))
                  · have hp15 := bne_eq_false_iff_eq.1 hb15
                    refine WL.yes rfl rfl rfl (ltb rfl) rfl hb15 ?_
                    refine WL.det (op_move rfl) rfl rfl rfl ?_
                    refine WL.yes rfl rfl rfl (ltb rfl) rfl hb15 ?_
                    refine WL.det (op_nilCheck rfl) rfl rfl rfl ?_
                    refine WL.yes rfl rfl rfl (ltb rfl) rfl hb15 ?_
                    refine WL.det (op_fieldAddr (off' := 0 + i * 6 + 4) rfl Tryd.runUnderlying72 rfl rfl Tryd.sizeOf2 rfl) rfl rfl rfl ?_
                    refine WL.yes rfl rfl rfl (ltb rfl) rfl hb15 ?_
                    refine WL.det (op_load1 (i := i * 6 + 4) rfl Tryd.isAgg2 (Rng.youngS r (Rng.youngS r ((r.ext m1).ext m2) m3 (allge_cons lR (allge_cons (lT m1.size lR) allge_nil))) m6 (allge_cons (lT m1.size lR) allge_nil)) rfl (cat_get (f := EvR.cells) (m := 6) (i := i) (d := EvR.d) (fun _ => rfl) (by have eL : List.length es = n := ln; omega) rfl)) rfl rfl rfl ?_
                    refine WL.yes rfl rfl rfl (ltb rfl) rfl hb15 ?_
                    refine WL.det (op_nei rfl rfl) rfl rfl rfl ?_
                    refine WL.det (op_pick_f rfl hb15 rfl) rfl rfl rfl ?_
                    refine WL.det (op_move rfl) rfl rfl rfl ?_
                    rcases Bool.eq_false_or_eq_true ((((es.getD i EvR.d).key) != (0 : Int))) with hb16 | hb16
                    · have hp16 := bne_iff_ne.1 hb16
                      refine WL.no rfl rfl rfl (ltb rfl) rfl hb16 rfl (ltb rfl) ?_
                      refine WL.no rfl rfl rfl (ltb rfl) rfl hb16 rfl (ltb rfl) ?_
                      refine WL.no rfl rfl rfl (ltb rfl) rfl hb16 rfl (ltb rfl) ?_
                      refine WL.no rfl rfl rfl (ltb rfl) rfl hb16 rfl (ltb rfl) ?_
                      refine WL.no rfl rfl rfl (ltb rfl) rfl hb16 rfl (ltb rfl) ?_
                      refine WL.no rfl rfl rfl (ltb rfl) rfl hb16 rfl (ltb rfl) ?_
                      refine WL.det (op_pick_t rfl hb16 rfl) rfl rfl rfl ?_
                      refine WL.end ?_
                      refine NE.code ?_
                      refine CE.cond_t rfl rfl ?_
                      refine CE.seq ?_
                      refine CE.region ?_
                      refine WL.det (op_assign rfl) rfl rfl rfl ?_
                      refine WL.end ?_
                      refine NE.code ?_
                      refine CE.ret' ?_
                      refine XE.ret_blk ?_
                      refine XE.ret_then ?_
                      refine XE.ret_blk ?_
                      refine XE.ret_then ?_
                      refine XE.ret_then ?_
                      refine XE.ret_blk ?_
                      refine XE.ret_then ?_
                      refine XE.leave1 Tryd.results65 rfl ?_
                      refine ⟨?_, (((((Mod.refl [] w).nt m1).nt m2).then m3 ((aC (.inr lR) (aC (.inr (lT m1.size lR)) aN)))).then m6 ((aC (.inr (lT m1.size lR)) aN)))⟩
                      all_goals first | exact congrArg Value.bool (evS_fn (by omega)).symm | exact congrArg Value.bool (evS_f1 (evS1_out (i := i) (by omega) (by first | exact stepS_f (by rintro ⟨a1, a2⟩; rw [vIn_t] at a1 a2; omega) | exact stepS_f2 (by assumption) (by rintro ⟨a1, a2, a3, a4, a5⟩; rw [vIn_t] at a2 a3; first | omega | (have h9 : finF (es.getD i EvR.d).force = false := (by assumption); rw [a4] at h9; cases h9)) | exact stepS_f1 (by assumption) (by rintro ⟨a1, a2, a3, a4, a5⟩; first | omega | (have h9 : (cn .f32 (es.getD i EvR.d).force == cn .f32 0) = false := (by assumption); rw [a4] at h9; cases h9)) | exact stepS_f0 (by assumption) (by assumption)))).symm | exact congrArg Value.bool (evS_f2 (evS2_out (i := q) (by omega) (by omega) (by assumption))).symm | (have e8 : i = n := (by omega); rw [e8] at hu; have e9 : q = n ∨ n = 0 := (by omega); rcases e9 with e9 | e9; (rw [e9] at hv; exact congrArg Value.bool (evS_t (by omega) (by omega) hu hv).symm); (exact congrArg Value.bool (evS_t (by omega) (by omega) hu (by rw [e9]; rfl)).symm))
                    · have hp16 := bne_eq_false_iff_eq.1 hb16
                      refine WL.yes rfl rfl rfl (ltb rfl) rfl hb16 ?_
                      refine WL.det (op_move rfl) rfl rfl rfl ?_
                      refine WL.yes rfl rfl rfl (ltb rfl) rfl hb16 ?_
                      refine WL.det (op_nilCheck rfl) rfl rfl rfl ?_
                      refine WL.yes rfl rfl rfl (ltb rfl) rfl hb16 ?_
                      refine WL.det (op_fieldAddr (off' := 0 + i * 6 + 5) rfl Tryd.runUnderlying72 rfl rfl Tryd.sizeOf22 rfl) rfl rfl rfl ?_
                      refine WL.yes rfl rfl rfl (ltb rfl) rfl hb16 ?_
                      refine WL.det (op_load1 (i := i * 6 + 5) rfl Tryd.isAgg22 (Rng.youngS r (Rng.youngS r ((r.ext m1).ext m2) m3 (allge_cons lR (allge_cons (lT m1.size lR) allge_nil))) m6 (allge_cons (lT m1.size lR) allge_nil)) rfl (cat_get (f := EvR.cells) (m := 6) (i := i) (d := EvR.d) (fun _ => rfl) (by have eL : List.length es = n := ln; omega) rfl)) rfl rfl rfl ?_
                      refine WL.yes rfl rfl rfl (ltb rfl) rfl hb16 ?_
                      refine WL.call (oc_call (vs := [vF ((es.getD i EvR.d).force), vF 0]) (cap := []) rfl rfl rfl Tryd.call89 (c_l01Same ((es.getD i EvR.d).force) ((es.getD i EvR.d).force) 0 0 rfl rfl w6)) rfl rfl (ltb rfl) ?_
                      rintro _ _ ⟨rfl, rfl⟩
                      refine WL.yes rfl rfl rfl (ltb rfl) rfl hb16 ?_
                      refine WL.det (op_not rfl) rfl rfl rfl ?_
                      refine WL.det (op_pick_f rfl hb16 rfl) rfl rfl rfl ?_
                      refine WL.end ?_
                      refine NE.code ?_
                      rcases Bool.eq_false_or_eq_true (cn .f32 ((es.getD i EvR.d).force) == cn .f32 0) with hb17 | hb17
                      · have hp17 := hb17; try simp only [Bool.and_eq_true, Bool.or_eq_true, Bool.not_eq_true', Bool.not_eq_false', Bool.and_eq_false_iff, Bool.or_eq_false_iff, decide_eq_true_eq, decide_eq_false_iff_not, beq_iff_eq, bne_iff_ne, beq_eq_false_iff_ne, bne_eq_false_iff_eq, ne_eq, Bool.false_eq_true, not_false_eq_true, not_true_eq_false, vIn_t, vIn_f] at hp17
                        refine CE.cond_f rfl (bnot_t hb17) ?_
                        refine CE.skip' ?_
                        refine NE.blk ?_
                        refine NE.code ?_
                        refine CE.seq ?_
                        refine CE.region ?_
                        refine WL.det (op_move rfl) rfl rfl rfl ?_
                        refine WL.det (op_move rfl) rfl rfl rfl ?_
                        refine WL.det (op_nilCheck rfl) rfl rfl rfl ?_
                        refine WL.det (op_fieldAddr (off' := 0 + i * 6 + 2) rfl Tryd.runUnderlying72 rfl rfl Tryd.sizeOf2 rfl) rfl rfl rfl ?_
                        refine WL.det (op_load1 (i := i * 6 + 2) rfl Tryd.isAgg2 (Rng.youngS r (Rng.youngS r ((r.ext m1).ext m2) m3 (allge_cons lR (allge_cons (lT m1.size lR) allge_nil))) m6 (allge_cons (lT m1.size lR) allge_nil)) rfl (cat_get (f := EvR.cells) (m := 6) (i := i) (d := EvR.d) (fun _ => rfl) (by have eL : List.length es = n := ln; omega) rfl)) rfl rfl rfl ?_
                        refine WL.det (op_indexSl (off' := 0 + (((es.getD i EvR.d).note)).toNat * 1) rfl rfl rfl Tryd.runUnderlying104 Tryd.sizeOf2 (by omega) (by omega) (by omega)) rfl rfl rfl ?_
                        refine WL.det (op_load1 (i := (((es.getD i EvR.d).note)).toNat * 1) rfl Tryd.isAgg2 (r3.mod m6 (nC (lE (lL r1.lt lR)) nN)).rng rfl (cat_get0 (f := IntR.cells) (m := 1) (i := (((es.getD i EvR.d).note)).toNat) (d := IntR.d) (fun _ => rfl) (by have eL : List.length ss = (n / 2) := lss; omega) (congrArg (fun z => some (vI z)) (cnt_at hss (by omega) (by omega))))) rfl rfl rfl ?_
                        refine WL.det (op_gti rfl rfl) rfl rfl rfl ?_
                        refine WL.det (op_move rfl) rfl rfl rfl ?_
                        rcases Bool.eq_false_or_eq_true (decide ((1 : Int) < ((cntK 2 es (es.getD i EvR.d).note i : Nat) : Int))) with hb18 | hb18
                        · have hp18 := of_decide_eq_true hb18
                          refine WL.no rfl rfl rfl (ltb rfl) rfl hb18 rfl (ltb rfl) ?_
                          refine WL.no rfl rfl rfl (ltb rfl) rfl hb18 rfl (ltb rfl) ?_
                          refine WL.no rfl rfl rfl (ltb rfl) rfl hb18 rfl (ltb rfl) ?_
                          refine WL.no rfl rfl rfl (ltb rfl) rfl hb18 rfl (ltb rfl) ?_
                          refine WL.no rfl rfl rfl (ltb rfl) rfl hb18 rfl (ltb rfl) ?_
                          refine WL.no rfl rfl rfl (ltb rfl) rfl hb18 rfl (ltb rfl) ?_
                          refine WL.no rfl rfl rfl (ltb rfl) rfl hb18 rfl (ltb rfl) ?_
                          refine WL.no rfl rfl rfl (ltb rfl) rfl hb18 rfl (ltb rfl) ?_
                          refine WL.det (op_pick_t rfl hb18 rfl) rfl rfl rfl ?_
                          refine WL.end ?_
                          refine NE.code ?_
                          refine CE.cond_t rfl rfl ?_
                          refine CE.seq ?_
                          refine CE.region ?_
                          refine WL.det (op_assign rfl) rfl rfl rfl ?_
                          refine WL.end ?_
                          refine NE.code ?_
                          refine CE.ret' ?_
                          refine XE.ret_blk ?_
                          refine XE.ret_then ?_
                          refine XE.ret_then ?_
                          refine XE.ret_blk ?_
                          refine XE.ret_then ?_
                          refine XE.leave1 Tryd.results65 rfl ?_
                          refine ⟨?_, (((((Mod.refl [] w).nt m1).nt m2).then m3 ((aC (.inr lR) (aC (.inr (lT m1.size lR)) aN)))).then m6 ((aC (.inr (lT m1.size lR)) aN)))⟩
                          all_goals first | exact congrArg Value.bool (evS_fn (by omega)).symm | exact congrArg Value.bool (evS_f1 (evS1_out (i := i) (by omega) (by first | exact stepS_f (by rintro ⟨a1, a2⟩; rw [vIn_t] at a1 a2; omega) | exact stepS_f2 (by assumption) (by rintro ⟨a1, a2, a3, a4, a5⟩; rw [vIn_t] at a2 a3; first | omega | (have h9 : finF (es.getD i EvR.d).force = false := (by assumption); rw [a4] at h9; cases h9)) | exact stepS_f1 (by assumption) (by rintro ⟨a1, a2, a3, a4, a5⟩; first | omega | (have h9 : (cn .f32 (es.getD i EvR.d).force == cn .f32 0) = false := (by assumption); rw [a4] at h9; cases h9)) | exact stepS_f0 (by assumption) (by assumption)))).symm | exact congrArg Value.bool (evS_f2 (evS2_out (i := q) (by omega) (by omega) (by assumption))).symm | (have e8 : i = n := (by omega); rw [e8] at hu; have e9 : q = n ∨ n = 0 := (by omega); rcases e9 with e9 | e9; (rw [e9] at hv; exact congrArg Value.bool (evS_t (by omega) (by omega) hu hv).symm); (exact congrArg Value.bool (evS_t (by omega) (by omega) hu (by rw [e9]; rfl)).symm))
                        · have hp18 := of_decide_eq_false hb18
                          refine WL.yes rfl rfl rfl (ltb rfl) rfl hb18 ?_
                          refine WL.det (op_move rfl) rfl rfl rfl ?_
                          refine WL.yes rfl rfl rfl (ltb rfl) rfl hb18 ?_
                          refine WL.det (op_move rfl) rfl rfl rfl ?_
                          refine WL.yes rfl rfl rfl (ltb rfl) rfl hb18 ?_
                          refine WL.det (op_nilCheck rfl) rfl rfl rfl ?_
                          refine WL.yes rfl rfl rfl (ltb rfl) rfl hb18 ?_
                          refine WL.det (op_fieldAddr (off' := 0 + i * 6 + 2) rfl Tryd.runUnderlying72 rfl rfl Tryd.sizeOf2 rfl) rfl rfl rfl ?_
                          refine WL.yes rfl rfl rfl (ltb rfl) rfl hb18 ?_
                          refine WL.det (op_load1 (i := i * 6 + 2) rfl Tryd.isAgg2 (Rng.youngS r (Rng.youngS r ((r.ext m1).ext m2) m3 (allge_cons lR (allge_cons (lT m1.size lR) allge_nil))) m6 (allge_cons (lT m1.size lR) allge_nil)) rfl (cat_get (f := EvR.cells) (m := 6) (i := i) (d := EvR.d) (fun _ => rfl) (by have eL : List.length es = n := ln; omega) rfl)) rfl rfl rfl ?_
                          refine WL.yes rfl rfl rfl (ltb rfl) rfl hb18 ?_
                          refine WL.det (op_indexSl (off' := 0 + (((es.getD i EvR.d).note)).toNat * 1) rfl rfl rfl Tryd.runUnderlying104 Tryd.sizeOf2 (by omega) (by omega) (by omega)) rfl rfl rfl ?_
                          refine WL.yes rfl rfl rfl (ltb rfl) rfl hb18 ?_
                          refine WL.det (op_load1 (i := (((es.getD i EvR.d).note)).toNat * 1) rfl Tryd.isAgg2 r8.rng rfl (cat_get0 (f := IntR.cells) (m := 1) (i := (((es.getD i EvR.d).note)).toNat) (d := IntR.d) (fun _ => rfl) (by have eL : List.length (ps.set ((((es.getD i EvR.d).note)).toNat) (IntR.mk ((cntK 1 es (es.getD i EvR.d).note i + 1 : Nat) : Int))) = (n / 2) := ((List.length_set).trans lps); omega) (congrArg (fun z => some (vI z)) (set_at lps (by omega))))) rfl rfl rfl ?_
                          refine WL.yes rfl rfl rfl (ltb rfl) rfl hb18 ?_
                          refine WL.det (op_gti rfl rfl) rfl rfl rfl ?_
                          refine WL.det (op_pick_f rfl hb18 rfl) rfl rfl rfl ?_
                          refine WL.end ?_
                          refine NE.code ?_
                          rcases Bool.eq_false_or_eq_true (decide ((1 : Int) < (((cntK 1 es (es.getD i EvR.d).note i : Nat) : Int) + (1 : Int)))) with hb19 | hb19
                          · have hp19 := of_decide_eq_true hb19
                            refine CE.cond_t rfl hb19 ?_
                            refine CE.seq ?_
                            refine CE.region ?_
                            refine WL.det (op_assign rfl) rfl rfl rfl ?_
                            refine WL.end ?_
                            refine NE.code ?_
                            refine CE.ret' ?_
                            refine XE.ret_blk ?_
                            refine XE.ret_then ?_
                            refine XE.ret_then ?_
                            refine XE.ret_blk ?_
                            refine XE.ret_then ?_
                            refine XE.leave1 Tryd.results65 rfl ?_
                            refine ⟨?_, (((((Mod.refl [] w).nt m1).nt m2).then m3 ((aC (.inr lR) (aC (.inr (lT m1.size lR)) aN)))).then m6 ((aC (.inr (lT m1.size lR)) aN)))⟩
                            all_goals first | exact congrArg Value.bool (evS_fn (by omega)).symm | exact congrArg Value.bool (evS_f1 (evS1_out (i := i) (by omega) (by first | exact stepS_f (by rintro ⟨a1, a2⟩; rw [vIn_t] at a1 a2; omega) | exact stepS_f2 (by assumption) (by rintro ⟨a1, a2, a3, a4, a5⟩; rw [vIn_t] at a2 a3; first | omega | (have h9 : finF (es.getD i EvR.d).force = false := (by assumption); rw [a4] at h9; cases h9)) | exact stepS_f1 (by assumption) (by rintro ⟨a1, a2, a3, a4, a5⟩; first | omega | (have h9 : (cn .f32 (es.getD i EvR.d).force == cn .f32 0) = false := (by assumption); rw [a4] at h9; cases h9)) | exact stepS_f0 (by assumption) (by assumption)))).symm | exact congrArg Value.bool (evS_f2 (evS2_out (i := q) (by omega) (by omega) (by assumption))).symm | (have e8 : i = n := (by omega); rw [e8] at hu; have e9 : q = n ∨ n = 0 := (by omega); rcases e9 with e9 | e9; (rw [e9] at hv; exact congrArg Value.bool (evS_t (by omega) (by omega) hu hv).symm); (exact congrArg Value.bool (evS_t (by omega) (by omega) hu (by rw [e9]; rfl)).symm))
                          · have hp19 := of_decide_eq_false hb19
                            refine CE.cond_f rfl hb19 ?_
                            refine CE.skip' ?_
                            refine NE.blk ?_
                            refine NE.code ?_
                            refine CE.region ?_
                            refine WL.det (op_move rfl) rfl rfl rfl ?_
                            refine WL.det (op_add (r := ((i + 1 : Nat) : Int)) rfl rfl (w_i64 (by omega) (by omega))) rfl rfl rfl ?_
                            refine WL.det (op_assign rfl) rfl rfl rfl ?_
                            refine WL.end ?_
                            exact NE.again ((i + 1), ss, (ps.set ((((es.getD i EvR.d).note)).toNat) (IntR.mk ((cntK 1 es (es.getD i EvR.d).note i + 1 : Nat) : Int)))) (⟨rfl, rfl, rfl, rfl, rfl, rfl, rfl, trivial⟩) ⟨(by omega), (by first | exact (List.length_set).trans lss | exact lss), (by first | exact (List.length_set).trans lps | exact lps), (by first | exact cnt_set hss lss (by assumption) (by omega) (by omega) | exact cnt_keep hss (by omega)), (by first | exact cnt_set hps lps (by assumption) (by omega) (by omega) | exact cnt_keep hps (by omega)), (by unfold evS1; rw [hu, Bool.true_and]; first | exact stepS_2 (by assumption) (by assumption) ((vIn_t _ _ _).2 ⟨by omega, by omega⟩) (by omega) (by assumption) (by assumption) (by assumption) (by omega) | exact stepS_1 (by assumption) (by assumption) ((vIn_t _ _ _).2 ⟨by omega, by omega⟩) (by omega) (by omega) (by omega) (by assumption) (by omega)), (Row.congr (r3.mod m6 (nC (lE (lL r1.lt lR)) nN)) rfl), (Row.congr r8 rfl), (m3.then m6 ((aC (.inl (by simp)) aN)))⟩ (by first | (dsimp only; omega) | omega)
                      · have hp17 := hb17; try simp only [Bool.and_eq_true, Bool.or_eq_true, Bool.not_eq_true', Bool.not_eq_false', Bool.and_eq_false_iff, Bool.or_eq_false_iff, decide_eq_true_eq, decide_eq_false_iff_not, beq_iff_eq, bne_iff_ne, beq_eq_false_iff_ne, bne_eq_false_iff_eq, ne_eq, Bool.false_eq_true, not_false_eq_true, not_true_eq_false, vIn_t, vIn_f] at hp17
                        refine CE.cond_t rfl (bnot_f hb17) ?_
                        refine CE.seq ?_
                        refine CE.region ?_
                        refine WL.det (op_assign rfl) rfl rfl rfl ?_
                        refine WL.end ?_
                        refine NE.code ?_
                        refine CE.ret' ?_
                        refine XE.ret_blk ?_
                        refine XE.ret_then ?_
                        refine XE.ret_blk ?_
                        refine XE.ret_then ?_
                        refine XE.ret_then ?_
                        refine XE.ret_blk ?_
                        refine XE.ret_then ?_
                        refine XE.leave1 Tryd.results65 rfl ?_
                        refine ⟨?_, (((((Mod.refl [] w).nt m1).nt m2).then m3 ((aC (.inr lR) (aC (.inr (lT m1.size lR)) aN)))).then m6 ((aC (.inr (lT m1.size lR)) aN)))⟩
                        all_goals first | exact congrArg Value.bool (evS_fn (by omega)).symm | exact congrArg Value.bool (evS_f1 (evS1_out (i := i) (by omega) (by first | exact stepS_f (by rintro ⟨a1, a2⟩; rw [vIn_t] at a1 a2; omega) | exact stepS_f2 (by assumption) (by rintro ⟨a1, a2, a3, a4, a5⟩; rw [vIn_t] at a2 a3; first | omega | (have h9 : finF (es.getD i EvR.d).force = false := (by assumption); rw [a4] at h9; cases h9)) | exact stepS_f1 (by assumption) (by rintro ⟨a1, a2, a3, a4, a5⟩; first | omega | (have h9 : (cn .f32 (es.getD i EvR.d).force == cn .f32 0) = false := (by assumption); rw [a4] at h9; cases h9)) | exact stepS_f0 (by assumption) (by assumption)))).symm | exact congrArg Value.bool (evS_f2 (evS2_out (i := q) (by omega) (by omega) (by assumption))).symm | (have e8 : i = n := (by omega); rw [e8] at hu; have e9 : q = n ∨ n = 0 := (by omega); rcases e9 with e9 | e9; (rw [e9] at hv; exact congrArg Value.bool (evS_t (by omega) (by omega) hu hv).symm); (exact congrArg Value.bool (evS_t (by omega) (by omega) hu (by rw [e9]; rfl)).symm))
              · have hp13 := ne_of_beq_false hb13
                refine CE.cond_f rfl hb13 ?_
                refine CE.seq ?_
                refine CE.region ?_
                refine WL.det (op_assign rfl) rfl rfl rfl ?_
                refine WL.end ?_
                refine NE.code ?_
                refine CE.ret' ?_
                refine XE.ret_blk ?_
                refine XE.ret_then ?_
                refine XE.ret_blk ?_
                refine XE.ret_then ?_
                refine XE.ret_then ?_
                refine XE.ret_blk ?_
                refine XE.ret_then ?_
                refine XE.leave1 Tryd.results65 rfl ?_
                refine ⟨?_, ((((Mod.refl [] w).nt m1).nt m2).then m3 ((aC (.inr lR) (aC (.inr (lT m1.size lR)) aN))))⟩
                all_goals first | exact congrArg Value.bool (evS_fn (by omega)).symm | exact congrArg Value.bool (evS_f1 (evS1_out (i := i) (by omega) (by first | exact stepS_f (by rintro ⟨a1, a2⟩; rw [vIn_t] at a1 a2; omega) | exact stepS_f2 (by assumption) (by rintro ⟨a1, a2, a3, a4, a5⟩; rw [vIn_t] at a2 a3; first | omega | (have h9 : finF (es.getD i EvR.d).force = false := (by assumption); rw [a4] at h9; cases h9)) | exact stepS_f1 (by assumption) (by rintro ⟨a1, a2, a3, a4, a5⟩; first | omega | (have h9 : (cn .f32 (es.getD i EvR.d).force == cn .f32 0) = false := (by assumption); rw [a4] at h9; cases h9)) | exact stepS_f0 (by assumption) (by assumption)))).symm | exact congrArg Value.bool (evS_f2 (evS2_out (i := q) (by omega) (by omega) (by assumption))).symm | (have e8 : i = n := (by omega); rw [e8] at hu; have e9 : q = n ∨ n = 0 := (by omega); rcases e9 with e9 | e9; (rw [e9] at hv; exact congrArg Value.bool (evS_t (by omega) (by omega) hu hv).symm); (exact congrArg Value.bool (evS_t (by omega) (by omega) hu (by rw [e9]; rfl)).symm))
          · have hp5 := hb5; try simp only [Bool.and_eq_true, Bool.or_eq_true, Bool.not_eq_true', Bool.not_eq_false', Bool.and_eq_false_iff, Bool.or_eq_false_iff, decide_eq_true_eq, decide_eq_false_iff_not, beq_iff_eq, bne_iff_ne, beq_eq_false_iff_ne, bne_eq_false_iff_eq, ne_eq, Bool.false_eq_true, not_false_eq_true, not_true_eq_false, vIn_t, vIn_f] at hp5
            refine CE.cond_t rfl (bnot_f hb5) ?_
            refine CE.seq ?_
            refine CE.region ?_
            refine WL.det (op_assign rfl) rfl rfl rfl ?_
            refine WL.end ?_
            refine NE.code ?_
            refine CE.ret' ?_
            refine XE.ret_then ?_
            refine XE.ret_blk ?_
            refine XE.ret_then ?_
            refine XE.ret_then ?_
            refine XE.ret_blk ?_
            refine XE.ret_then ?_
            refine XE.leave1 Tryd.results65 rfl ?_
            refine ⟨?_, ((((Mod.refl [] w).nt m1).nt m2).then m3 ((aC (.inr lR) (aC (.inr (lT m1.size lR)) aN))))⟩
            all_goals first | exact congrArg Value.bool (evS_fn (by omega)).symm | exact congrArg Value.bool (evS_f1 (evS1_out (i := i) (by omega) (by first | exact stepS_f (by rintro ⟨a1, a2⟩; rw [vIn_t] at a1 a2; omega) | exact stepS_f2 (by assumption) (by rintro ⟨a1, a2, a3, a4, a5⟩; rw [vIn_t] at a2 a3; first | omega | (have h9 : finF (es.getD i EvR.d).force = false := (by assumption); rw [a4] at h9; cases h9)) | exact stepS_f1 (by assumption) (by rintro ⟨a1, a2, a3, a4, a5⟩; first | omega | (have h9 : (cn .f32 (es.getD i EvR.d).force == cn .f32 0) = false := (by assumption); rw [a4] at h9; cases h9)) | exact stepS_f0 (by assumption) (by assumption)))).symm | exact congrArg Value.bool (evS_f2 (evS2_out (i := q) (by omega) (by omega) (by assumption))).symm | (have e8 : i = n := (by omega); rw [e8] at hu; have e9 : q = n ∨ n = 0 := (by omega); rcases e9 with e9 | e9; (rw [e9] at hv; exact congrArg Value.bool (evS_t (by omega) (by omega) hu hv).symm); (exact congrArg Value.bool (evS_t (by omega) (by omega) hu (by rw [e9]; rfl)).symm))
        · have hp4 := hb4; try simp only [Bool.and_eq_true, Bool.or_eq_true, Bool.not_eq_true', Bool.not_eq_false', Bool.and_eq_false_iff, Bool.or_eq_false_iff, decide_eq_true_eq, decide_eq_false_iff_not, beq_iff_eq, bne_iff_ne, beq_eq_false_iff_ne, bne_eq_false_iff_eq, ne_eq, Bool.false_eq_true, not_false_eq_true, not_true_eq_false, vIn_t, vIn_f] at hp4
          refine WL.no rfl rfl rfl (ltb rfl) rfl (bnot_f hb4) rfl (ltb rfl) ?_
          refine WL.no rfl rfl rfl (ltb rfl) rfl (bnot_f hb4) rfl (ltb rfl) ?_
          refine WL.no rfl rfl rfl (ltb rfl) rfl (bnot_f hb4) rfl (ltb rfl) ?_
          refine WL.no rfl rfl rfl (ltb rfl) rfl (bnot_f hb4) rfl (ltb rfl) ?_
          refine WL.no rfl rfl rfl (ltb rfl) rfl (bnot_f hb4) rfl (ltb rfl) ?_
          refine WL.no rfl rfl rfl (ltb rfl) rfl (bnot_f hb4) rfl (ltb rfl) ?_
          refine WL.no rfl rfl rfl (ltb rfl) rfl (bnot_f hb4) rfl (ltb rfl) ?_
          refine WL.no rfl rfl rfl (ltb rfl) rfl (bnot_f hb4) rfl (ltb rfl) ?_
          refine WL.det (op_pick_t rfl (bnot_f hb4) rfl) rfl rfl rfl ?_
          refine WL.end ?_
          refine NE.code ?_
          refine CE.cond_t rfl rfl ?_
          refine CE.seq ?_
          refine CE.region ?_
          refine WL.det (op_assign rfl) rfl rfl rfl ?_
          refine WL.end ?_
          refine NE.code ?_
          refine CE.ret' ?_
          refine XE.ret_then ?_
          refine XE.ret_blk ?_
          refine XE.ret_then ?_
          refine XE.ret_then ?_
          refine XE.ret_blk ?_
          refine XE.ret_then ?_
          refine XE.leave1 Tryd.results65 rfl ?_
          refine ⟨?_, ((((Mod.refl [] w).nt m1).nt m2).then m3 ((aC (.inr lR) (aC (.inr (lT m1.size lR)) aN))))⟩
          all_goals first | exact congrArg Value.bool (evS_fn (by omega)).symm | exact congrArg Value.bool (evS_f1 (evS1_out (i := i) (by omega) (by first | exact stepS_f (by rintro ⟨a1, a2⟩; rw [vIn_t] at a1 a2; omega) | exact stepS_f2 (by assumption) (by rintro ⟨a1, a2, a3, a4, a5⟩; rw [vIn_t] at a2 a3; first | omega | (have h9 : finF (es.getD i EvR.d).force = false := (by assumption); rw [a4] at h9; cases h9)) | exact stepS_f1 (by assumption) (by rintro ⟨a1, a2, a3, a4, a5⟩; first | omega | (have h9 : (cn .f32 (es.getD i EvR.d).force == cn .f32 0) = false := (by assumption); rw [a4] at h9; cases h9)) | exact stepS_f0 (by assumption) (by assumption)))).symm | exact congrArg Value.bool (evS_f2 (evS2_out (i := q) (by omega) (by omega) (by assumption))).symm | (have e8 : i = n := (by omega); rw [e8] at hu; have e9 : q = n ∨ n = 0 := (by omega); rcases e9 with e9 | e9; (rw [e9] at hv; exact congrArg Value.bool (evS_t (by omega) (by omega) hu hv).symm); (exact congrArg Value.bool (evS_t (by omega) (by omega) hu (by rw [e9]; rfl)).symm))
      · have hp3 := of_decide_eq_false hb3
        refine CE.cond_f rfl hb3 ?_
        refine CE.exit' ?_
        refine XE.exit_then ?_
        refine XE.exit_then ?_
        refine XE.exit_here ?_
        refine NE.code ?_
        refine CE.seq ?_
        refine CE.seq ?_
        refine CE.region ?_
        refine WL.det (op_assign rfl) rfl rfl rfl ?_
        refine WL.end ?_
        refine NE.code ?_
        refine CE.block ?_
        refine CE.loop (fun (q : Nat) => [(10, vI ((q : Nat) : Int)), (0, vS b 0 n c), (4, .bool false)]) (fun (q : Nat) => fun W => (1 ≤ q) ∧ (q ≤ n ∨ (n = 0 ∧ q = 1)) ∧ (evS2 es n q = true) ∧ Mod [] w3 W) (fun (q : Nat) => n - q) 1 (⟨rfl, rfl, rfl, trivial⟩) ⟨(by omega), (by omega), (by rfl), Mod.refl _ _⟩ ?_
        rintro q w7 ⟨h1, hq, hv, m7⟩
        show CE _ _ _ _ [(10, vI ((q : Nat) : Int)), (0, vS b 0 n c), (4, .bool false)] _
        refine CE.seq ?_
        refine CE.seq ?_
        refine CE.region ?_
        refine WL.det (op_move rfl) rfl rfl rfl ?_
        refine WL.det (op_move rfl) rfl rfl rfl ?_
        refine WL.det (op_len rfl Tryd.runUnderlying41) rfl rfl rfl ?_
        refine WL.det (op_lti rfl rfl) rfl rfl rfl ?_
        refine WL.end ?_
        refine NE.code ?_
        rcases Bool.eq_false_or_eq_true (decide (((q : Nat) : Int) < ((n : Nat) : Int))) with hb20 | hb20
        · have hp20 := of_decide_eq_true hb20
          refine CE.cond_t rfl hb20 ?_
          refine CE.skip' ?_
          refine NE.code ?_
          refine CE.seq ?_
          refine CE.block ?_
          refine CE.seq ?_
          refine CE.draw (fun | 11 => some (fun _ wA uA wB => uA = vI (firstI es ((es.getD (q - 1) EvR.d).note) n) ∧ Mod [] wA wB) | 12 => some (fun _ wA uA wB => uA = .agg #[vI ((es.getD (q - 1) EvR.d).at_), vI (lateS (firstI es ((es.getD (q - 1) EvR.d).note) n) ((es.getD (q - 1) EvR.d).at_) ((es.getD (q - 1) EvR.d).kind)), vI ((es.getD (q - 1) EvR.d).note), vI (stopK ((es.getD (q - 1) EvR.d).kind))] ∧ Mod [] wA wB) | _ => none) [0, 1, 2, 3, 4, 5, 6, 7, 8, 9, 10, 11, 12, 13] [14] [] (by kernel_rfl) (by kernel_rfl) ?_
          have md1 : Mod [] w7 w7.drew := (Mod.refl _ _).drew
          generalize w7.drew = w8 at md1 ⊢
          refine DR.det (i := 0) rfl rfl (by kernel_rfl) (.free rfl) rfl rfl (fun wD mD => op_move rfl) ?_
          refine DR.det (i := 1) rfl rfl (by kernel_rfl) (.free rfl) rfl rfl (fun wD mD => op_move rfl) ?_
          refine DR.det (i := 2) rfl rfl (by kernel_rfl) (.free rfl) rfl rfl (fun wD mD => op_sub (r := ((q - 1 : Nat) : Int)) rfl rfl (w_nsub (l := q) (n := 1) (by omega) (by omega))) ?_
          refine DR.det (i := 3) rfl rfl (by kernel_rfl) (.free rfl) rfl rfl (fun wD mD => op_indexSl (off' := 0 + (q - 1) * 6) rfl rfl rfl Tryd.runUnderlying41 Tryd.sizeOf72 (by omega) (by omega) (by omega)) ?_
          refine DR.det (i := 4) rfl rfl (by kernel_rfl) (.free rfl) rfl rfl (fun wD mD => op_move rfl) ?_
          refine DR.det (i := 5) rfl rfl (by kernel_rfl) (.free rfl) rfl rfl (fun wD mD => op_move rfl) ?_
          refine DR.det (i := 6) rfl rfl (by kernel_rfl) (.free rfl) rfl rfl (fun wD mD => op_move rfl) ?_
          refine DR.det (i := 7) rfl rfl (by kernel_rfl) (.free rfl) rfl rfl (fun wD mD => op_sub (r := ((q - 1 : Nat) : Int)) rfl rfl (w_nsub (l := q) (n := 1) (by omega) (by omega))) ?_
          refine DR.det (i := 8) rfl rfl (by kernel_rfl) (.free rfl) rfl rfl (fun wD mD => op_indexSl (off' := 0 + (q - 1) * 6) rfl rfl rfl Tryd.runUnderlying41 Tryd.sizeOf72 (by omega) (by omega) (by omega)) ?_
          refine DR.det (i := 9) rfl rfl (by kernel_rfl) (.free rfl) rfl rfl (fun wD mD => op_fieldAddr (off' := 0 + (q - 1) * 6 + 2) rfl Tryd.runUnderlying72 rfl rfl Tryd.sizeOf2 rfl) ?_
          refine DR.det (i := 10) rfl rfl (by kernel_rfl) (.free rfl) rfl rfl (fun wD mD => op_load1 (i := (q - 1) * 6 + 2) rfl Tryd.isAgg2 ((((Rng.youngS r ((r.ext m1).ext m2) m3 (allge_cons lR (allge_cons (lT m1.size lR) allge_nil))).ext m7).ext md1).ext mD) rfl (cat_get (f := EvR.cells) (m := 6) (i := (q - 1)) (d := EvR.d) (fun _ => rfl) (by have eL : List.length es = n := ln; omega) rfl)) ?_
          refine DR.call (i := 11) (fun uA => uA = vI (firstI es ((es.getD (q - 1) EvR.d).note) n)) rfl rfl (by kernel_rfl) (.free rfl) rfl (ltb rfl) ⟨_, rfl⟩ (vs := [.func (.func 91) #[] #[], vS b 0 n c, vI ((es.getD (q - 1) EvR.d).note)]) rfl (fun wD mD => oc_call (vs := [vS b 0 n c, vI ((es.getD (q - 1) EvR.d).note)]) (cap := []) rfl rfl rfl Tryd.call91 (c_l08Start n c b es ((es.getD (q - 1) EvR.d).note) ln (by omega) wD ((((Rng.youngS r ((r.ext m1).ext m2) m3 (allge_cons lR (allge_cons (lT m1.size lR) allge_nil))).ext m7).ext md1).ext mD))) ?_ ?_
          · rintro w1 _ w2 m1 ⟨rfl, m2⟩; exact ⟨rfl, m2⟩
          rintro _ rfl
          refine DR.call (i := 12) (fun uA => uA = .agg #[vI ((es.getD (q - 1) EvR.d).at_), vI (lateS (firstI es ((es.getD (q - 1) EvR.d).note) n) ((es.getD (q - 1) EvR.d).at_) ((es.getD (q - 1) EvR.d).kind)), vI ((es.getD (q - 1) EvR.d).note), vI (stopK ((es.getD (q - 1) EvR.d).kind))]) rfl rfl (by kernel_rfl) (.free rfl) rfl (ltb rfl) ⟨_, rfl⟩ (vs := [.func (.func 90) #[] #[], vP b (0 + (q - 1) * 6), vI (firstI es ((es.getD (q - 1) EvR.d).note) n)]) rfl (fun wD mD => oc_call (vs := [vP b (0 + (q - 1) * 6), vI (firstI es ((es.getD (q - 1) EvR.d).note) n)]) (cap := []) rfl rfl rfl Tryd.call90 (c_l08Key ((es.getD (q - 1) EvR.d).at_) ((es.getD (q - 1) EvR.d).kind) ((es.getD (q - 1) EvR.d).note) ((es.getD (q - 1) EvR.d).ins) ((es.getD (q - 1) EvR.d).key) ((es.getD (q - 1) EvR.d).force) b (0 + (q - 1) * 6) (cat EvR.cells es) (firstI es ((es.getD (q - 1) EvR.d).note) n) (zf_ (cat_fit (f := EvR.cells) (fun _ => rfl) ln (show (q - 1) < n by omega))) wD (Rng.congr ((((Rng.youngS r ((r.ext m1).ext m2) m3 (allge_cons lR (allge_cons (lT m1.size lR) allge_nil))).ext m7).ext md1).ext mD) (zp_ (cat_part (f := EvR.cells) (d := EvR.d) (fun _ => rfl) ln (show (q - 1) < n by omega)))))) ?_ ?_
          · rintro w1 _ w2 m1 ⟨rfl, m2⟩; exact ⟨rfl, m2⟩
          rintro _ rfl
          refine DR.one1 (i := 13) rfl rfl (by kernel_rfl) (.free rfl) rfl (ltb rfl) ?_
          intro w9 m8
          refine Op1.mono (op_alloc (cs := [vI 0, vI 0, vI 0, vI 0]) Tryd.zeroValue101 rfl) ?_
          rintro _ w10 ⟨rfl, r9, m9, z5⟩
          refine ⟨(((Mod.refl [] w8).nt m8).nt m9), ?_⟩
          refine DR.done rfl ?_
          intro w11 m10
          refine WO.op0 rfl (.free rfl) rfl (op_store (i := 0) (cs := [vI ((es.getD (q - 1) EvR.d).at_), vI (lateS (firstI es ((es.getD (q - 1) EvR.d).note) n) ((es.getD (q - 1) EvR.d).at_) ((es.getD (q - 1) EvR.d).kind)), vI ((es.getD (q - 1) EvR.d).note), vI (stopK ((es.getD (q - 1) EvR.d).kind))]) rfl rfl rfl Tryd.sizeOf101 rfl (r9.ext m10) rfl (lB rfl) rfl) ?_
          rintro _ w12 ⟨r10, m11, z6⟩
          have r11 : Row w12 w9.heap.size 0 [vI ((es.getD (q - 1) EvR.d).at_), vI (lateS (firstI es ((es.getD (q - 1) EvR.d).note) n) ((es.getD (q - 1) EvR.d).at_) ((es.getD (q - 1) EvR.d).kind)), vI ((es.getD (q - 1) EvR.d).note), vI (stopK ((es.getD (q - 1) EvR.d).kind))] := Row.congr r10 rfl
          refine WO.end ?_
          refine NE.code ?_
          refine CE.seq ?_
          refine CE.draw (fun | 9 => some (fun _ wA uA wB => uA = vI (firstI es ((es.getD q EvR.d).note) n) ∧ Mod [] wA wB) | 10 => some (fun _ wA uA wB => uA = .agg #[vI ((es.getD q EvR.d).at_), vI (lateS (firstI es ((es.getD q EvR.d).note) n) ((es.getD q EvR.d).at_) ((es.getD q EvR.d).kind)), vI ((es.getD q EvR.d).note), vI (stopK ((es.getD q EvR.d).kind))] ∧ Mod [] wA wB) | _ => none) [0, 1, 2, 3, 4, 5, 6, 7, 8, 9, 10, 11] [12] [] (by kernel_rfl) (by kernel_rfl) ?_
          have md2 : Mod [] w12 w12.drew := (Mod.refl _ _).drew
          generalize w12.drew = w13 at md2 ⊢
          refine DR.det (i := 0) rfl rfl (by kernel_rfl) (.free rfl) rfl rfl (fun wD mD => op_move rfl) ?_
          refine DR.det (i := 1) rfl rfl (by kernel_rfl) (.free rfl) rfl rfl (fun wD mD => op_move rfl) ?_
          refine DR.det (i := 2) rfl rfl (by kernel_rfl) (.free rfl) rfl rfl (fun wD mD => op_indexSl (off' := 0 + q * 6) rfl rfl rfl Tryd.runUnderlying41 Tryd.sizeOf72 (by omega) (by omega) (by omega)) ?_
          refine DR.det (i := 3) rfl rfl (by kernel_rfl) (.free rfl) rfl rfl (fun wD mD => op_move rfl) ?_
          refine DR.det (i := 4) rfl rfl (by kernel_rfl) (.free rfl) rfl rfl (fun wD mD => op_move rfl) ?_
          refine DR.det (i := 5) rfl rfl (by kernel_rfl) (.free rfl) rfl rfl (fun wD mD => op_move rfl) ?_
          refine DR.det (i := 6) rfl rfl (by kernel_rfl) (.free rfl) rfl rfl (fun wD mD => op_indexSl (off' := 0 + q * 6) rfl rfl rfl Tryd.runUnderlying41 Tryd.sizeOf72 (by omega) (by omega) (by omega)) ?_
          refine DR.det (i := 7) rfl rfl (by kernel_rfl) (.free rfl) rfl rfl (fun wD mD => op_fieldAddr (off' := 0 + q * 6 + 2) rfl Tryd.runUnderlying72 rfl rfl Tryd.sizeOf2 rfl) ?_
          refine DR.det (i := 8) rfl rfl (by kernel_rfl) (.free rfl) rfl rfl (fun wD mD => op_load1 (i := q * 6 + 2) rfl Tryd.isAgg2 (((Rng.youngS r ((((((Rng.youngS r ((r.ext m1).ext m2) m3 (allge_cons lR (allge_cons (lT m1.size lR) allge_nil))).ext m7).ext md1).ext m8).ext m9).ext m10) m11 (allge_cons (lT (lT (lT (lT (lT (lT m1.size m2.size) m3.size) m7.size) md1.size) m8.size) lR) allge_nil)).ext md2).ext mD) rfl (cat_get (f := EvR.cells) (m := 6) (i := q) (d := EvR.d) (fun _ => rfl) (by have eL : List.length es = n := ln; omega) rfl)) ?_
          refine DR.call (i := 9) (fun uA => uA = vI (firstI es ((es.getD q EvR.d).note) n)) rfl rfl (by kernel_rfl) (.free rfl) rfl (ltb rfl) ⟨_, rfl⟩ (vs := [.func (.func 91) #[] #[], vS b 0 n c, vI ((es.getD q EvR.d).note)]) rfl (fun wD mD => oc_call (vs := [vS b 0 n c, vI ((es.getD q EvR.d).note)]) (cap := []) rfl rfl rfl Tryd.call91 (c_l08Start n c b es ((es.getD q EvR.d).note) ln (by omega) wD (((Rng.youngS r ((((((Rng.youngS r ((r.ext m1).ext m2) m3 (allge_cons lR (allge_cons (lT m1.size lR) allge_nil))).ext m7).ext md1).ext m8).ext m9).ext m10) m11 (allge_cons (lT (lT (lT (lT (lT (lT m1.size m2.size) m3.size) m7.size) md1.size) m8.size) lR) allge_nil)).ext md2).ext mD))) ?_ ?_
          · rintro w1 _ w2 m1 ⟨rfl, m2⟩; exact ⟨rfl, m2⟩
          rintro _ rfl
          refine DR.call (i := 10) (fun uA => uA = .agg #[vI ((es.getD q EvR.d).at_), vI (lateS (firstI es ((es.getD q EvR.d).note) n) ((es.getD q EvR.d).at_) ((es.getD q EvR.d).kind)), vI ((es.getD q EvR.d).note), vI (stopK ((es.getD q EvR.d).kind))]) rfl rfl (by kernel_rfl) (.free rfl) rfl (ltb rfl) ⟨_, rfl⟩ (vs := [.func (.func 90) #[] #[], vP b (0 + q * 6), vI (firstI es ((es.getD q EvR.d).note) n)]) rfl (fun wD mD => oc_call (vs := [vP b (0 + q * 6), vI (firstI es ((es.getD q EvR.d).note) n)]) (cap := []) rfl rfl rfl Tryd.call90 (c_l08Key ((es.getD q EvR.d).at_) ((es.getD q EvR.d).kind) ((es.getD q EvR.d).note) ((es.getD q EvR.d).ins) ((es.getD q EvR.d).key) ((es.getD q EvR.d).force) b (0 + q * 6) (cat EvR.cells es) (firstI es ((es.getD q EvR.d).note) n) (zf_ (cat_fit (f := EvR.cells) (fun _ => rfl) ln (show q < n by omega))) wD (Rng.congr (((Rng.youngS r ((((((Rng.youngS r ((r.ext m1).ext m2) m3 (allge_cons lR (allge_cons (lT m1.size lR) allge_nil))).ext m7).ext md1).ext m8).ext m9).ext m10) m11 (allge_cons (lT (lT (lT (lT (lT (lT m1.size m2.size) m3.size) m7.size) md1.size) m8.size) lR) allge_nil)).ext md2).ext mD) (zp_ (cat_part (f := EvR.cells) (d := EvR.d) (fun _ => rfl) ln (show q < n by omega)))))) ?_ ?_
          · rintro w1 _ w2 m1 ⟨rfl, m2⟩; exact ⟨rfl, m2⟩
          rintro _ rfl
          refine DR.one1 (i := 11) rfl rfl (by kernel_rfl) (.free rfl) rfl (ltb rfl) ?_
          intro w14 m12
          refine Op1.mono (op_alloc (cs := [vI 0, vI 0, vI 0, vI 0]) Tryd.zeroValue101 rfl) ?_
          rintro _ w15 ⟨rfl, r12, m13, z7⟩
          refine ⟨(((Mod.refl [] w13).nt m12).nt m13), ?_⟩
          refine DR.done rfl ?_
          intro w16 m14
          refine WO.op0 rfl (.free rfl) rfl (op_store (i := 0) (cs := [vI ((es.getD q EvR.d).at_), vI (lateS (firstI es ((es.getD q EvR.d).note) n) ((es.getD q EvR.d).at_) ((es.getD q EvR.d).kind)), vI ((es.getD q EvR.d).note), vI (stopK ((es.getD q EvR.d).kind))]) rfl rfl rfl Tryd.sizeOf101 rfl (r12.ext m14) rfl (lB rfl) rfl) ?_
          rintro _ w17 ⟨r13, m15, z8⟩
          have r14 : Row w17 w14.heap.size 0 [vI ((es.getD q EvR.d).at_), vI (lateS (firstI es ((es.getD q EvR.d).note) n) ((es.getD q EvR.d).at_) ((es.getD q EvR.d).kind)), vI ((es.getD q EvR.d).note), vI (stopK ((es.getD q EvR.d).kind))] := Row.congr r13 rfl
          refine WO.end ?_
          refine NE.code ?_
          refine CE.seq ?_
          refine CE.region ?_
          refine WL.det (op_loadA (i := 0) (cs := [vI ((es.getD (q - 1) EvR.d).at_), vI (lateS (firstI es ((es.getD (q - 1) EvR.d).note) n) ((es.getD (q - 1) EvR.d).at_) ((es.getD (q - 1) EvR.d).kind)), vI ((es.getD (q - 1) EvR.d).note), vI (stopK ((es.getD (q - 1) EvR.d).kind))]) rfl Tryd.isAgg101 Tryd.sizeOf101 (((((r11.ext md2).ext m12).ext m13).ext m14).mod m15 (nC (lE (lL (lL r9.lt (lT (lT (lT m10.size m11.size) md2.size) m12.size)) lR)) nN)).rng rfl rfl rfl) rfl rfl rfl ?_
          refine WL.det (op_loadA (i := 0) (cs := [vI ((es.getD q EvR.d).at_), vI (lateS (firstI es ((es.getD q EvR.d).note) n) ((es.getD q EvR.d).at_) ((es.getD q EvR.d).kind)), vI ((es.getD q EvR.d).note), vI (stopK ((es.getD q EvR.d).kind))]) rfl Tryd.isAgg101 Tryd.sizeOf101 r14.rng rfl rfl rfl) rfl rfl rfl ?_
          refine WL.call (oc_call (vs := [.agg #[vI ((es.getD (q - 1) EvR.d).at_), vI (lateS (firstI es ((es.getD (q - 1) EvR.d).note) n) ((es.getD (q - 1) EvR.d).at_) ((es.getD (q - 1) EvR.d).kind)), vI ((es.getD (q - 1) EvR.d).note), vI (stopK ((es.getD (q - 1) EvR.d).kind))], .agg #[vI ((es.getD q EvR.d).at_), vI (lateS (firstI es ((es.getD q EvR.d).note) n) ((es.getD q EvR.d).at_) ((es.getD q EvR.d).kind)), vI ((es.getD q EvR.d).note), vI (stopK ((es.getD q EvR.d).kind))]]) (cap := []) rfl rfl rfl Tryd.call92 (c_l08Less ((es.getD (q - 1) EvR.d).at_) (lateS (firstI es ((es.getD (q - 1) EvR.d).note) n) ((es.getD (q - 1) EvR.d).at_) ((es.getD (q - 1) EvR.d).kind)) ((es.getD (q - 1) EvR.d).note) (stopK ((es.getD (q - 1) EvR.d).kind)) ((es.getD q EvR.d).at_) (lateS (firstI es ((es.getD q EvR.d).note) n) ((es.getD q EvR.d).at_) ((es.getD q EvR.d).kind)) ((es.getD q EvR.d).note) (stopK ((es.getD q EvR.d).kind)) w17)) rfl rfl (ltb rfl) ?_
          rintro _ w18 ⟨rfl, m16⟩
          refine WL.det (op_not rfl) rfl rfl rfl ?_
          refine WL.end ?_
          refine NE.code ?_
          rcases Bool.eq_false_or_eq_true (less4 ((es.getD (q - 1) EvR.d).at_) (lateS (firstI es ((es.getD (q - 1) EvR.d).note) n) ((es.getD (q - 1) EvR.d).at_) ((es.getD (q - 1) EvR.d).kind)) ((es.getD (q - 1) EvR.d).note) (stopK ((es.getD (q - 1) EvR.d).kind)) ((es.getD q EvR.d).at_) (lateS (firstI es ((es.getD q EvR.d).note) n) ((es.getD q EvR.d).at_) ((es.getD q EvR.d).kind)) ((es.getD q EvR.d).note) (stopK ((es.getD q EvR.d).kind))) with hb21 | hb21
          · refine CE.cond_f rfl (bnot_t hb21) ?_
            refine CE.skip' ?_
            refine NE.blk ?_
            refine NE.code ?_
            refine CE.region ?_
            refine WL.det (op_move rfl) rfl rfl rfl ?_
            refine WL.det (op_add (r := ((q + 1 : Nat) : Int)) rfl rfl (w_i64 (by omega) (by omega))) rfl rfl rfl ?_
            refine WL.det (op_assign rfl) rfl rfl rfl ?_
            refine WL.end ?_
            exact NE.again (q + 1) (⟨rfl, rfl, rfl, trivial⟩) ⟨(by omega), (by omega), (by unfold evS2; rw [hv, Bool.true_and, if_neg (by omega)]; assumption), (((((((((((m7.nt md1).nt m8).nt m9).nt m10).then m11 ((aC (.inr (lT (lT (lT m7.size md1.size) m8.size) lR)) aN))).nt md2).nt m12).nt m13).nt m14).then m15 ((aC (.inr (lT (lT (lT (lT (lT (lT (lT (lT m7.size md1.size) m8.size) m9.size) m10.size) m11.size) md2.size) m12.size) lR)) aN))).nt m16)⟩ (by first | (dsimp only; omega) | omega)
          · refine CE.cond_t rfl (bnot_f hb21) ?_
            refine CE.seq ?_
            refine CE.region ?_
            refine WL.det (op_assign rfl) rfl rfl rfl ?_
            refine WL.end ?_
            refine NE.code ?_
            refine CE.ret' ?_
            refine XE.ret_blk ?_
            refine XE.ret_then ?_
            refine XE.ret_then ?_
            refine XE.ret_blk ?_
            refine XE.ret_then ?_
            refine XE.leave1 Tryd.results65 rfl ?_
            refine ⟨?_, ((((((((((((((((Mod.refl [] w).nt m1).nt m2).then m3 ((aC (.inr lR) (aC (.inr (lT m1.size lR)) aN)))).nt m7).nt md1).nt m8).nt m9).nt m10).then m11 ((aC (.inr (lT (lT (lT (lT (lT (lT m1.size m2.size) m3.size) m7.size) md1.size) m8.size) lR)) aN))).nt md2).nt m12).nt m13).nt m14).then m15 ((aC (.inr (lT (lT (lT (lT (lT (lT (lT (lT (lT (lT (lT m1.size m2.size) m3.size) m7.size) md1.size) m8.size) m9.size) m10.size) m11.size) md2.size) m12.size) lR)) aN))).nt m16)⟩
            all_goals first | exact congrArg Value.bool (evS_fn (by omega)).symm | exact congrArg Value.bool (evS_f1 (evS1_out (i := i) (by omega) (by first | exact stepS_f (by rintro ⟨a1, a2⟩; rw [vIn_t] at a1 a2; omega) | exact stepS_f2 (by assumption) (by rintro ⟨a1, a2, a3, a4, a5⟩; rw [vIn_t] at a2 a3; first | omega | (have h9 : finF (es.getD i EvR.d).force = false := (by assumption); rw [a4] at h9; cases h9)) | exact stepS_f1 (by assumption) (by rintro ⟨a1, a2, a3, a4, a5⟩; first | omega | (have h9 : (cn .f32 (es.getD i EvR.d).force == cn .f32 0) = false := (by assumption); rw [a4] at h9; cases h9)) | exact stepS_f0 (by assumption) (by assumption)))).symm | exact congrArg Value.bool (evS_f2 (evS2_out (i := q) (by omega) (by omega) (by assumption))).symm | (have e8 : i = n := (by omega); rw [e8] at hu; have e9 : q = n ∨ n = 0 := (by omega); rcases e9 with e9 | e9; (rw [e9] at hv; exact congrArg Value.bool (evS_t (by omega) (by omega) hu hv).symm); (exact congrArg Value.bool (evS_t (by omega) (by omega) hu (by rw [e9]; rfl)).symm))
        · have hp20 := of_decide_eq_false hb20
          refine CE.cond_f rfl hb20 ?_
          refine CE.exit' ?_
          refine XE.exit_then ?_
          refine XE.exit_then ?_
          refine XE.exit_here ?_
          refine NE.code ?_
          refine CE.seq ?_
          refine CE.region ?_
          refine WL.det (op_assign rfl) rfl rfl rfl ?_
          refine WL.end ?_
          refine NE.code ?_
          refine CE.ret' ?_
          refine XE.leave1 Tryd.results65 rfl ?_
          refine ⟨?_, (((((Mod.refl [] w).nt m1).nt m2).then m3 ((aC (.inr lR) (aC (.inr (lT m1.size lR)) aN)))).nt m7)⟩
          all_goals first | exact congrArg Value.bool (evS_fn (by omega)).symm | exact congrArg Value.bool (evS_f1 (evS1_out (i := i) (by omega) (by first | exact stepS_f (by rintro ⟨a1, a2⟩; rw [vIn_t] at a1 a2; omega) | exact stepS_f2 (by assumption) (by rintro ⟨a1, a2, a3, a4, a5⟩; rw [vIn_t] at a2 a3; first | omega | (have h9 : finF (es.getD i EvR.d).force = false := (by assumption); rw [a4] at h9; cases h9)) | exact stepS_f1 (by assumption) (by rintro ⟨a1, a2, a3, a4, a5⟩; first | omega | (have h9 : (cn .f32 (es.getD i EvR.d).force == cn .f32 0) = false := (by assumption); rw [a4] at h9; cases h9)) | exact stepS_f0 (by assumption) (by assumption)))).symm | exact congrArg Value.bool (evS_f2 (evS2_out (i := q) (by omega) (by omega) (by assumption))).symm | (have e8 : i = n := (by omega); rw [e8] at hu; have e9 : q = n ∨ n = 0 := (by omega); rcases e9 with e9 | e9; (rw [e9] at hv; exact congrArg Value.bool (evS_t (by omega) (by omega) hu hv).symm); (exact congrArg Value.bool (evS_t (by omega) (by omega) hu (by rw [e9]; rfl)).symm))

end Go.Proofs.YtdopidalhkcefaaDoor
