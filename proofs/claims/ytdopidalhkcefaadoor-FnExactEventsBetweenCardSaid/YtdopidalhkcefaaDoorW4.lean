/- Valid scores. -/
import Derived.Test.YtdopidalhkcefaaDoorW3
set_option linter.unusedVariables false
set_option linter.unusedSimpArgs false
namespace Go.Proofs.YtdopidalhkcefaaDoor

theorem evP_fn {es : List EvR} {N : Nat} {m : Int} (h : ¬ (N % 2 = 0 ∧ N ≤ 128)) : evP es N m = false := by
  unfold evP
  by_cases h1 : N % 2 = 0
  · rw [decide_eq_false (p := N ≤ 128) (fun e => h ⟨h1, e⟩), Bool.and_false]; rfl
  · rw [decide_eq_false h1]; rfl
theorem evP_f1 {es : List EvR} {N : Nat} {m : Int} (h : evI1 es N ((N / 2 : Nat) : Int) m N = false) : evP es N m = false := by unfold evP; rw [h, Bool.and_false]; rfl
theorem evP_t {es : List EvR} {N : Nat} {m : Int} (h1 : N % 2 = 0) (h2 : N ≤ 128) (h3 : evI1 es N ((N / 2 : Nat) : Int) m N = true) : evP es N m = ((startsN es N == N / 2) && (stopsN es N == N / 2)) := by
  unfold evP; rw [decide_eq_true h1, decide_eq_true h2, h3]; rfl
def vScS (ra ba oc : Nat) (ds : List Nat) (nD : Nat) (is_ : List InR) (nI : Nat) (es : List EvR) (nE : Nat) : Bool := vRate ra && tunF ba oc ds nD && insF is_ nI && evS es nE ((nI : Nat) : Int)
def vScP (ra ba oc : Nat) (ds : List Nat) (nD : Nat) (is_ : List InR) (nI : Nat) (es : List EvR) (nE : Nat) : Bool := vRate ra && tunF ba oc ds nD && insF is_ nI && evP es nE ((nI : Nat) : Int)
theorem sc_f {a b c d : Bool} (h : ¬ (a = true ∧ b = true ∧ c = true ∧ d = true)) : (a && b && c && d) = false := by
  cases a <;> cases b <;> cases c <;> cases d <;> simp_all
theorem beq_cast (a b : Nat) : (((a : Nat) : Int) == ((b : Nat) : Int)) = (a == b) := by
  by_cases h : a = b
  · subst h; simp
  · cases hb : (((a : Nat) : Int) == ((b : Nat) : Int))
    · exact (beq_false_of_ne h).symm
    · exact absurd (Int.ofNat.inj (eq_of_beq hb)) h

set_option maxRecDepth 100000 in
set_option maxHeartbeats 2000000 in
theorem c_l08Ok (ra : Nat) (ba : Nat) (oc : Nat) (nD : Nat) (bD : Nat) (esD : List Nat) (nI : Nat) (bI : Nat) (esI : List InR) (nE : Nat) (bE : Nat) (es : List EvR) (p : Nat) (lnD : esD.length = nD) (lnI : esI.length = nI) (lnE : es.length = nE) (hnD : nD ≤ 1048576) (hnI : nI ≤ 1048576) (hnE : nE ≤ 1048576) (hS : ∀ i, (esI.getD i InR.d).name.size ≤ 9223372036854775807) (hW : ∀ i, EvW (es.getD i EvR.d)) (w : World) (q : Rng w p 0 [vF ra, vF ba, vF oc, vS bD 0 nD nD, vS bI 0 nI nI, vS bE 0 nE nE]) (rD : Rng w bD 0 (fl esD)) (rI : Rng w bI 0 (cat InR.cells esI)) (rE : Rng w bE 0 (cat EvR.cells es)) : Cl Tryd.prog 39 #[vP p 0] w fun v w' => v = .bool (vScS ra ba oc esD nD esI nI es nE) ∧ Mod [] w w' := by
  refine Cl.of Tryd.func39 Tryd.ntmps39 rfl rfl (ρ := [(0, vP p 0)]) rfl ?_
  refine CE.seq ?_
  refine CE.region ?_
  refine WL.det (op_assign rfl) rfl rfl rfl ?_
  refine WL.end ?_
  refine NE.code ?_
  refine CE.seq ?_
  refine CE.seq ?_
  refine CE.region ?_
  refine WL.det (op_move rfl) rfl rfl rfl ?_
  refine WL.det (op_nilCheck rfl) rfl rfl rfl ?_
  refine WL.det (op_fieldAddr (off' := 0) rfl Tryd.runUnderlying43 rfl rfl Tryd.sizeOf22 rfl) rfl rfl rfl ?_
  refine WL.det (op_load1 (i := 0) rfl Tryd.isAgg22 q rfl rfl) rfl rfl rfl ?_
  refine WL.det (op_fge (c := fGe .f32 ra 1065353216) rfl rfl rfl rfl rfl) rfl rfl rfl ?_
  refine WL.det (op_move rfl) rfl rfl rfl ?_
  rcases Bool.eq_false_or_eq_true (fGe .f32 ra 1065353216) with hb1 | hb1
  · refine WL.yes rfl rfl rfl (ltb rfl) rfl hb1 ?_
    refine WL.det (op_move rfl) rfl rfl rfl ?_
    refine WL.yes rfl rfl rfl (ltb rfl) rfl hb1 ?_
    refine WL.det (op_nilCheck rfl) rfl rfl rfl ?_
    refine WL.yes rfl rfl rfl (ltb rfl) rfl hb1 ?_
    refine WL.det (op_fieldAddr (off' := 0) rfl Tryd.runUnderlying43 rfl rfl Tryd.sizeOf22 rfl) rfl rfl rfl ?_
    refine WL.yes rfl rfl rfl (ltb rfl) rfl hb1 ?_
    refine WL.det (op_load1 (i := 0) rfl Tryd.isAgg22 q rfl rfl) rfl rfl rfl ?_
    refine WL.yes rfl rfl rfl (ltb rfl) rfl hb1 ?_
    refine WL.det (op_fle (c := fLe .f32 ra 1232348160) rfl rfl rfl rfl rfl) rfl rfl rfl ?_
    refine WL.det (op_pick_t rfl hb1 rfl) rfl rfl rfl ?_
    refine WL.det (op_not rfl) rfl rfl rfl ?_
    refine WL.det (op_move rfl) rfl rfl rfl ?_
    rcases Bool.eq_false_or_eq_true (fLe .f32 ra 1232348160) with hb2 | hb2
    · refine WL.yes rfl rfl rfl (ltb rfl) rfl (bnot_t hb2) ?_
      refine WL.det (op_move rfl) rfl rfl rfl ?_
      refine WL.yes rfl rfl rfl (ltb rfl) rfl (bnot_t hb2) ?_
      refine WL.det (op_nilCheck rfl) rfl rfl rfl ?_
      refine WL.yes rfl rfl rfl (ltb rfl) rfl (bnot_t hb2) ?_
      refine WL.det (op_fieldAddr (off' := 1) rfl Tryd.runUnderlying43 rfl rfl Tryd.sizeOf39 rfl) rfl rfl rfl ?_
      refine WL.yes rfl rfl rfl (ltb rfl) rfl (bnot_t hb2) ?_
      refine WL.det (op_loadA (i := 1) (cs := [vF ba, vF oc, vS bD 0 nD nD]) rfl Tryd.isAgg39 Tryd.sizeOf39 q rfl rfl rfl) rfl rfl rfl ?_
      refine WL.yes rfl rfl rfl (ltb rfl) rfl (bnot_t hb2) ?_
      refine WL.call (oc_call (vs := [.agg #[vF ba, vF oc, vS bD 0 nD nD]]) (cap := []) rfl rfl rfl Tryd.call64 (c_sValidT ba oc nD nD bD esD lnD (by omega) w rD)) rfl rfl (ltb rfl) ?_
      rintro _ w1 ⟨rfl, m1⟩
      refine WL.yes rfl rfl rfl (ltb rfl) rfl (bnot_t hb2) ?_
      refine WL.det (op_not rfl) rfl rfl rfl ?_
      refine WL.det (op_pick_f rfl (bnot_t hb2) rfl) rfl rfl rfl ?_
      refine WL.det (op_move rfl) rfl rfl rfl ?_
      rcases Bool.eq_false_or_eq_true (tunF ba oc esD nD) with hb3 | hb3
      · refine WL.yes rfl rfl rfl (ltb rfl) rfl (bnot_t hb3) ?_
        refine WL.det (op_move rfl) rfl rfl rfl ?_
        refine WL.yes rfl rfl rfl (ltb rfl) rfl (bnot_t hb3) ?_
        refine WL.det (op_nilCheck rfl) rfl rfl rfl ?_
        refine WL.yes rfl rfl rfl (ltb rfl) rfl (bnot_t hb3) ?_
        refine WL.det (op_fieldAddr (off' := 4) rfl Tryd.runUnderlying43 rfl rfl Tryd.sizeOf40 rfl) rfl rfl rfl ?_
        refine WL.yes rfl rfl rfl (ltb rfl) rfl (bnot_t hb3) ?_
        refine WL.det (op_load1 (i := 4) rfl Tryd.isAgg40 (q.ext m1) rfl rfl) rfl rfl rfl ?_
        refine WL.yes rfl rfl rfl (ltb rfl) rfl (bnot_t hb3) ?_
        refine WL.det (op_len rfl Tryd.runUnderlying40) rfl rfl rfl ?_
        refine WL.yes rfl rfl rfl (ltb rfl) rfl (bnot_t hb3) ?_
        refine WL.det (op_gti rfl rfl) rfl rfl rfl ?_
        refine WL.det (op_pick_f rfl (bnot_t hb3) rfl) rfl rfl rfl ?_
        refine WL.end ?_
        refine NE.code ?_
        rcases Bool.eq_false_or_eq_true (decide ((6 : Int) < ((nI : Nat) : Int))) with hb4 | hb4
        · have hp4 := of_decide_eq_true hb4
          refine CE.cond_t rfl hb4 ?_
          refine CE.seq ?_
          refine CE.region ?_
          refine WL.det (op_assign rfl) rfl rfl rfl ?_
          refine WL.end ?_
          refine NE.code ?_
          refine CE.ret' ?_
          refine XE.ret_then ?_
          refine XE.leave1 Tryd.results39 rfl ?_
          refine ⟨?_, ((Mod.refl [] w).nt m1)⟩
          all_goals first | exact congrArg Value.bool (sc_f (by rintro ⟨a1, a2, a3, a4⟩; unfold vRate at a1; rw [Bool.and_eq_true] at a1; first | (have h9 : fGe .f32 ra 1065353216 = false := (by assumption); rw [a1.1] at h9; cases h9) | (have h9 : fLe .f32 ra 1232348160 = false := (by assumption); rw [a1.2] at h9; cases h9) | (have h9 : tunF ba oc esD nD = false := (by assumption); rw [a2] at h9; cases h9) | (rw [insF_f (by omega)] at a3; cases a3) | (rw [insF_f (fun h => by rw [insL_out (i := i) (by omega) (by first | (rw [(by assumption : instF _ _ _ _ _ = false)]; rfl) | (rw [nameN_in (i := k) (by omega) (by assumption)]; exact Bool.and_false _))] at h; cases h.2)] at a3; cases a3))).symm | (have e9 : i = nI := (by omega); rw [e9] at hu; unfold vScS vRate; rw [(by assumption : fGe .f32 ra 1065353216 = true), (by assumption : fLe .f32 ra 1232348160 = true), (by assumption : tunF ba oc esD nD = true), insF_t (by omega) hu]; rfl)
        · have hp4 := of_decide_eq_false hb4
          refine CE.cond_f rfl hb4 ?_
          refine CE.skip' ?_
          refine NE.code ?_
          refine CE.seq ?_
          refine CE.seq ?_
          refine CE.region ?_
          refine WL.det (op_assign rfl) rfl rfl rfl ?_
          refine WL.end ?_
          refine NE.code ?_
          refine CE.block ?_
          refine CE.loop (fun (i : Nat) => [(3, vI ((i : Nat) : Int)), (0, vP p 0), (2, .bool false)]) (fun (i : Nat) => fun W => (i ≤ nI) ∧ (insL esI i = true) ∧ Mod [] w1 W) (fun (i : Nat) => nI - i) 0 (⟨rfl, rfl, rfl, trivial⟩) ⟨(by omega), (by rfl), Mod.refl _ _⟩ ?_
          rintro i w2 ⟨hi, hu, m2⟩
          have hsi := hS i
          show CE _ _ _ _ [(3, vI ((i : Nat) : Int)), (0, vP p 0), (2, .bool false)] _
          refine CE.seq ?_
          refine CE.seq ?_
          refine CE.region ?_
          refine WL.det (op_move rfl) rfl rfl rfl ?_
          refine WL.det (op_move rfl) rfl rfl rfl ?_
          refine WL.det (op_nilCheck rfl) rfl rfl rfl ?_
          refine WL.det (op_fieldAddr (off' := 4) rfl Tryd.runUnderlying43 rfl rfl Tryd.sizeOf40 rfl) rfl rfl rfl ?_
          refine WL.det (op_load1 (i := 4) rfl Tryd.isAgg40 ((q.ext m1).ext m2) rfl rfl) rfl rfl rfl ?_
          refine WL.det (op_len rfl Tryd.runUnderlying40) rfl rfl rfl ?_
          refine WL.det (op_lti rfl rfl) rfl rfl rfl ?_
          refine WL.end ?_
          refine NE.code ?_
          rcases Bool.eq_false_or_eq_true (decide (((i : Nat) : Int) < ((nI : Nat) : Int))) with hb5 | hb5
          · have hp5 := of_decide_eq_true hb5
            refine CE.cond_t rfl hb5 ?_
            refine CE.skip' ?_
            refine NE.code ?_
            refine CE.seq ?_
            refine CE.block ?_
            refine CE.seq ?_
            refine CE.seq ?_
            refine CE.region ?_
            refine WL.det (op_move rfl) rfl rfl rfl ?_
            refine WL.det (op_nilCheck rfl) rfl rfl rfl ?_
            refine WL.det (op_fieldAddr (off' := 4) rfl Tryd.runUnderlying43 rfl rfl Tryd.sizeOf40 rfl) rfl rfl rfl ?_
            refine WL.det (op_load1 (i := 4) rfl Tryd.isAgg40 ((q.ext m1).ext m2) rfl rfl) rfl rfl rfl ?_
            refine WL.det (op_move rfl) rfl rfl rfl ?_
            refine WL.det (op_indexSl (off' := 0 + i * 5) rfl rfl rfl Tryd.runUnderlying40 Tryd.sizeOf27 (by omega) (by omega) (by omega)) rfl rfl rfl ?_
            refine WL.call (oc_call (vs := [vP bI (0 + i * 5)]) (cap := []) rfl rfl rfl Tryd.call30 (c_l08InstrP ((esI.getD i InR.d).name) ((esI.getD i InR.d).kind) ((esI.getD i InR.d).a) ((esI.getD i InR.d).b) ((esI.getD i InR.d).c) bI (0 + i * 5) (cat InR.cells esI) (by first | assumption | exact hS _) (zf_ (cat_fit (f := InR.cells) (fun _ => rfl) lnI (show i < nI by omega))) w2 (Rng.congr ((rI.ext m1).ext m2) (zp_ (cat_part (f := InR.cells) (d := InR.d) (fun _ => rfl) lnI (show i < nI by omega)))))) rfl rfl (ltb rfl) ?_
            rintro _ w3 ⟨rfl, m3⟩
            refine WL.det (op_not rfl) rfl rfl rfl ?_
            refine WL.end ?_
            refine NE.code ?_
            rcases Bool.eq_false_or_eq_true (instF ((esI.getD i InR.d).name) ((esI.getD i InR.d).kind) ((esI.getD i InR.d).a) ((esI.getD i InR.d).b) ((esI.getD i InR.d).c)) with hb6 | hb6
            · refine CE.cond_f rfl (bnot_t hb6) ?_
              refine CE.skip' ?_
              refine NE.code ?_
              refine CE.seq ?_
              refine CE.region ?_
              refine WL.det (op_assign rfl) rfl rfl rfl ?_
              refine WL.end ?_
              refine NE.code ?_
              refine CE.block ?_
              refine CE.loop (fun (k : Nat) => [(4, vI ((k : Nat) : Int)), (3, vI ((i : Nat) : Int)), (0, vP p 0), (2, .bool false)]) (fun (k : Nat) => fun W => (k ≤ i) ∧ (nameN esI (esI.getD i InR.d).name k = false) ∧ Mod [] w3 W) (fun (k : Nat) => i - k) 0 (⟨rfl, rfl, rfl, rfl, trivial⟩) ⟨(by omega), (by rfl), Mod.refl _ _⟩ ?_
              rintro k w4 ⟨hk, hq, m4⟩
              show CE _ _ _ _ [(4, vI ((k : Nat) : Int)), (3, vI ((i : Nat) : Int)), (0, vP p 0), (2, .bool false)] _
              refine CE.seq ?_
              refine CE.seq ?_
              refine CE.region ?_
              refine WL.det (op_move rfl) rfl rfl rfl ?_
              refine WL.det (op_move rfl) rfl rfl rfl ?_
              refine WL.det (op_lti rfl rfl) rfl rfl rfl ?_
              refine WL.end ?_
              refine NE.code ?_
              rcases Bool.eq_false_or_eq_true (decide (((k : Nat) : Int) < ((i : Nat) : Int))) with hb7 | hb7
              · have hp7 := of_decide_eq_true hb7
                refine CE.cond_t rfl hb7 ?_
                refine CE.skip' ?_
                refine NE.code ?_
                refine CE.seq ?_
                refine CE.block ?_
                refine CE.seq ?_
                refine CE.draw (fun _ => none) [0, 1, 2, 3, 4, 5, 6, 7, 8, 9, 10, 11, 12, 13, 14, 15] [16] [] (by kernel_rfl) (by kernel_rfl) ?_
                have md1 : Mod [] w4 w4.drew := (Mod.refl _ _).drew
                generalize w4.drew = w5 at md1 ⊢
                refine DR.det (i := 0) rfl rfl (by kernel_rfl) (.free rfl) rfl rfl (fun wD mD => op_move rfl) ?_
                refine DR.det (i := 1) rfl rfl (by kernel_rfl) (.free rfl) rfl rfl (fun wD mD => op_nilCheck rfl) ?_
                refine DR.det (i := 2) rfl rfl (by kernel_rfl) (.free rfl) rfl rfl (fun wD mD => op_fieldAddr (off' := 4) rfl Tryd.runUnderlying43 rfl rfl Tryd.sizeOf40 rfl) ?_
                refine DR.det (i := 3) rfl rfl (by kernel_rfl) (.free rfl) rfl rfl (fun wD mD => op_load1 (i := 4) rfl Tryd.isAgg40 ((((((q.ext m1).ext m2).ext m3).ext m4).ext md1).ext mD) rfl rfl) ?_
                refine DR.det (i := 4) rfl rfl (by kernel_rfl) (.free rfl) rfl rfl (fun wD mD => op_move rfl) ?_
                refine DR.det (i := 5) rfl rfl (by kernel_rfl) (.free rfl) rfl rfl (fun wD mD => op_indexSl (off' := 0 + k * 5) rfl rfl rfl Tryd.runUnderlying40 Tryd.sizeOf27 (by omega) (by omega) (by omega)) ?_
                refine DR.det (i := 6) rfl rfl (by kernel_rfl) (.free rfl) rfl rfl (fun wD mD => op_fieldAddr (off' := 0 + k * 5) rfl Tryd.runUnderlying27 rfl rfl Tryd.sizeOf9 rfl) ?_
                refine DR.det (i := 7) rfl rfl (by kernel_rfl) (.free rfl) rfl rfl (fun wD mD => op_load1 (i := k * 5) rfl Tryd.isAgg9 ((((((rI.ext m1).ext m2).ext m3).ext m4).ext md1).ext mD) rfl (cat_get0 (f := InR.cells) (m := 5) (i := k) (d := InR.d) (fun _ => rfl) (by have eL : List.length esI = nI := lnI; omega) rfl)) ?_
                refine DR.det (i := 8) rfl rfl (by kernel_rfl) (.free rfl) rfl rfl (fun wD mD => op_move rfl) ?_
                refine DR.det (i := 9) rfl rfl (by kernel_rfl) (.free rfl) rfl rfl (fun wD mD => op_nilCheck rfl) ?_
                refine DR.det (i := 10) rfl rfl (by kernel_rfl) (.free rfl) rfl rfl (fun wD mD => op_fieldAddr (off' := 4) rfl Tryd.runUnderlying43 rfl rfl Tryd.sizeOf40 rfl) ?_
                refine DR.det (i := 11) rfl rfl (by kernel_rfl) (.free rfl) rfl rfl (fun wD mD => op_load1 (i := 4) rfl Tryd.isAgg40 ((((((q.ext m1).ext m2).ext m3).ext m4).ext md1).ext mD) rfl rfl) ?_
                refine DR.det (i := 12) rfl rfl (by kernel_rfl) (.free rfl) rfl rfl (fun wD mD => op_move rfl) ?_
                refine DR.det (i := 13) rfl rfl (by kernel_rfl) (.free rfl) rfl rfl (fun wD mD => op_indexSl (off' := 0 + i * 5) rfl rfl rfl Tryd.runUnderlying40 Tryd.sizeOf27 (by omega) (by omega) (by omega)) ?_
                refine DR.det (i := 14) rfl rfl (by kernel_rfl) (.free rfl) rfl rfl (fun wD mD => op_fieldAddr (off' := 0 + i * 5) rfl Tryd.runUnderlying27 rfl rfl Tryd.sizeOf9 rfl) ?_
                refine DR.det (i := 15) rfl rfl (by kernel_rfl) (.free rfl) rfl rfl (fun wD mD => op_load1 (i := i * 5) rfl Tryd.isAgg9 ((((((rI.ext m1).ext m2).ext m3).ext m4).ext md1).ext mD) rfl (cat_get0 (f := InR.cells) (m := 5) (i := i) (d := InR.d) (fun _ => rfl) (by have eL : List.length esI = nI := lnI; omega) rfl)) ?_
                refine DR.done rfl ?_
                intro w6 m5
                refine WO.det (op_eqs rfl rfl) rfl (.free rfl) rfl rfl ?_
                refine WO.end ?_
                refine NE.code ?_
                rcases Bool.eq_false_or_eq_true (sEq ((esI.getD k InR.d).name) ((esI.getD i InR.d).name)) with hb8 | hb8
                · refine CE.cond_t rfl hb8 ?_
                  refine CE.seq ?_
                  refine CE.region ?_
                  refine WL.det (op_assign rfl) rfl rfl rfl ?_
                  refine WL.end ?_
                  refine NE.code ?_
                  refine CE.ret' ?_
                  refine XE.ret_blk ?_
                  refine XE.ret_then ?_
                  refine XE.ret_then ?_
                  refine XE.ret_blk ?_
                  refine XE.ret_blk ?_
                  refine XE.ret_then ?_
                  refine XE.ret_then ?_
                  refine XE.ret_blk ?_
                  refine XE.ret_then ?_
                  refine XE.leave1 Tryd.results39 rfl ?_
                  refine ⟨?_, (((((((Mod.refl [] w).nt m1).nt m2).nt m3).nt m4).nt md1).nt m5)⟩
                  all_goals first | exact congrArg Value.bool (sc_f (by rintro ⟨a1, a2, a3, a4⟩; unfold vRate at a1; rw [Bool.and_eq_true] at a1; first | (have h9 : fGe .f32 ra 1065353216 = false := (by assumption); rw [a1.1] at h9; cases h9) | (have h9 : fLe .f32 ra 1232348160 = false := (by assumption); rw [a1.2] at h9; cases h9) | (have h9 : tunF ba oc esD nD = false := (by assumption); rw [a2] at h9; cases h9) | (rw [insF_f (by omega)] at a3; cases a3) | (rw [insF_f (fun h => by rw [insL_out (i := i) (by omega) (by first | (rw [(by assumption : instF _ _ _ _ _ = false)]; rfl) | (rw [nameN_in (i := k) (by omega) (by assumption)]; exact Bool.and_false _))] at h; cases h.2)] at a3; cases a3))).symm | (have e9 : i = nI := (by omega); rw [e9] at hu; unfold vScS vRate; rw [(by assumption : fGe .f32 ra 1065353216 = true), (by assumption : fLe .f32 ra 1232348160 = true), (by assumption : tunF ba oc esD nD = true), insF_t (by omega) hu]; rfl)
                · refine CE.cond_f rfl hb8 ?_
                  refine CE.skip' ?_
                  refine NE.blk ?_
                  refine NE.code ?_
                  refine CE.region ?_
                  refine WL.det (op_move rfl) rfl rfl rfl ?_
                  refine WL.det (op_add (r := ((k + 1 : Nat) : Int)) rfl rfl (w_i64 (by omega) (by omega))) rfl rfl rfl ?_
                  refine WL.det (op_assign rfl) rfl rfl rfl ?_
                  refine WL.end ?_
                  exact NE.again (k + 1) (⟨rfl, rfl, rfl, rfl, trivial⟩) ⟨(by omega), (by unfold nameN; rw [hq, Bool.false_or]; assumption), ((m4.nt md1).nt m5)⟩ (by first | (dsimp only; omega) | omega)
              · have hp7 := of_decide_eq_false hb7
                refine CE.cond_f rfl hb7 ?_
                refine CE.exit' ?_
                refine XE.exit_then ?_
                refine XE.exit_then ?_
                refine XE.exit_here ?_
                refine NE.blk ?_
                refine NE.code ?_
                refine CE.region ?_
                refine WL.det (op_move rfl) rfl rfl rfl ?_
                refine WL.det (op_add (r := ((i + 1 : Nat) : Int)) rfl rfl (w_i64 (by omega) (by omega))) rfl rfl rfl ?_
                refine WL.det (op_assign rfl) rfl rfl rfl ?_
                refine WL.end ?_
                exact NE.again (i + 1) (⟨rfl, rfl, rfl, trivial⟩) ⟨(by omega), (by have e8 : k = i := (by omega); rw [e8] at hq; unfold insL; rw [hu, Bool.true_and, (by assumption : instF _ _ _ _ _ = true), hq]; rfl), ((m2.nt m3).nt m4)⟩ (by first | (dsimp only; omega) | omega)
            · refine CE.cond_t rfl (bnot_f hb6) ?_
              refine CE.seq ?_
              refine CE.region ?_
              refine WL.det (op_assign rfl) rfl rfl rfl ?_
              refine WL.end ?_
              refine NE.code ?_
              refine CE.ret' ?_
              refine XE.ret_then ?_
              refine XE.ret_blk ?_
              refine XE.ret_then ?_
              refine XE.ret_then ?_
              refine XE.ret_blk ?_
              refine XE.ret_then ?_
              refine XE.leave1 Tryd.results39 rfl ?_
              refine ⟨?_, ((((Mod.refl [] w).nt m1).nt m2).nt m3)⟩
              all_goals first | exact congrArg Value.bool (sc_f (by rintro ⟨a1, a2, a3, a4⟩; unfold vRate at a1; rw [Bool.and_eq_true] at a1; first | (have h9 : fGe .f32 ra 1065353216 = false := (by assumption); rw [a1.1] at h9; cases h9) | (have h9 : fLe .f32 ra 1232348160 = false := (by assumption); rw [a1.2] at h9; cases h9) | (have h9 : tunF ba oc esD nD = false := (by assumption); rw [a2] at h9; cases h9) | (rw [insF_f (by omega)] at a3; cases a3) | (rw [insF_f (fun h => by rw [insL_out (i := i) (by omega) (by first | (rw [(by assumption : instF _ _ _ _ _ = false)]; rfl) | (rw [nameN_in (i := k) (by omega) (by assumption)]; exact Bool.and_false _))] at h; cases h.2)] at a3; cases a3))).symm | (have e9 : i = nI := (by omega); rw [e9] at hu; unfold vScS vRate; rw [(by assumption : fGe .f32 ra 1065353216 = true), (by assumption : fLe .f32 ra 1232348160 = true), (by assumption : tunF ba oc esD nD = true), insF_t (by omega) hu]; rfl)
          · have hp5 := of_decide_eq_false hb5
            refine CE.cond_f rfl hb5 ?_
            refine CE.exit' ?_
            refine XE.exit_then ?_
            refine XE.exit_then ?_
            refine XE.exit_here ?_
            refine NE.code ?_
            refine CE.seq ?_
            refine CE.draw (fun _ => none) [0, 1, 2, 3, 4, 5, 6, 7, 8] [9, 10] [] (by kernel_rfl) (by kernel_rfl) ?_
            have md2 : Mod [] w2 w2.drew := (Mod.refl _ _).drew
            generalize w2.drew = w7 at md2 ⊢
            refine DR.det (i := 0) rfl rfl (by kernel_rfl) (.free rfl) rfl rfl (fun wD mD => op_move rfl) ?_
            refine DR.det (i := 1) rfl rfl (by kernel_rfl) (.free rfl) rfl rfl (fun wD mD => op_nilCheck rfl) ?_
            refine DR.det (i := 2) rfl rfl (by kernel_rfl) (.free rfl) rfl rfl (fun wD mD => op_fieldAddr (off' := 5) rfl Tryd.runUnderlying43 rfl rfl Tryd.sizeOf41 rfl) ?_
            refine DR.det (i := 3) rfl rfl (by kernel_rfl) (.free rfl) rfl rfl (fun wD mD => op_load1 (i := 5) rfl Tryd.isAgg41 ((((q.ext m1).ext m2).ext md2).ext mD) rfl rfl) ?_
            refine DR.det (i := 4) rfl rfl (by kernel_rfl) (.free rfl) rfl rfl (fun wD mD => op_move rfl) ?_
            refine DR.det (i := 5) rfl rfl (by kernel_rfl) (.free rfl) rfl rfl (fun wD mD => op_nilCheck rfl) ?_
            refine DR.det (i := 6) rfl rfl (by kernel_rfl) (.free rfl) rfl rfl (fun wD mD => op_fieldAddr (off' := 4) rfl Tryd.runUnderlying43 rfl rfl Tryd.sizeOf40 rfl) ?_
            refine DR.det (i := 7) rfl rfl (by kernel_rfl) (.free rfl) rfl rfl (fun wD mD => op_load1 (i := 4) rfl Tryd.isAgg40 ((((q.ext m1).ext m2).ext md2).ext mD) rfl rfl) ?_
            refine DR.det (i := 8) rfl rfl (by kernel_rfl) (.free rfl) rfl rfl (fun wD mD => op_len rfl Tryd.runUnderlying40) ?_
            refine DR.done rfl ?_
            intro w8 m6
            refine WO.call rfl (.free rfl) rfl (ltb rfl) (oc_call (vs := [vS bE 0 nE nE, vI ((nI : Nat) : Int)]) (cap := []) rfl rfl rfl Tryd.call65 (c_l08Events nE nE bE es ((nI : Nat) : Int) lnE (by omega) (by omega) (by omega) w8 ((((rE.ext m1).ext m2).ext md2).ext m6))) ?_
            rintro _ w9 ⟨rfl, m7⟩
            refine WO.det (op_assign rfl) rfl (.free rfl) rfl rfl ?_
            refine WO.end ?_
            refine NE.code ?_
            refine CE.ret' ?_
            refine XE.leave1 Tryd.results39 rfl ?_
            refine ⟨?_, ((((((Mod.refl [] w).nt m1).nt m2).nt md2).nt m6).nt m7)⟩
            all_goals first | exact congrArg Value.bool (sc_f (by rintro ⟨a1, a2, a3, a4⟩; unfold vRate at a1; rw [Bool.and_eq_true] at a1; first | (have h9 : fGe .f32 ra 1065353216 = false := (by assumption); rw [a1.1] at h9; cases h9) | (have h9 : fLe .f32 ra 1232348160 = false := (by assumption); rw [a1.2] at h9; cases h9) | (have h9 : tunF ba oc esD nD = false := (by assumption); rw [a2] at h9; cases h9) | (rw [insF_f (by omega)] at a3; cases a3) | (rw [insF_f (fun h => by rw [insL_out (i := i) (by omega) (by first | (rw [(by assumption : instF _ _ _ _ _ = false)]; rfl) | (rw [nameN_in (i := k) (by omega) (by assumption)]; exact Bool.and_false _))] at h; cases h.2)] at a3; cases a3))).symm | (have e9 : i = nI := (by omega); rw [e9] at hu; unfold vScS vRate; rw [(by assumption : fGe .f32 ra 1065353216 = true), (by assumption : fLe .f32 ra 1232348160 = true), (by assumption : tunF ba oc esD nD = true), insF_t (by omega) hu]; rfl)
      · refine WL.no rfl rfl rfl (ltb rfl) rfl (bnot_f hb3) rfl (ltb rfl) ?_
        refine WL.no rfl rfl rfl (ltb rfl) rfl (bnot_f hb3) rfl (ltb rfl) ?_
        refine WL.no rfl rfl rfl (ltb rfl) rfl (bnot_f hb3) rfl (ltb rfl) ?_
        refine WL.no rfl rfl rfl (ltb rfl) rfl (bnot_f hb3) rfl (ltb rfl) ?_
        refine WL.no rfl rfl rfl (ltb rfl) rfl (bnot_f hb3) rfl (ltb rfl) ?_
        refine WL.no rfl rfl rfl (ltb rfl) rfl (bnot_f hb3) rfl (ltb rfl) ?_
        refine WL.det (op_pick_t rfl (bnot_f hb3) rfl) rfl rfl rfl ?_
        refine WL.end ?_
        refine NE.code ?_
        refine CE.cond_t rfl rfl ?_
        refine CE.seq ?_
        refine CE.region ?_
        refine WL.det (op_assign rfl) rfl rfl rfl ?_
        refine WL.end ?_
        refine NE.code ?_
        refine CE.ret' ?_
        refine XE.ret_then ?_
        refine XE.leave1 Tryd.results39 rfl ?_
        refine ⟨?_, ((Mod.refl [] w).nt m1)⟩
        all_goals first | exact congrArg Value.bool (sc_f (by rintro ⟨a1, a2, a3, a4⟩; unfold vRate at a1; rw [Bool.and_eq_true] at a1; first | (have h9 : fGe .f32 ra 1065353216 = false := (by assumption); rw [a1.1] at h9; cases h9) | (have h9 : fLe .f32 ra 1232348160 = false := (by assumption); rw [a1.2] at h9; cases h9) | (have h9 : tunF ba oc esD nD = false := (by assumption); rw [a2] at h9; cases h9) | (rw [insF_f (by omega)] at a3; cases a3) | (rw [insF_f (fun h => by rw [insL_out (i := i) (by omega) (by first | (rw [(by assumption : instF _ _ _ _ _ = false)]; rfl) | (rw [nameN_in (i := k) (by omega) (by assumption)]; exact Bool.and_false _))] at h; cases h.2)] at a3; cases a3))).symm | (have e9 : i = nI := (by omega); rw [e9] at hu; unfold vScS vRate; rw [(by assumption : fGe .f32 ra 1065353216 = true), (by assumption : fLe .f32 ra 1232348160 = true), (by assumption : tunF ba oc esD nD = true), insF_t (by omega) hu]; rfl)
    · refine WL.no rfl rfl rfl (ltb rfl) rfl (bnot_f hb2) rfl (ltb rfl) ?_
      refine WL.no rfl rfl rfl (ltb rfl) rfl (bnot_f hb2) rfl (ltb rfl) ?_
      refine WL.no rfl rfl rfl (ltb rfl) rfl (bnot_f hb2) rfl (ltb rfl) ?_
      refine WL.no rfl rfl rfl (ltb rfl) rfl (bnot_f hb2) rfl (ltb rfl) ?_
      refine WL.no rfl rfl rfl (ltb rfl) rfl (bnot_f hb2) rfl (ltb rfl) ?_
      refine WL.no rfl rfl rfl (ltb rfl) rfl (bnot_f hb2) rfl (ltb rfl) ?_
      refine WL.det (op_pick_t rfl (bnot_f hb2) rfl) rfl rfl rfl ?_
      refine WL.det (op_move rfl) rfl rfl rfl ?_
      refine WL.no rfl rfl rfl (ltb rfl) rfl rfl rfl (ltb rfl) ?_
      refine WL.no rfl rfl rfl (ltb rfl) rfl rfl rfl (ltb rfl) ?_
      refine WL.no rfl rfl rfl (ltb rfl) rfl rfl rfl (ltb rfl) ?_
      refine WL.no rfl rfl rfl (ltb rfl) rfl rfl rfl (ltb rfl) ?_
      refine WL.no rfl rfl rfl (ltb rfl) rfl rfl rfl (ltb rfl) ?_
      refine WL.no rfl rfl rfl (ltb rfl) rfl rfl rfl (ltb rfl) ?_
      refine WL.det (op_pick_t rfl rfl rfl) rfl rfl rfl ?_
      refine WL.end ?_
      refine NE.code ?_
      refine CE.cond_t rfl rfl ?_
      refine CE.seq ?_
      refine CE.region ?_
      refine WL.det (op_assign rfl) rfl rfl rfl ?_
      refine WL.end ?_
      refine NE.code ?_
      refine CE.ret' ?_
      refine XE.ret_then ?_
      refine XE.leave1 Tryd.results39 rfl ?_
      refine ⟨?_, (Mod.refl [] w)⟩
      all_goals first | exact congrArg Value.bool (sc_f (by rintro ⟨a1, a2, a3, a4⟩; unfold vRate at a1; rw [Bool.and_eq_true] at a1; first | (have h9 : fGe .f32 ra 1065353216 = false := (by assumption); rw [a1.1] at h9; cases h9) | (have h9 : fLe .f32 ra 1232348160 = false := (by assumption); rw [a1.2] at h9; cases h9) | (have h9 : tunF ba oc esD nD = false := (by assumption); rw [a2] at h9; cases h9) | (rw [insF_f (by omega)] at a3; cases a3) | (rw [insF_f (fun h => by rw [insL_out (i := i) (by omega) (by first | (rw [(by assumption : instF _ _ _ _ _ = false)]; rfl) | (rw [nameN_in (i := k) (by omega) (by assumption)]; exact Bool.and_false _))] at h; cases h.2)] at a3; cases a3))).symm | (have e9 : i = nI := (by omega); rw [e9] at hu; unfold vScS vRate; rw [(by assumption : fGe .f32 ra 1065353216 = true), (by assumption : fLe .f32 ra 1232348160 = true), (by assumption : tunF ba oc esD nD = true), insF_t (by omega) hu]; rfl)
  · refine WL.no rfl rfl rfl (ltb rfl) rfl hb1 rfl (ltb rfl) ?_
    refine WL.no rfl rfl rfl (ltb rfl) rfl hb1 rfl (ltb rfl) ?_
    refine WL.no rfl rfl rfl (ltb rfl) rfl hb1 rfl (ltb rfl) ?_
    refine WL.no rfl rfl rfl (ltb rfl) rfl hb1 rfl (ltb rfl) ?_
    refine WL.no rfl rfl rfl (ltb rfl) rfl hb1 rfl (ltb rfl) ?_
    refine WL.det (op_pick_f rfl hb1 rfl) rfl rfl rfl ?_
    refine WL.det (op_not rfl) rfl rfl rfl ?_
    refine WL.det (op_move rfl) rfl rfl rfl ?_
    refine WL.no rfl rfl rfl (ltb rfl) rfl rfl rfl (ltb rfl) ?_
    refine WL.no rfl rfl rfl (ltb rfl) rfl rfl rfl (ltb rfl) ?_
    refine WL.no rfl rfl rfl (ltb rfl) rfl rfl rfl (ltb rfl) ?_
    refine WL.no rfl rfl rfl (ltb rfl) rfl rfl rfl (ltb rfl) ?_
    refine WL.no rfl rfl rfl (ltb rfl) rfl rfl rfl (ltb rfl) ?_
    refine WL.no rfl rfl rfl (ltb rfl) rfl rfl rfl (ltb rfl) ?_
    refine WL.det (op_pick_t rfl rfl rfl) rfl rfl rfl ?_
    refine WL.det (op_move rfl) rfl rfl rfl ?_
    refine WL.no rfl rfl rfl (ltb rfl) rfl rfl rfl (ltb rfl) ?_
    refine WL.no rfl rfl rfl (ltb rfl) rfl rfl rfl (ltb rfl) ?_
    refine WL.no rfl rfl rfl (ltb rfl) rfl rfl rfl (ltb rfl) ?_
    refine WL.no rfl rfl rfl (ltb rfl) rfl rfl rfl (ltb rfl) ?_
    refine WL.no rfl rfl rfl (ltb rfl) rfl rfl rfl (ltb rfl) ?_
    refine WL.no rfl rfl rfl (ltb rfl) rfl rfl rfl (ltb rfl) ?_
    refine WL.det (op_pick_t rfl rfl rfl) rfl rfl rfl ?_
    refine WL.end ?_
    refine NE.code ?_
    refine CE.cond_t rfl rfl ?_
    refine CE.seq ?_
    refine CE.region ?_
    refine WL.det (op_assign rfl) rfl rfl rfl ?_
    refine WL.end ?_
    refine NE.code ?_
    refine CE.ret' ?_
    refine XE.ret_then ?_
    refine XE.leave1 Tryd.results39 rfl ?_
    refine ⟨?_, (Mod.refl [] w)⟩
    all_goals first | exact congrArg Value.bool (sc_f (by rintro ⟨a1, a2, a3, a4⟩; unfold vRate at a1; rw [Bool.and_eq_true] at a1; first | (have h9 : fGe .f32 ra 1065353216 = false := (by assumption); rw [a1.1] at h9; cases h9) | (have h9 : fLe .f32 ra 1232348160 = false := (by assumption); rw [a1.2] at h9; cases h9) | (have h9 : tunF ba oc esD nD = false := (by assumption); rw [a2] at h9; cases h9) | (rw [insF_f (by omega)] at a3; cases a3) | (rw [insF_f (fun h => by rw [insL_out (i := i) (by omega) (by first | (rw [(by assumption : instF _ _ _ _ _ = false)]; rfl) | (rw [nameN_in (i := k) (by omega) (by assumption)]; exact Bool.and_false _))] at h; cases h.2)] at a3; cases a3))).symm | (have e9 : i = nI := (by omega); rw [e9] at hu; unfold vScS vRate; rw [(by assumption : fGe .f32 ra 1065353216 = true), (by assumption : fLe .f32 ra 1232348160 = true), (by assumption : tunF ba oc esD nD = true), insF_t (by omega) hu]; rfl)

set_option maxRecDepth 100000 in
set_option maxHeartbeats 2000000 in
theorem c_sValidS (ra : Nat) (ba : Nat) (oc : Nat) (nD : Nat) (bD : Nat) (esD : List Nat) (nI : Nat) (bI : Nat) (esI : List InR) (nE : Nat) (bE : Nat) (es : List EvR) (lnD : esD.length = nD) (lnI : esI.length = nI) (lnE : es.length = nE) (hnD : nD ≤ 1048576) (hnI : nI ≤ 1048576) (hnE : nE ≤ 1048576) (hS : ∀ i, (esI.getD i InR.d).name.size ≤ 9223372036854775807) (hW : ∀ i, EvW (es.getD i EvR.d)) (w : World) (rD : Rng w bD 0 (fl esD)) (rI : Rng w bI 0 (cat InR.cells esI)) (rE : Rng w bE 0 (cat EvR.cells es)) : Cl Tryd.prog 14 #[.agg #[vF ra, vF ba, vF oc, vS bD 0 nD nD, vS bI 0 nI nI, vS bE 0 nE nE]] w fun v w' => v = .bool (vScS ra ba oc esD nD esI nI es nE) ∧ Mod [] w w' := by
  refine Cl.of Tryd.func14 Tryd.ntmps14 rfl rfl (ρ := [(0, .agg #[vF ra, vF ba, vF oc, vS bD 0 nD nD, vS bI 0 nI nI, vS bE 0 nE nE])]) rfl ?_
  refine CE.seq ?_
  refine CE.region ?_
  refine WL.op (op_box (cs := [vF ra, vF ba, vF oc, vS bD 0 nD nD, vS bI 0 nI nI, vS bE 0 nE nE]) rfl rfl) rfl rfl (ltb rfl) ?_
  rintro _ w1 ⟨rfl, r1, m1, z1⟩
  refine WL.det (op_assign rfl) rfl rfl rfl ?_
  refine WL.end ?_
  refine NE.code ?_
  refine CE.seq ?_
  refine CE.region ?_
  refine WL.call (oc_call (vs := [vP w.heap.size 0]) (cap := []) rfl rfl rfl Tryd.call39 (c_l08Ok ra ba oc nD bD esD nI bI esI nE bE es w.heap.size lnD lnI lnE (by omega) (by omega) (by omega) (by assumption) (by assumption) w1 r1.rng (rD.ext m1) (rI.ext m1) (rE.ext m1))) rfl rfl (ltb rfl) ?_
  rintro _ w2 ⟨rfl, m2⟩
  refine WL.det (op_assign rfl) rfl rfl rfl ?_
  refine WL.end ?_
  refine NE.code ?_
  refine CE.ret' ?_
  refine XE.leave1 Tryd.results14 rfl ?_
  refine ⟨rfl, (((Mod.refl [] w).nt m1).nt m2)⟩

set_option maxRecDepth 100000 in
set_option maxHeartbeats 2000000 in
theorem c_lengthE (n : Nat) (c : Nat) (A : Option Addr) (w : World) : Cl Tryd.prog 46 #[.slice A n c] w fun v w' => v = vI ((n : Nat) : Int) ∧ w = w' := by
  refine Cl.of Tryd.func46 Tryd.ntmps46 rfl rfl (ρ := [(0, .slice A n c)]) rfl ?_
  refine CE.seq ?_
  refine CE.region ?_
  refine WL.det (op_assign rfl) rfl rfl rfl ?_
  refine WL.end ?_
  refine NE.code ?_
  refine CE.seq ?_
  refine CE.region ?_
  refine WL.det (op_move rfl) rfl rfl rfl ?_
  refine WL.det (op_len rfl Tryd.runUnderlying41) rfl rfl rfl ?_
  refine WL.det (op_assign rfl) rfl rfl rfl ?_
  refine WL.end ?_
  refine NE.code ?_
  refine CE.ret' ?_
  refine XE.leave1 Tryd.results46 rfl ?_
  refine ⟨rfl, rfl⟩

set_option maxRecDepth 100000 in
set_option maxHeartbeats 2000000 in
theorem c_lengthI (n : Nat) (c : Nat) (A : Option Addr) (w : World) : Cl Tryd.prog 50 #[.slice A n c] w fun v w' => v = vI ((n : Nat) : Int) ∧ w = w' := by
  refine Cl.of Tryd.func50 Tryd.ntmps50 rfl rfl (ρ := [(0, .slice A n c)]) rfl ?_
  refine CE.seq ?_
  refine CE.region ?_
  refine WL.det (op_assign rfl) rfl rfl rfl ?_
  refine WL.end ?_
  refine NE.code ?_
  refine CE.seq ?_
  refine CE.region ?_
  refine WL.det (op_move rfl) rfl rfl rfl ?_
  refine WL.det (op_len rfl Tryd.runUnderlying40) rfl rfl rfl ?_
  refine WL.det (op_assign rfl) rfl rfl rfl ?_
  refine WL.end ?_
  refine NE.code ?_
  refine CE.ret' ?_
  refine XE.leave1 Tryd.results50 rfl ?_
  refine ⟨rfl, rfl⟩

set_option maxRecDepth 100000 in
set_option maxHeartbeats 2000000 in
theorem c_iValidS0 (ra : Nat) (ba : Nat) (oc : Nat) (nD : Nat) (bD : Nat) (esD : List Nat) (nI : Nat) (bI : Nat) (esI : List InR) (nE : Nat) (bE : Nat) (es : List EvR) (lnD : esD.length = nD) (lnI : esI.length = nI) (lnE : es.length = nE) (hnD : nD ≤ 1048576) (hnI : nI ≤ 1048576) (hnE : nE ≤ 1048576) (hS : ∀ i, (esI.getD i InR.d).name.size ≤ 9223372036854775807) (hW : ∀ i, EvW (es.getD i EvR.d)) (w : World) (rD : Rng w bD 0 (fl esD)) (rI : Rng w bI 0 (cat InR.cells esI)) (rE : Rng w bE 0 (cat EvR.cells es)) : Cl Tryd.prog 16 #[.agg #[vF ra, vF ba, vF oc, vS bD 0 nD nD, vS bI 0 nI nI, vS bE 0 nE nE]] w fun v w' => v = .bool (vScP ra ba oc esD nD esI nI es nE) ∧ Mod [] w w' := by
  refine Cl.of Tryd.func16 Tryd.ntmps16 rfl rfl (ρ := [(0, .agg #[vF ra, vF ba, vF oc, vS bD 0 nD nD, vS bI 0 nI nI, vS bE 0 nE nE])]) rfl ?_
  refine CE.seq ?_
  refine CE.region ?_
  refine WL.op (op_box (cs := [vF ra, vF ba, vF oc, vS bD 0 nD nD, vS bI 0 nI nI, vS bE 0 nE nE]) rfl rfl) rfl rfl (ltb rfl) ?_
  rintro _ w1 ⟨rfl, r1, m1, z1⟩
  refine WL.det (op_assign rfl) rfl rfl rfl ?_
  refine WL.end ?_
  refine NE.code ?_
  refine CE.seq ?_
  refine CE.seq ?_
  refine CE.region ?_
  refine WL.det (op_fieldAddr (off' := 0) rfl Tryd.runUnderlying43 rfl rfl Tryd.sizeOf22 rfl) rfl rfl rfl ?_
  refine WL.det (op_load1 (i := 0) rfl Tryd.isAgg22 r1.rng rfl rfl) rfl rfl rfl ?_
  refine WL.call (oc_call (vs := [vF ra]) (cap := []) rfl rfl rfl Tryd.call43 (c_isRate ra w1)) rfl rfl (ltb rfl) ?_
  rintro _ w2 ⟨rfl, m2⟩
  refine WL.det (op_not rfl) rfl rfl rfl ?_
  refine WL.det (op_move rfl) rfl rfl rfl ?_
  rcases Bool.eq_false_or_eq_true (vRate ra) with hb1 | hb1
  · refine WL.yes rfl rfl rfl (ltb rfl) rfl (bnot_t hb1) ?_
    refine WL.det (op_fieldAddr (off' := 1) rfl Tryd.runUnderlying43 rfl rfl Tryd.sizeOf39 rfl) rfl rfl rfl ?_
    refine WL.yes rfl rfl rfl (ltb rfl) rfl (bnot_t hb1) ?_
    refine WL.det (op_loadA (i := 1) (cs := [vF ba, vF oc, vS bD 0 nD nD]) rfl Tryd.isAgg39 Tryd.sizeOf39 (r1.ext m2).rng rfl rfl rfl) rfl rfl rfl ?_
    refine WL.yes rfl rfl rfl (ltb rfl) rfl (bnot_t hb1) ?_
    refine WL.call (oc_call (vs := [.agg #[vF ba, vF oc, vS bD 0 nD nD]]) (cap := []) rfl rfl rfl Tryd.call44 (c_iValidT ba oc nD nD bD esD lnD (by omega) w2 ((rD.ext m1).ext m2))) rfl rfl (ltb rfl) ?_
    rintro _ w3 ⟨rfl, m3⟩
    refine WL.yes rfl rfl rfl (ltb rfl) rfl (bnot_t hb1) ?_
    refine WL.det (op_not rfl) rfl rfl rfl ?_
    refine WL.det (op_pick_f rfl (bnot_t hb1) rfl) rfl rfl rfl ?_
    refine WL.det (op_move rfl) rfl rfl rfl ?_
    rcases Bool.eq_false_or_eq_true (tunF ba oc esD nD) with hb2 | hb2
    · refine WL.yes rfl rfl rfl (ltb rfl) rfl (bnot_t hb2) ?_
      refine WL.det (op_fieldAddr (off' := 4) rfl Tryd.runUnderlying43 rfl rfl Tryd.sizeOf40 rfl) rfl rfl rfl ?_
      refine WL.yes rfl rfl rfl (ltb rfl) rfl (bnot_t hb2) ?_
      refine WL.det (op_load1 (i := 4) rfl Tryd.isAgg40 ((r1.ext m2).ext m3).rng rfl rfl) rfl rfl rfl ?_
      refine WL.yes rfl rfl rfl (ltb rfl) rfl (bnot_t hb2) ?_
      refine WL.call (oc_call (vs := [vS bI 0 nI nI]) (cap := []) rfl rfl rfl Tryd.call45 (c_areInstr nI nI bI esI lnI (by omega) (by assumption) (by omega) w3 (((rI.ext m1).ext m2).ext m3))) rfl rfl (ltb rfl) ?_
      rintro _ w4 ⟨rfl, m4⟩
      refine WL.yes rfl rfl rfl (ltb rfl) rfl (bnot_t hb2) ?_
      refine WL.det (op_not rfl) rfl rfl rfl ?_
      refine WL.det (op_pick_f rfl (bnot_t hb2) rfl) rfl rfl rfl ?_
      refine WL.det (op_move rfl) rfl rfl rfl ?_
      rcases Bool.eq_false_or_eq_true (insF esI nI) with hb3 | hb3
      · refine WL.yes rfl rfl rfl (ltb rfl) rfl (bnot_t hb3) ?_
        refine WL.det (op_fieldAddr (off' := 5) rfl Tryd.runUnderlying43 rfl rfl Tryd.sizeOf41 rfl) rfl rfl rfl ?_
        refine WL.yes rfl rfl rfl (ltb rfl) rfl (bnot_t hb3) ?_
        refine WL.det (op_load1 (i := 5) rfl Tryd.isAgg41 (((r1.ext m2).ext m3).ext m4).rng rfl rfl) rfl rfl rfl ?_
        refine WL.yes rfl rfl rfl (ltb rfl) rfl (bnot_t hb3) ?_
        refine WL.det (op_len rfl Tryd.runUnderlying41) rfl rfl rfl ?_
        refine WL.yes rfl rfl rfl (ltb rfl) rfl (bnot_t hb3) ?_
        refine WL.det (op_rem (r := ((nE % 2 : Nat) : Int)) rfl rfl (by omega) rfl) rfl rfl rfl ?_
        refine WL.yes rfl rfl rfl (ltb rfl) rfl (bnot_t hb3) ?_
        refine WL.det (op_nei rfl rfl) rfl rfl rfl ?_
        refine WL.det (op_pick_f rfl (bnot_t hb3) rfl) rfl rfl rfl ?_
        refine WL.det (op_move rfl) rfl rfl rfl ?_
        rcases Bool.eq_false_or_eq_true ((((nE % 2 : Nat) : Int) != (0 : Int))) with hb4 | hb4
        · have hp4 := bne_iff_ne.1 hb4
          refine WL.no rfl rfl rfl (ltb rfl) rfl hb4 rfl (ltb rfl) ?_
          refine WL.no rfl rfl rfl (ltb rfl) rfl hb4 rfl (ltb rfl) ?_
          refine WL.no rfl rfl rfl (ltb rfl) rfl hb4 rfl (ltb rfl) ?_
          refine WL.no rfl rfl rfl (ltb rfl) rfl hb4 rfl (ltb rfl) ?_
          refine WL.det (op_pick_t rfl hb4 rfl) rfl rfl rfl ?_
          refine WL.end ?_
          refine NE.code ?_
          refine CE.cond_t rfl rfl ?_
          refine CE.seq ?_
          refine CE.region ?_
          refine WL.det (op_assign rfl) rfl rfl rfl ?_
          refine WL.end ?_
          refine NE.code ?_
          refine CE.ret' ?_
          refine XE.ret_then ?_
          refine XE.leave1 Tryd.results16 rfl ?_
          refine ⟨?_, (((((Mod.refl [] w).nt m1).nt m2).nt m3).nt m4)⟩
          all_goals first | exact congrArg Value.bool (sc_f (by rintro ⟨a1, a2, a3, a4⟩; first | (have h9 : vRate ra = false := (by assumption); rw [a1] at h9; cases h9) | (have h9 : tunF ba oc esD nD = false := (by assumption); rw [a2] at h9; cases h9) | (have h9 : insF esI nI = false := (by assumption); rw [a3] at h9; cases h9) | (rw [evP_fn (by omega)] at a4; cases a4) | (rw [evP_f1 (evI1_out (i := i) (by omega) (by exact stepI_f (by rintro ⟨a1, a2, a3, a4⟩; rw [vIn_t] at a2; first | omega | (have h9 : evI _ _ _ _ _ _ = false := (by assumption); rw [a1] at h9; cases h9) | (have h9 := a3 (by omega); unfold ordI at h9; omega) | (have h9 := a4 (by assumption); first | omega | (have h8 : (startsF es nE (es.getD i EvR.d).note).isSome = false := (by assumption); rw [h9.1] at h8; cases h8) | (have h8 : lkB (stopsF es i (es.getD i EvR.d).note) = true := (by assumption); rw [h9.2.2] at h8; cases h8)))))] at a4; cases a4))).symm | (have e9 : i = nE := (by omega); rw [e9] at hu; (try rw [e9]); unfold vScP; rw [(by assumption : vRate ra = true), (by assumption : tunF ba oc esD nD = true), (by assumption : insF esI nI = true), evP_t (by omega) (by omega) hu]; have q9 := beq_cast (startsN es nE) (nE / 2); first | (have h9 : (((startsN es nE : Nat) : Int) == ((nE / 2 : Nat) : Int)) = true := (by assumption); rw [q9] at h9; rw [h9, beq_cast]; rfl) | (have h9 : (((startsN es nE : Nat) : Int) == ((nE / 2 : Nat) : Int)) = false := (by assumption); rw [q9] at h9; rw [h9]; rfl))
        · have hp4 := bne_eq_false_iff_eq.1 hb4
          refine WL.yes rfl rfl rfl (ltb rfl) rfl hb4 ?_
          refine WL.det (op_fieldAddr (off' := 5) rfl Tryd.runUnderlying43 rfl rfl Tryd.sizeOf41 rfl) rfl rfl rfl ?_
          refine WL.yes rfl rfl rfl (ltb rfl) rfl hb4 ?_
          refine WL.det (op_load1 (i := 5) rfl Tryd.isAgg41 (((r1.ext m2).ext m3).ext m4).rng rfl rfl) rfl rfl rfl ?_
          refine WL.yes rfl rfl rfl (ltb rfl) rfl hb4 ?_
          refine WL.det (op_len rfl Tryd.runUnderlying41) rfl rfl rfl ?_
          refine WL.yes rfl rfl rfl (ltb rfl) rfl hb4 ?_
          refine WL.det (op_gti rfl rfl) rfl rfl rfl ?_
          refine WL.det (op_pick_f rfl hb4 rfl) rfl rfl rfl ?_
          refine WL.end ?_
          refine NE.code ?_
          rcases Bool.eq_false_or_eq_true (decide ((128 : Int) < ((nE : Nat) : Int))) with hb5 | hb5
          · have hp5 := of_decide_eq_true hb5
            refine CE.cond_t rfl hb5 ?_
            refine CE.seq ?_
            refine CE.region ?_
            refine WL.det (op_assign rfl) rfl rfl rfl ?_
            refine WL.end ?_
            refine NE.code ?_
            refine CE.ret' ?_
            refine XE.ret_then ?_
            refine XE.leave1 Tryd.results16 rfl ?_
            refine ⟨?_, (((((Mod.refl [] w).nt m1).nt m2).nt m3).nt m4)⟩
            all_goals first | exact congrArg Value.bool (sc_f (by rintro ⟨a1, a2, a3, a4⟩; first | (have h9 : vRate ra = false := (by assumption); rw [a1] at h9; cases h9) | (have h9 : tunF ba oc esD nD = false := (by assumption); rw [a2] at h9; cases h9) | (have h9 : insF esI nI = false := (by assumption); rw [a3] at h9; cases h9) | (rw [evP_fn (by omega)] at a4; cases a4) | (rw [evP_f1 (evI1_out (i := i) (by omega) (by exact stepI_f (by rintro ⟨a1, a2, a3, a4⟩; rw [vIn_t] at a2; first | omega | (have h9 : evI _ _ _ _ _ _ = false := (by assumption); rw [a1] at h9; cases h9) | (have h9 := a3 (by omega); unfold ordI at h9; omega) | (have h9 := a4 (by assumption); first | omega | (have h8 : (startsF es nE (es.getD i EvR.d).note).isSome = false := (by assumption); rw [h9.1] at h8; cases h8) | (have h8 : lkB (stopsF es i (es.getD i EvR.d).note) = true := (by assumption); rw [h9.2.2] at h8; cases h8)))))] at a4; cases a4))).symm | (have e9 : i = nE := (by omega); rw [e9] at hu; (try rw [e9]); unfold vScP; rw [(by assumption : vRate ra = true), (by assumption : tunF ba oc esD nD = true), (by assumption : insF esI nI = true), evP_t (by omega) (by omega) hu]; have q9 := beq_cast (startsN es nE) (nE / 2); first | (have h9 : (((startsN es nE : Nat) : Int) == ((nE / 2 : Nat) : Int)) = true := (by assumption); rw [q9] at h9; rw [h9, beq_cast]; rfl) | (have h9 : (((startsN es nE : Nat) : Int) == ((nE / 2 : Nat) : Int)) = false := (by assumption); rw [q9] at h9; rw [h9]; rfl))
          · have hp5 := of_decide_eq_false hb5
            refine CE.cond_f rfl hb5 ?_
            refine CE.skip' ?_
            refine NE.code ?_
            refine CE.seq ?_
            refine CE.region ?_
            refine WL.det (op_fieldAddr (off' := 5) rfl Tryd.runUnderlying43 rfl rfl Tryd.sizeOf41 rfl) rfl rfl rfl ?_
            refine WL.det (op_load1 (i := 5) rfl Tryd.isAgg41 (((r1.ext m2).ext m3).ext m4).rng rfl rfl) rfl rfl rfl ?_
            refine WL.call (oc_call (vs := [vS bE 0 nE nE]) (cap := []) rfl rfl rfl Tryd.call46 (c_lengthE nE nE (some ⟨bE, 0, none⟩) w4)) rfl rfl (ltb rfl) ?_
            rintro _ _ ⟨rfl, rfl⟩
            refine WL.det (op_quo (r := ((nE / 2 : Nat) : Int)) rfl rfl (by omega) (quo_nat (by omega))) rfl rfl rfl ?_
            refine WL.det (op_assign rfl) rfl rfl rfl ?_
            refine WL.end ?_
            refine NE.code ?_
            refine CE.seq ?_
            refine CE.region ?_
            refine WL.det (op_fieldAddr (off' := 5) rfl Tryd.runUnderlying43 rfl rfl Tryd.sizeOf41 rfl) rfl rfl rfl ?_
            refine WL.det (op_load1 (i := 5) rfl Tryd.isAgg41 (((r1.ext m2).ext m3).ext m4).rng rfl rfl) rfl rfl rfl ?_
            refine WL.call (oc_call (vs := [vS bE 0 nE nE]) (cap := []) rfl rfl rfl Tryd.call47 (c_starts nE nE bE es lnE (by omega) (by assumption) (by omega) w4 ((((rE.ext m1).ext m2).ext m3).ext m4))) rfl rfl (ltb rfl) ?_
            rintro _ w5 ⟨b'1, rfl, r2, ge1, m5⟩
            refine WL.op (op_makeMap (k := 2) (e := 4)) rfl rfl (ltb rfl) ?_
            rintro _ w6 ⟨rfl, r3, m6, z2⟩
            refine WL.det (op_assign rfl) rfl rfl rfl ?_
            refine WL.det (op_assign rfl) rfl rfl rfl ?_
            refine WL.end ?_
            refine NE.code ?_
            refine CE.seq ?_
            refine CE.region ?_
            refine WL.det (op_move rfl) rfl rfl rfl ?_
            refine WL.call (oc_call (vs := [.map (some b'1)]) (cap := []) rfl rfl rfl Tryd.call48 (c_compareEvents b'1 w6)) rfl rfl (ltb rfl) ?_
            rintro _ w7 ⟨p'1, rfl, r4, ge2, m7⟩
            refine WL.det (op_assign rfl) rfl rfl rfl ?_
            refine WL.end ?_
            refine NE.code ?_
            refine CE.seq ?_
            refine CE.seq ?_
            refine CE.region ?_
            refine WL.det (op_fieldAddr (off' := 5) rfl Tryd.runUnderlying43 rfl rfl Tryd.sizeOf41 rfl) rfl rfl rfl ?_
            refine WL.det (op_load1 (i := 5) rfl Tryd.isAgg41 ((((((r1.ext m2).ext m3).ext m4).ext m5).ext m6).ext m7).rng rfl rfl) rfl rfl rfl ?_
            refine WL.det (op_len rfl Tryd.runUnderlying41) rfl rfl rfl ?_
            refine WL.det (op_move rfl) rfl rfl rfl ?_
            refine WL.end ?_
            refine NE.code ?_
            refine CE.block ?_
            refine CE.loop (fun (i : Nat) => [(53, vI ((i : Nat) : Int)), (1, vP w.heap.size 0), (2, .bool false), (3, vI ((nE / 2 : Nat) : Int)), (4, .map (some b'1)), (5, .map (some w5.heap.size)), (6, .func (.func 72) #[] #[vP p'1 0]), (51, vS bE 0 nE nE), (52, vI ((nE : Nat) : Int))]) (fun (i : Nat) => fun W => (i ≤ nE) ∧ (stopsN es i ≤ i) ∧ (evI1 es nE ((nE / 2 : Nat) : Int) ((nI : Nat) : Int) i = true) ∧ MapR W w5.heap.size 0 (⟨Tryd.prog, 2, 4, (stopsF es i), (stopsN es i)⟩) ∧ Mod [w5.heap.size] w7 W) (fun (i : Nat) => nE - i) 0 (⟨rfl, rfl, rfl, rfl, rfl, rfl, rfl, rfl, rfl, trivial⟩) ⟨(by omega), (by exact Nat.le_refl _), (by rfl), (MapR.congr (r3.ext m7) rfl), Mod.refl _ _⟩ ?_
            rintro i w8 ⟨hi, hs, hu, r5, m8⟩
            have hwi := hW i
            have hw1 := hwi.n1
            have hw2 := hwi.n2
            have hw3 := hwi.a1
            have hw4 := hwi.a2
            have hwj := hW (i - 1)
            have hv1 := hwj.n1
            have hv2 := hwj.n2
            show CE _ _ _ _ [(53, vI ((i : Nat) : Int)), (1, vP w.heap.size 0), (2, .bool false), (3, vI ((nE / 2 : Nat) : Int)), (4, .map (some b'1)), (5, .map (some w5.heap.size)), (6, .func (.func 72) #[] #[vP p'1 0]), (51, vS bE 0 nE nE), (52, vI ((nE : Nat) : Int))] _
            refine CE.seq ?_
            refine CE.region ?_
            refine WL.det (op_lti rfl rfl) rfl rfl rfl ?_
            refine WL.end ?_
            refine NE.code ?_
            refine CE.seq ?_
            rcases Bool.eq_false_or_eq_true (decide (((i : Nat) : Int) < ((nE : Nat) : Int))) with hb6 | hb6
            · have hp6 := of_decide_eq_true hb6
              refine CE.cond_t rfl hb6 ?_
              refine CE.skip' ?_
              refine NE.code ?_
              refine CE.seq ?_
              refine CE.block ?_
              refine CE.seq ?_
              refine CE.region ?_
              refine WL.det (op_move rfl) rfl rfl rfl ?_
              refine WL.det (op_indexSl (off' := 0 + i * 6) rfl rfl rfl Tryd.runUnderlying41 Tryd.sizeOf72 (by omega) (by omega) (by omega)) rfl rfl rfl ?_
              refine WL.det (op_loadA (i := i * 6) (cs := [vI ((es.getD i EvR.d).at_), vI ((es.getD i EvR.d).kind), vI ((es.getD i EvR.d).note), vI ((es.getD i EvR.d).ins), vI ((es.getD i EvR.d).key), vF ((es.getD i EvR.d).force)]) rfl Tryd.isAgg72 Tryd.sizeOf72 (Rng.youngS rE (((((((rE.ext m1).ext m2).ext m3).ext m4).ext m5).ext m6).ext m7) m8 (allge_cons (lT (lT (lT (lT (lT m1.size m2.size) m3.size) m4.size) m5.size) lR) allge_nil)) rfl (cat_at (f := EvR.cells) (m := 6) (i := i) (d := EvR.d) (fun _ => rfl) (by have eL : List.length es = nE := lnE; omega)) rfl) rfl rfl rfl ?_
              refine WL.op (op_alloc (cs := [vI 0, vI 0, vI 0, vI 0, vI 0, vF 0]) Tryd.zeroValue72 rfl) rfl rfl (ltb rfl) ?_
              rintro _ w9 ⟨rfl, r6, m9, z3⟩
              refine WL.det (op_assign rfl) rfl rfl rfl ?_
              refine WL.op0 (op_store (i := 0) (cs := [vI ((es.getD i EvR.d).at_), vI ((es.getD i EvR.d).kind), vI ((es.getD i EvR.d).note), vI ((es.getD i EvR.d).ins), vI ((es.getD i EvR.d).key), vF ((es.getD i EvR.d).force)]) rfl rfl rfl Tryd.sizeOf72 rfl r6 rfl (lB rfl) rfl) rfl rfl ?_
              rintro _ w10 ⟨r7, m10, z4⟩
              have r8 : Row w10 w8.heap.size 0 [vI ((es.getD i EvR.d).at_), vI ((es.getD i EvR.d).kind), vI ((es.getD i EvR.d).note), vI ((es.getD i EvR.d).ins), vI ((es.getD i EvR.d).key), vF ((es.getD i EvR.d).force)] := Row.congr r7 rfl
              refine WL.end ?_
              refine NE.code ?_
              refine CE.seq ?_
              refine CE.seq ?_
              rcases Bool.eq_false_or_eq_true (evI ((es.getD i EvR.d).at_) ((es.getD i EvR.d).kind) ((es.getD i EvR.d).ins) ((es.getD i EvR.d).key) ((es.getD i EvR.d).force) ((nI : Nat) : Int)) with hb7 | hb7
              · rcases Bool.eq_false_or_eq_true (vIn ((es.getD i EvR.d).note) (0 : Int) ((nE / 2 - 1 : Nat) : Int)) with hb8 | hb8
                · have hp8 := hb8; try simp only [Bool.and_eq_true, Bool.or_eq_true, Bool.not_eq_true', Bool.not_eq_false', Bool.and_eq_false_iff, Bool.or_eq_false_iff, decide_eq_true_eq, decide_eq_false_iff_not, beq_iff_eq, bne_iff_ne, beq_eq_false_iff_ne, bne_eq_false_iff_eq, ne_eq, Bool.false_eq_true, not_false_eq_true, not_true_eq_false, vIn_t, vIn_f] at hp8
                  rcases Bool.eq_false_or_eq_true (decide ((0 : Int) < ((i : Nat) : Int))) with hb9 | hb9
                  · have hp9 := of_decide_eq_true hb9
                    refine CE.draw (fun | 3 => some (fun _ wA uA wB => uA = vI ((nI : Nat) : Int) ∧ wA = wB) | 4 => some (fun _ wA uA wB => uA = .bool (evI ((es.getD i EvR.d).at_) ((es.getD i EvR.d).kind) ((es.getD i EvR.d).ins) ((es.getD i EvR.d).key) ((es.getD i EvR.d).force) ((nI : Nat) : Int)) ∧ Mod [] wA wB) | 11 => some (fun _ wA uA wB => uA = .bool (vIn ((es.getD i EvR.d).note) (0 : Int) ((nE / 2 - 1 : Nat) : Int)) ∧ wA = wB) | _ => none) [0, 1, 2, 3, 4, 5, 6, 7, 8, 9, 10, 11, 12, 13, 14, 15, 16, 17, 18, 19, 20, 21, 22, 23, 24, 25] [26, 27, 28, 29] [] (by kernel_rfl) (by kernel_rfl) ?_
                    have md1 : Mod [] w10 w10.drew := (Mod.refl _ _).drew
                    generalize w10.drew = w11 at md1 ⊢
                    refine DR.det (i := 0) rfl rfl (by kernel_rfl) (.free rfl) rfl rfl (fun wD mD => op_loadA (i := 0) (cs := [vI ((es.getD i EvR.d).at_), vI ((es.getD i EvR.d).kind), vI ((es.getD i EvR.d).note), vI ((es.getD i EvR.d).ins), vI ((es.getD i EvR.d).key), vF ((es.getD i EvR.d).force)]) rfl Tryd.isAgg72 Tryd.sizeOf72 ((r8.ext md1).ext mD).rng rfl rfl rfl) ?_
                    refine DR.det (i := 1) rfl rfl (by kernel_rfl) (.free rfl) rfl rfl (fun wD mD => op_fieldAddr (off' := 4) rfl Tryd.runUnderlying43 rfl rfl Tryd.sizeOf40 rfl) ?_
                    refine DR.det (i := 2) rfl rfl (by kernel_rfl) (.free rfl) rfl rfl (fun wD mD => op_load1 (i := 4) rfl Tryd.isAgg40 (((((((((((r1.ext m2).ext m3).ext m4).ext m5).ext m6).ext m7).mod m8 (nC (lE (lL (lL r1.lt (lT (lT (lT m2.size m3.size) m4.size) m5.size)) lR)) nN)).ext m9).mod m10 (nC (lE (lL (lL r1.lt (lT (lT (lT (lT (lT (lT m2.size m3.size) m4.size) m5.size) m6.size) m7.size) m8.size)) lR)) nN)).ext md1).ext mD).rng rfl rfl) ?_
                    refine DR.call (i := 3) (fun uA => uA = vI ((nI : Nat) : Int)) rfl rfl (by kernel_rfl) (.free rfl) rfl (ltb rfl) ⟨_, rfl⟩ (vs := [.func (.func 50) #[] #[], vS bI 0 nI nI]) rfl (fun wD mD => oc_call (vs := [vS bI 0 nI nI]) (cap := []) rfl rfl rfl Tryd.call50 (c_lengthI nI nI (some ⟨bI, 0, none⟩) wD)) ?_ ?_
                    · rintro w1 _ _ m1 ⟨rfl, rfl⟩; exact ⟨rfl, Mod.refl _ _⟩
                    rintro _ rfl
                    refine DR.call (i := 4) (fun uA => uA = .bool (evI ((es.getD i EvR.d).at_) ((es.getD i EvR.d).kind) ((es.getD i EvR.d).ins) ((es.getD i EvR.d).key) ((es.getD i EvR.d).force) ((nI : Nat) : Int))) rfl rfl (by kernel_rfl) (.free rfl) rfl (ltb rfl) ⟨_, rfl⟩ (vs := [.func (.func 49) #[] #[], .agg #[vI ((es.getD i EvR.d).at_), vI ((es.getD i EvR.d).kind), vI ((es.getD i EvR.d).note), vI ((es.getD i EvR.d).ins), vI ((es.getD i EvR.d).key), vF ((es.getD i EvR.d).force)], vI ((nI : Nat) : Int)]) rfl (fun wD mD => oc_call (vs := [.agg #[vI ((es.getD i EvR.d).at_), vI ((es.getD i EvR.d).kind), vI ((es.getD i EvR.d).note), vI ((es.getD i EvR.d).ins), vI ((es.getD i EvR.d).key), vF ((es.getD i EvR.d).force)], vI ((nI : Nat) : Int)]) (cap := []) rfl rfl rfl Tryd.call49 (c_isEvent ((es.getD i EvR.d).at_) ((es.getD i EvR.d).kind) ((es.getD i EvR.d).note) ((es.getD i EvR.d).ins) ((es.getD i EvR.d).key) ((es.getD i EvR.d).force) ((nI : Nat) : Int) (by omega) (by omega) wD)) ?_ ?_
                    · rintro w1 _ w2 m1 ⟨rfl, m2⟩; exact ⟨rfl, m2⟩
                    rintro _ rfl
                    refine DR.det (i := 5) rfl rfl (by kernel_rfl) (.free rfl) rfl rfl (fun wD mD => op_not rfl) ?_
                    refine DR.det (i := 6) rfl rfl (by kernel_rfl) (.free rfl) rfl rfl (fun wD mD => op_move rfl) ?_
                    refine DR.det (i := 7) rfl rfl (by kernel_rfl) (.yes rfl rfl rfl (ltb rfl) rfl (bnot_t hb7)) rfl rfl (fun wD mD => op_fieldAddr (off' := 2) rfl Tryd.runUnderlying72 rfl rfl Tryd.sizeOf2 rfl) ?_
                    refine DR.det (i := 8) rfl rfl (by kernel_rfl) (.yes rfl rfl rfl (ltb rfl) rfl (bnot_t hb7)) rfl rfl (fun wD mD => op_load1 (i := 2) rfl Tryd.isAgg2 ((r8.ext md1).ext mD).rng rfl rfl) ?_
                    refine DR.det (i := 9) rfl rfl (by kernel_rfl) (.yes rfl rfl rfl (ltb rfl) rfl (bnot_t hb7)) rfl rfl (fun wD mD => op_move rfl) ?_
                    refine DR.det (i := 10) rfl rfl (by kernel_rfl) (.yes rfl rfl rfl (ltb rfl) rfl (bnot_t hb7)) rfl rfl (fun wD mD => op_sub (r := ((nE / 2 - 1 : Nat) : Int)) rfl rfl (w_nsub (l := nE / 2) (n := 1) (by omega) (by omega))) ?_
                    refine DR.call (i := 11) (fun uA => uA = .bool (vIn ((es.getD i EvR.d).note) (0 : Int) ((nE / 2 - 1 : Nat) : Int))) rfl rfl (by kernel_rfl) (.yes rfl rfl rfl (ltb rfl) rfl (bnot_t hb7)) rfl (ltb rfl) ⟨_, rfl⟩ (vs := [.func (.func 51) #[] #[], vI ((es.getD i EvR.d).note), vI 0, vI ((nE / 2 - 1 : Nat) : Int)]) rfl (fun wD mD => oc_call (vs := [vI ((es.getD i EvR.d).note), vI 0, vI ((nE / 2 - 1 : Nat) : Int)]) (cap := []) rfl rfl rfl Tryd.call51 (c_within ((es.getD i EvR.d).note) (0 : Int) ((nE / 2 - 1 : Nat) : Int) wD)) ?_ ?_
                    · rintro w1 _ _ m1 ⟨rfl, rfl⟩; exact ⟨rfl, Mod.refl _ _⟩
                    rintro _ rfl
                    refine DR.det (i := 12) rfl rfl (by kernel_rfl) (.yes rfl rfl rfl (ltb rfl) rfl (bnot_t hb7)) rfl rfl (fun wD mD => op_not rfl) ?_
                    refine DR.det (i := 13) rfl rfl (by kernel_rfl) (.free rfl) rfl rfl (fun wD mD => op_pick_f rfl (bnot_t hb7) rfl) ?_
                    refine DR.det (i := 14) rfl rfl (by kernel_rfl) (.free rfl) rfl rfl (fun wD mD => op_move rfl) ?_
                    refine DR.det (i := 15) rfl rfl (by kernel_rfl) (.yes rfl rfl rfl (ltb rfl) rfl (bnot_t hb8)) rfl rfl (fun wD mD => op_move rfl) ?_
                    refine DR.det (i := 16) rfl rfl (by kernel_rfl) (.yes rfl rfl rfl (ltb rfl) rfl (bnot_t hb8)) rfl rfl (fun wD mD => op_gti rfl rfl) ?_
                    refine DR.det (i := 17) rfl rfl (by kernel_rfl) (.yes rfl rfl rfl (ltb rfl) rfl (bnot_t hb8)) rfl rfl (fun wD mD => op_move rfl) ?_
                    refine DR.det (i := 18) rfl rfl (by kernel_rfl) (.yes rfl rfl rfl (ltb rfl) rfl hb9) rfl rfl (fun wD mD => op_move rfl) ?_
                    refine DR.det (i := 19) rfl rfl (by kernel_rfl) (.yes rfl rfl rfl (ltb rfl) rfl hb9) rfl rfl (fun wD mD => op_fieldAddr (off' := 5) rfl Tryd.runUnderlying43 rfl rfl Tryd.sizeOf41 rfl) ?_
                    refine DR.det (i := 20) rfl rfl (by kernel_rfl) (.yes rfl rfl rfl (ltb rfl) rfl hb9) rfl rfl (fun wD mD => op_load1 (i := 5) rfl Tryd.isAgg41 (((((((((((r1.ext m2).ext m3).ext m4).ext m5).ext m6).ext m7).mod m8 (nC (lE (lL (lL r1.lt (lT (lT (lT m2.size m3.size) m4.size) m5.size)) lR)) nN)).ext m9).mod m10 (nC (lE (lL (lL r1.lt (lT (lT (lT (lT (lT (lT m2.size m3.size) m4.size) m5.size) m6.size) m7.size) m8.size)) lR)) nN)).ext md1).ext mD).rng rfl rfl) ?_
                    refine DR.det (i := 21) rfl rfl (by kernel_rfl) (.yes rfl rfl rfl (ltb rfl) rfl hb9) rfl rfl (fun wD mD => op_move rfl) ?_
                    refine DR.det (i := 22) rfl rfl (by kernel_rfl) (.yes rfl rfl rfl (ltb rfl) rfl hb9) rfl rfl (fun wD mD => op_sub (r := ((i - 1 : Nat) : Int)) rfl rfl (w_nsub (l := i) (n := 1) (by omega) (by omega))) ?_
                    refine DR.det (i := 23) rfl rfl (by kernel_rfl) (.yes rfl rfl rfl (ltb rfl) rfl hb9) rfl rfl (fun wD mD => op_indexSl (off' := 0 + (i - 1) * 6) rfl rfl rfl Tryd.runUnderlying41 Tryd.sizeOf72 (by omega) (by omega) (by omega)) ?_
                    refine DR.det (i := 24) rfl rfl (by kernel_rfl) (.yes rfl rfl rfl (ltb rfl) rfl hb9) rfl rfl (fun wD mD => op_loadA (i := (i - 1) * 6) (cs := [vI ((es.getD (i - 1) EvR.d).at_), vI ((es.getD (i - 1) EvR.d).kind), vI ((es.getD (i - 1) EvR.d).note), vI ((es.getD (i - 1) EvR.d).ins), vI ((es.getD (i - 1) EvR.d).key), vF ((es.getD (i - 1) EvR.d).force)]) rfl Tryd.isAgg72 Tryd.sizeOf72 (((Rng.youngS rE ((Rng.youngS rE (((((((rE.ext m1).ext m2).ext m3).ext m4).ext m5).ext m6).ext m7) m8 (allge_cons (lT (lT (lT (lT (lT m1.size m2.size) m3.size) m4.size) m5.size) lR) allge_nil)).ext m9) m10 (allge_cons (lT (lT (lT (lT (lT (lT (lT (lT m1.size m2.size) m3.size) m4.size) m5.size) m6.size) m7.size) m8.size) lR) allge_nil)).ext md1).ext mD) rfl (cat_at (f := EvR.cells) (m := 6) (i := (i - 1)) (d := EvR.d) (fun _ => rfl) (by have eL : List.length es = nE := lnE; omega)) rfl) ?_
                    refine DR.det (i := 25) rfl rfl (by kernel_rfl) (.yes rfl rfl rfl (ltb rfl) rfl hb9) rfl rfl (fun wD mD => op_loadA (i := 0) (cs := [vI ((es.getD i EvR.d).at_), vI ((es.getD i EvR.d).kind), vI ((es.getD i EvR.d).note), vI ((es.getD i EvR.d).ins), vI ((es.getD i EvR.d).key), vF ((es.getD i EvR.d).force)]) rfl Tryd.isAgg72 Tryd.sizeOf72 ((r8.ext md1).ext mD).rng rfl rfl rfl) ?_
                    refine DR.done rfl ?_
                    intro w12 m11
                    refine WO.call rfl (.yes rfl rfl rfl (ltb rfl) rfl hb9) rfl (ltb rfl) (oc_call (vs := [.agg #[vI ((es.getD (i - 1) EvR.d).at_), vI ((es.getD (i - 1) EvR.d).kind), vI ((es.getD (i - 1) EvR.d).note), vI ((es.getD (i - 1) EvR.d).ins), vI ((es.getD (i - 1) EvR.d).key), vF ((es.getD (i - 1) EvR.d).force)], .agg #[vI ((es.getD i EvR.d).at_), vI ((es.getD i EvR.d).kind), vI ((es.getD i EvR.d).note), vI ((es.getD i EvR.d).ins), vI ((es.getD i EvR.d).key), vF ((es.getD i EvR.d).force)]]) (cap := [vP p'1 0]) rfl rfl rfl Tryd.call72 (c_compare1 ((es.getD (i - 1) EvR.d).at_) ((es.getD (i - 1) EvR.d).kind) ((es.getD (i - 1) EvR.d).note) ((es.getD (i - 1) EvR.d).ins) ((es.getD (i - 1) EvR.d).key) ((es.getD (i - 1) EvR.d).force) ((es.getD i EvR.d).at_) ((es.getD i EvR.d).kind) ((es.getD i EvR.d).note) ((es.getD i EvR.d).ins) ((es.getD i EvR.d).key) ((es.getD i EvR.d).force) p'1 b'1 (startsF es nE) (startsN es nE) (by omega) (by omega) (by omega) (by omega) w12 (((((r4.mod m8 (nC (lG (lL r3.lt ge2)) nN)).ext m9).mod m10 (nC (lE (lL (lL r4.lt m8.size) lR)) nN)).ext md1).ext m11).rng (((((((r2.ext m6).ext m7).mod m8 (nC (lE (lL r2.lt lR)) nN)).ext m9).mod m10 (nC (lE (lL (lL r2.lt (lT (lT m6.size m7.size) m8.size)) lR)) nN)).ext md1).ext m11))) ?_
                    rintro _ w13 ⟨rfl, m12⟩
                    refine WO.det (op_gei rfl rfl) rfl (.yes rfl rfl rfl (ltb rfl) rfl hb9) rfl rfl ?_
                    refine WO.det (op_pick_t rfl hb9 rfl) rfl (.yes rfl rfl rfl (ltb rfl) rfl (bnot_t hb8)) rfl rfl ?_
                    refine WO.det (op_pick_f rfl (bnot_t hb8) rfl) rfl (.free rfl) rfl rfl ?_
                    refine WO.end ?_
                    refine NE.code ?_
                    rcases Bool.eq_false_or_eq_true (decide ((0 : Int) ≤ (cmp4 ((es.getD (i - 1) EvR.d).at_) (lateI ((startsF es nE) ((es.getD (i - 1) EvR.d).note)) ((es.getD (i - 1) EvR.d).at_) ((es.getD (i - 1) EvR.d).kind)) ((es.getD (i - 1) EvR.d).note) (stopK ((es.getD (i - 1) EvR.d).kind)) ((es.getD i EvR.d).at_) (lateI ((startsF es nE) ((es.getD i EvR.d).note)) ((es.getD i EvR.d).at_) ((es.getD i EvR.d).kind)) ((es.getD i EvR.d).note) (stopK ((es.getD i EvR.d).kind))))) with hb10 | hb10
                    · have hp10 := of_decide_eq_true hb10
                      refine CE.cond_t rfl hb10 ?_
                      refine CE.seq ?_
                      refine CE.region ?_
                      refine WL.det (op_assign rfl) rfl rfl rfl ?_
                      refine WL.end ?_
                      refine NE.code ?_
                      refine CE.ret' ?_
                      refine XE.ret_then ?_
                      refine XE.ret_blk ?_
                      refine XE.ret_then ?_
                      refine XE.ret_then ?_
                      refine XE.ret_blk ?_
                      refine XE.ret_then ?_
                      refine XE.leave1 Tryd.results16 rfl ?_
                      refine ⟨?_, ((((((((((((((Mod.refl [] w).nt m1).nt m2).nt m3).nt m4).nt m5).nt m6).nt m7).then m8 ((aC (.inr (lT (lT (lT (lT (lT m1.size m2.size) m3.size) m4.size) m5.size) lR)) aN))).nt m9).then m10 ((aC (.inr (lT (lT (lT (lT (lT (lT (lT (lT m1.size m2.size) m3.size) m4.size) m5.size) m6.size) m7.size) m8.size) lR)) aN))).nt md1).nt m11).nt m12)⟩
                      all_goals first | exact congrArg Value.bool (sc_f (by rintro ⟨a1, a2, a3, a4⟩; first | (have h9 : vRate ra = false := (by assumption); rw [a1] at h9; cases h9) | (have h9 : tunF ba oc esD nD = false := (by assumption); rw [a2] at h9; cases h9) | (have h9 : insF esI nI = false := (by assumption); rw [a3] at h9; cases h9) | (rw [evP_fn (by omega)] at a4; cases a4) | (rw [evP_f1 (evI1_out (i := i) (by omega) (by exact stepI_f (by rintro ⟨a1, a2, a3, a4⟩; rw [vIn_t] at a2; first | omega | (have h9 : evI _ _ _ _ _ _ = false := (by assumption); rw [a1] at h9; cases h9) | (have h9 := a3 (by omega); unfold ordI at h9; omega) | (have h9 := a4 (by assumption); first | omega | (have h8 : (startsF es nE (es.getD i EvR.d).note).isSome = false := (by assumption); rw [h9.1] at h8; cases h8) | (have h8 : lkB (stopsF es i (es.getD i EvR.d).note) = true := (by assumption); rw [h9.2.2] at h8; cases h8)))))] at a4; cases a4))).symm | (have e9 : i = nE := (by omega); rw [e9] at hu; (try rw [e9]); unfold vScP; rw [(by assumption : vRate ra = true), (by assumption : tunF ba oc esD nD = true), (by assumption : insF esI nI = true), evP_t (by omega) (by omega) hu]; have q9 := beq_cast (startsN es nE) (nE / 2); first | (have h9 : (((startsN es nE : Nat) : Int) == ((nE / 2 : Nat) : Int)) = true := (by assumption); rw [q9] at h9; rw [h9, beq_cast]; rfl) | (have h9 : (((startsN es nE : Nat) : Int) == ((nE / 2 : Nat) : Int)) = false := (by assumption); rw [q9] at h9; rw [h9]; rfl))
                    · have hp10 := of_decide_eq_false hb10
                      refine CE.cond_f rfl hb10 ?_
                      refine CE.skip' ?_
                      refine NE.code ?_
                      refine CE.seq ?_
                      refine CE.region ?_
                      refine WL.det (op_fieldAddr (off' := 1) rfl Tryd.runUnderlying72 rfl rfl Tryd.sizeOf2 rfl) rfl rfl rfl ?_
                      refine WL.det (op_load1 (i := 1) rfl Tryd.isAgg2 (((r8.ext md1).ext m11).ext m12).rng rfl rfl) rfl rfl rfl ?_
                      refine WL.det (op_eqi rfl rfl) rfl rfl rfl ?_
                      refine WL.end ?_
                      refine NE.code ?_
                      rcases Bool.eq_false_or_eq_true ((((es.getD i EvR.d).kind) == (1 : Int))) with hb11 | hb11
                      · have hp11 := eq_of_beq hb11
                        refine CE.cond_t rfl hb11 ?_
                        refine CE.seq ?_
                        refine CE.region ?_
                        refine WL.det (op_move rfl) rfl rfl rfl ?_
                        refine WL.det (op_fieldAddr (off' := 2) rfl Tryd.runUnderlying72 rfl rfl Tryd.sizeOf2 rfl) rfl rfl rfl ?_
                        refine WL.det (op_load1 (i := 2) rfl Tryd.isAgg2 (((r8.ext md1).ext m11).ext m12).rng rfl rfl) rfl rfl rfl ?_
                        refine WL.det (op_mapOkI Tryd.underlying73 Tryd.underlying2 Tryd.underlying2 Tryd.zeroValue2 rfl rfl (wfI (by omega) (by omega)) ((((((((r2.ext m6).ext m7).mod m8 (nC (lE (lL r2.lt lR)) nN)).ext m9).mod m10 (nC (lE (lL (lL r2.lt (lT (lT m6.size m7.size) m8.size)) lR)) nN)).ext md1).ext m11).ext m12)) rfl rfl rfl ?_
                        refine WL.det (op_move rfl) rfl rfl rfl ?_
                        refine WL.det (op_extract rfl rfl) rfl rfl rfl ?_
                        refine WL.det (op_extract rfl rfl) rfl rfl rfl ?_
                        refine WL.det (op_assign rfl) rfl rfl rfl ?_
                        refine WL.det (op_assign rfl) rfl rfl rfl ?_
                        refine WL.end ?_
                        refine NE.code ?_
                        refine CE.seq ?_
                        refine CE.seq ?_
                        refine CE.region ?_
                        refine WL.det (op_move rfl) rfl rfl rfl ?_
                        refine WL.det (op_not rfl) rfl rfl rfl ?_
                        refine WL.det (op_move rfl) rfl rfl rfl ?_
                        rcases Bool.eq_false_or_eq_true (((startsF es nE) ((es.getD i EvR.d).note)).isSome) with hb12 | hb12
                        · refine WL.yes rfl rfl rfl (ltb rfl) rfl (bnot_t hb12) ?_
                          refine WL.det (op_move rfl) rfl rfl rfl ?_
                          refine WL.yes rfl rfl rfl (ltb rfl) rfl (bnot_t hb12) ?_
                          refine WL.det (op_fieldAddr (off' := 0) rfl Tryd.runUnderlying72 rfl rfl Tryd.sizeOf2 rfl) rfl rfl rfl ?_
                          refine WL.yes rfl rfl rfl (ltb rfl) rfl (bnot_t hb12) ?_
                          refine WL.det (op_load1 (i := 0) rfl Tryd.isAgg2 (((r8.ext md1).ext m11).ext m12).rng rfl rfl) rfl rfl rfl ?_
                          refine WL.yes rfl rfl rfl (ltb rfl) rfl (bnot_t hb12) ?_
                          refine WL.det (op_gti rfl rfl) rfl rfl rfl ?_
                          refine WL.det (op_pick_f rfl (bnot_t hb12) rfl) rfl rfl rfl ?_
                          refine WL.det (op_move rfl) rfl rfl rfl ?_
                          rcases Bool.eq_false_or_eq_true (decide (((es.getD i EvR.d).at_) < (lkI ((startsF es nE) ((es.getD i EvR.d).note))))) with hb13 | hb13
                          · have hp13 := of_decide_eq_true hb13
                            refine WL.no rfl rfl rfl (ltb rfl) rfl hb13 rfl (ltb rfl) ?_
                            refine WL.no rfl rfl rfl (ltb rfl) rfl hb13 rfl (ltb rfl) ?_
                            refine WL.no rfl rfl rfl (ltb rfl) rfl hb13 rfl (ltb rfl) ?_
                            refine WL.no rfl rfl rfl (ltb rfl) rfl hb13 rfl (ltb rfl) ?_
                            refine WL.det (op_pick_t rfl hb13 rfl) rfl rfl rfl ?_
                            refine WL.end ?_
                            refine NE.code ?_
                            refine CE.cond_t rfl rfl ?_
                            refine CE.seq ?_
                            refine CE.region ?_
                            refine WL.det (op_assign rfl) rfl rfl rfl ?_
                            refine WL.end ?_
                            refine NE.code ?_
                            refine CE.ret' ?_
                            refine XE.ret_then ?_
                            refine XE.ret_blk ?_
                            refine XE.ret_then ?_
                            refine XE.ret_then ?_
                            refine XE.ret_blk ?_
                            refine XE.ret_then ?_
                            refine XE.leave1 Tryd.results16 rfl ?_
                            refine ⟨?_, ((((((((((((((Mod.refl [] w).nt m1).nt m2).nt m3).nt m4).nt m5).nt m6).nt m7).then m8 ((aC (.inr (lT (lT (lT (lT (lT m1.size m2.size) m3.size) m4.size) m5.size) lR)) aN))).nt m9).then m10 ((aC (.inr (lT (lT (lT (lT (lT (lT (lT (lT m1.size m2.size) m3.size) m4.size) m5.size) m6.size) m7.size) m8.size) lR)) aN))).nt md1).nt m11).nt m12)⟩
                            all_goals first | exact congrArg Value.bool (sc_f (by rintro ⟨a1, a2, a3, a4⟩; first | (have h9 : vRate ra = false := (by assumption); rw [a1] at h9; cases h9) | (have h9 : tunF ba oc esD nD = false := (by assumption); rw [a2] at h9; cases h9) | (have h9 : insF esI nI = false := (by assumption); rw [a3] at h9; cases h9) | (rw [evP_fn (by omega)] at a4; cases a4) | (rw [evP_f1 (evI1_out (i := i) (by omega) (by exact stepI_f (by rintro ⟨a1, a2, a3, a4⟩; rw [vIn_t] at a2; first | omega | (have h9 : evI _ _ _ _ _ _ = false := (by assumption); rw [a1] at h9; cases h9) | (have h9 := a3 (by omega); unfold ordI at h9; omega) | (have h9 := a4 (by assumption); first | omega | (have h8 : (startsF es nE (es.getD i EvR.d).note).isSome = false := (by assumption); rw [h9.1] at h8; cases h8) | (have h8 : lkB (stopsF es i (es.getD i EvR.d).note) = true := (by assumption); rw [h9.2.2] at h8; cases h8)))))] at a4; cases a4))).symm | (have e9 : i = nE := (by omega); rw [e9] at hu; (try rw [e9]); unfold vScP; rw [(by assumption : vRate ra = true), (by assumption : tunF ba oc esD nD = true), (by assumption : insF esI nI = true), evP_t (by omega) (by omega) hu]; have q9 := beq_cast (startsN es nE) (nE / 2); first | (have h9 : (((startsN es nE : Nat) : Int) == ((nE / 2 : Nat) : Int)) = true := (by assumption); rw [q9] at h9; rw [h9, beq_cast]; rfl) | (have h9 : (((startsN es nE : Nat) : Int) == ((nE / 2 : Nat) : Int)) = false := (by assumption); rw [q9] at h9; rw [h9]; rfl))
                          · have hp13 := of_decide_eq_false hb13
                            refine WL.yes rfl rfl rfl (ltb rfl) rfl hb13 ?_
                            refine WL.det (op_move rfl) rfl rfl rfl ?_
                            refine WL.yes rfl rfl rfl (ltb rfl) rfl hb13 ?_
                            refine WL.det (op_fieldAddr (off' := 2) rfl Tryd.runUnderlying72 rfl rfl Tryd.sizeOf2 rfl) rfl rfl rfl ?_
                            refine WL.yes rfl rfl rfl (ltb rfl) rfl hb13 ?_
                            refine WL.det (op_load1 (i := 2) rfl Tryd.isAgg2 (((r8.ext md1).ext m11).ext m12).rng rfl rfl) rfl rfl rfl ?_
                            refine WL.yes rfl rfl rfl (ltb rfl) rfl hb13 ?_
                            refine WL.det (op_mapB Tryd.underlying75 Tryd.underlying2 Tryd.underlying4 Tryd.zeroValue4 rfl rfl (wfI (by omega) (by omega)) (((((r5.ext m9).mod m10 (nC (lE (lL (lL r3.lt (lT m7.size m8.size)) lR)) nN)).ext md1).ext m11).ext m12)) rfl rfl rfl ?_
                            refine WL.det (op_pick_f rfl hb13 rfl) rfl rfl rfl ?_
                            refine WL.end ?_
                            refine NE.code ?_
                            rcases Bool.eq_false_or_eq_true ((lkB ((stopsF es i) ((es.getD i EvR.d).note)))) with hb14 | hb14
                            · refine CE.cond_t rfl hb14 ?_
                              refine CE.seq ?_
                              refine CE.region ?_
                              refine WL.det (op_assign rfl) rfl rfl rfl ?_
                              refine WL.end ?_
                              refine NE.code ?_
                              refine CE.ret' ?_
                              refine XE.ret_then ?_
                              refine XE.ret_blk ?_
                              refine XE.ret_then ?_
                              refine XE.ret_then ?_
                              refine XE.ret_blk ?_
                              refine XE.ret_then ?_
                              refine XE.leave1 Tryd.results16 rfl ?_
                              refine ⟨?_, ((((((((((((((Mod.refl [] w).nt m1).nt m2).nt m3).nt m4).nt m5).nt m6).nt m7).then m8 ((aC (.inr (lT (lT (lT (lT (lT m1.size m2.size) m3.size) m4.size) m5.size) lR)) aN))).nt m9).then m10 ((aC (.inr (lT (lT (lT (lT (lT (lT (lT (lT m1.size m2.size) m3.size) m4.size) m5.size) m6.size) m7.size) m8.size) lR)) aN))).nt md1).nt m11).nt m12)⟩
                              all_goals first | exact congrArg Value.bool (sc_f (by rintro ⟨a1, a2, a3, a4⟩; first | (have h9 : vRate ra = false := (by assumption); rw [a1] at h9; cases h9) | (have h9 : tunF ba oc esD nD = false := (by assumption); rw [a2] at h9; cases h9) | (have h9 : insF esI nI = false := (by assumption); rw [a3] at h9; cases h9) | (rw [evP_fn (by omega)] at a4; cases a4) | (rw [evP_f1 (evI1_out (i := i) (by omega) (by exact stepI_f (by rintro ⟨a1, a2, a3, a4⟩; rw [vIn_t] at a2; first | omega | (have h9 : evI _ _ _ _ _ _ = false := (by assumption); rw [a1] at h9; cases h9) | (have h9 := a3 (by omega); unfold ordI at h9; omega) | (have h9 := a4 (by assumption); first | omega | (have h8 : (startsF es nE (es.getD i EvR.d).note).isSome = false := (by assumption); rw [h9.1] at h8; cases h8) | (have h8 : lkB (stopsF es i (es.getD i EvR.d).note) = true := (by assumption); rw [h9.2.2] at h8; cases h8)))))] at a4; cases a4))).symm | (have e9 : i = nE := (by omega); rw [e9] at hu; (try rw [e9]); unfold vScP; rw [(by assumption : vRate ra = true), (by assumption : tunF ba oc esD nD = true), (by assumption : insF esI nI = true), evP_t (by omega) (by omega) hu]; have q9 := beq_cast (startsN es nE) (nE / 2); first | (have h9 : (((startsN es nE : Nat) : Int) == ((nE / 2 : Nat) : Int)) = true := (by assumption); rw [q9] at h9; rw [h9, beq_cast]; rfl) | (have h9 : (((startsN es nE : Nat) : Int) == ((nE / 2 : Nat) : Int)) = false := (by assumption); rw [q9] at h9; rw [h9]; rfl))
                            · refine CE.cond_f rfl hb14 ?_
                              refine CE.skip' ?_
                              refine NE.code ?_
                              refine CE.region ?_
                              refine WL.det (op_move rfl) rfl rfl rfl ?_
                              refine WL.det (op_fieldAddr (off' := 2) rfl Tryd.runUnderlying72 rfl rfl Tryd.sizeOf2 rfl) rfl rfl rfl ?_
                              refine WL.det (op_load1 (i := 2) rfl Tryd.isAgg2 (((r8.ext md1).ext m11).ext m12).rng rfl rfl) rfl rfl rfl ?_
                              refine WL.op0 (op_mapPut Tryd.underlying75 Tryd.underlying2 rfl rfl rfl (plainElem_bool Tryd.underlying4 _) (wfI (by omega) (by omega)) (by omega) (((((r5.ext m9).mod m10 (nC (lE (lL (lL r3.lt (lT m7.size m8.size)) lR)) nN)).ext md1).ext m11).ext m12)) rfl rfl ?_
                              rintro _ w14 ⟨r9, m13, z5⟩
                              refine WL.end ?_
                              refine NE.blk ?_
                              refine NE.code ?_
                              refine CE.region ?_
                              refine WL.det (op_add (r := ((i + 1 : Nat) : Int)) rfl rfl (w_i64 (by omega) (by omega))) rfl rfl rfl ?_
                              refine WL.det (op_move rfl) rfl rfl rfl ?_
                              refine WL.end ?_
                              exact NE.again (i + 1) (⟨rfl, rfl, rfl, rfl, rfl, rfl, rfl, rfl, rfl, trivial⟩) ⟨(by omega), (by exact stopsN_le hs), (by unfold evI1; rw [hu, Bool.true_and]; exact stepI_t (by assumption) ((vIn_t _ _ _).2 ⟨by omega, by omega⟩) (fun h9 => by first | omega | (unfold ordI; omega)) (fun h9 => by first | omega | exact ⟨by assumption, by omega, by assumption⟩)), (MapR.congr r9 (by simp_all [stopsF, stopsN])), ((((((m8.nt m9).then m10 ((aC (.inr (lT m8.size lR)) aN))).nt md1).nt m11).nt m12).then m13 ((aC (.inl (by simp)) aN)))⟩ (by first | (dsimp only; omega) | omega)
                        · refine WL.no rfl rfl rfl (ltb rfl) rfl (bnot_f hb12) rfl (ltb rfl) ?_
                          refine WL.no rfl rfl rfl (ltb rfl) rfl (bnot_f hb12) rfl (ltb rfl) ?_
                          refine WL.no rfl rfl rfl (ltb rfl) rfl (bnot_f hb12) rfl (ltb rfl) ?_
                          refine WL.no rfl rfl rfl (ltb rfl) rfl (bnot_f hb12) rfl (ltb rfl) ?_
                          refine WL.det (op_pick_t rfl (bnot_f hb12) rfl) rfl rfl rfl ?_
                          refine WL.det (op_move rfl) rfl rfl rfl ?_
                          refine WL.no rfl rfl rfl (ltb rfl) rfl rfl rfl (ltb rfl) ?_
                          refine WL.no rfl rfl rfl (ltb rfl) rfl rfl rfl (ltb rfl) ?_
                          refine WL.no rfl rfl rfl (ltb rfl) rfl rfl rfl (ltb rfl) ?_
                          refine WL.no rfl rfl rfl (ltb rfl) rfl rfl rfl (ltb rfl) ?_
                          refine WL.det (op_pick_t rfl rfl rfl) rfl rfl rfl ?_
                          refine WL.end ?_
                          refine NE.code ?_
                          refine CE.cond_t rfl rfl ?_
                          refine CE.seq ?_
                          refine CE.region ?_
                          refine WL.det (op_assign rfl) rfl rfl rfl ?_
                          refine WL.end ?_
                          refine NE.code ?_
                          refine CE.ret' ?_
                          refine XE.ret_then ?_
                          refine XE.ret_blk ?_
                          refine XE.ret_then ?_
                          refine XE.ret_then ?_
                          refine XE.ret_blk ?_
                          refine XE.ret_then ?_
                          refine XE.leave1 Tryd.results16 rfl ?_
                          refine ⟨?_, ((((((((((((((Mod.refl [] w).nt m1).nt m2).nt m3).nt m4).nt m5).nt m6).nt m7).then m8 ((aC (.inr (lT (lT (lT (lT (lT m1.size m2.size) m3.size) m4.size) m5.size) lR)) aN))).nt m9).then m10 ((aC (.inr (lT (lT (lT (lT (lT (lT (lT (lT m1.size m2.size) m3.size) m4.size) m5.size) m6.size) m7.size) m8.size) lR)) aN))).nt md1).nt m11).nt m12)⟩
                          all_goals first | exact congrArg Value.bool (sc_f (by rintro ⟨a1, a2, a3, a4⟩; first | (have h9 : vRate ra = false := (by assumption); rw [a1] at h9; cases h9) | (have h9 : tunF ba oc esD nD = false := (by assumption); rw [a2] at h9; cases h9) | (have h9 : insF esI nI = false := (by assumption); rw [a3] at h9; cases h9) | (rw [evP_fn (by omega)] at a4; cases a4) | (rw [evP_f1 (evI1_out (i := i) (by omega) (by exact stepI_f (by rintro ⟨a1, a2, a3, a4⟩; rw [vIn_t] at a2; first | omega | (have h9 : evI _ _ _ _ _ _ = false := (by assumption); rw [a1] at h9; cases h9) | (have h9 := a3 (by omega); unfold ordI at h9; omega) | (have h9 := a4 (by assumption); first | omega | (have h8 : (startsF es nE (es.getD i EvR.d).note).isSome = false := (by assumption); rw [h9.1] at h8; cases h8) | (have h8 : lkB (stopsF es i (es.getD i EvR.d).note) = true := (by assumption); rw [h9.2.2] at h8; cases h8)))))] at a4; cases a4))).symm | (have e9 : i = nE := (by omega); rw [e9] at hu; (try rw [e9]); unfold vScP; rw [(by assumption : vRate ra = true), (by assumption : tunF ba oc esD nD = true), (by assumption : insF esI nI = true), evP_t (by omega) (by omega) hu]; have q9 := beq_cast (startsN es nE) (nE / 2); first | (have h9 : (((startsN es nE : Nat) : Int) == ((nE / 2 : Nat) : Int)) = true := (by assumption); rw [q9] at h9; rw [h9, beq_cast]; rfl) | (have h9 : (((startsN es nE : Nat) : Int) == ((nE / 2 : Nat) : Int)) = false := (by assumption); rw [q9] at h9; rw [h9]; rfl))
                      · have hp11 := ne_of_beq_false hb11
                        refine CE.cond_f rfl hb11 ?_
                        refine CE.skip' ?_
                        refine NE.blk ?_
                        refine NE.code ?_
                        refine CE.region ?_
                        refine WL.det (op_add (r := ((i + 1 : Nat) : Int)) rfl rfl (w_i64 (by omega) (by omega))) rfl rfl rfl ?_
                        refine WL.det (op_move rfl) rfl rfl rfl ?_
                        refine WL.end ?_
                        exact NE.again (i + 1) (⟨rfl, rfl, rfl, rfl, rfl, rfl, rfl, rfl, rfl, trivial⟩) ⟨(by omega), (by exact stopsN_le hs), (by unfold evI1; rw [hu, Bool.true_and]; exact stepI_t (by assumption) ((vIn_t _ _ _).2 ⟨by omega, by omega⟩) (fun h9 => by first | omega | (unfold ordI; omega)) (fun h9 => by first | omega | exact ⟨by assumption, by omega, by assumption⟩)), (MapR.congr (((((r5.ext m9).mod m10 (nC (lE (lL (lL r3.lt (lT m7.size m8.size)) lR)) nN)).ext md1).ext m11).ext m12) (by simp_all [stopsF, stopsN])), (((((m8.nt m9).then m10 ((aC (.inr (lT m8.size lR)) aN))).nt md1).nt m11).nt m12)⟩ (by first | (dsimp only; omega) | omega)
                  · have hp9 := of_decide_eq_false hb9
                    refine CE.draw (fun | 3 => some (fun _ wA uA wB => uA = vI ((nI : Nat) : Int) ∧ wA = wB) | 4 => some (fun _ wA uA wB => uA = .bool (evI ((es.getD i EvR.d).at_) ((es.getD i EvR.d).kind) ((es.getD i EvR.d).ins) ((es.getD i EvR.d).key) ((es.getD i EvR.d).force) ((nI : Nat) : Int)) ∧ Mod [] wA wB) | 11 => some (fun _ wA uA wB => uA = .bool (vIn ((es.getD i EvR.d).note) (0 : Int) ((nE / 2 - 1 : Nat) : Int)) ∧ wA = wB) | _ => none) [0, 1, 2, 3, 4, 5, 6, 7, 8, 9, 10, 11, 12, 13, 14, 15, 16, 17, 18, 19, 20, 21, 22, 23, 24, 25] [26, 27, 28, 29] [] (by kernel_rfl) (by kernel_rfl) ?_
                    have md2 : Mod [] w10 w10.drew := (Mod.refl _ _).drew
                    generalize w10.drew = w15 at md2 ⊢
                    refine DR.det (i := 0) rfl rfl (by kernel_rfl) (.free rfl) rfl rfl (fun wD mD => op_loadA (i := 0) (cs := [vI ((es.getD i EvR.d).at_), vI ((es.getD i EvR.d).kind), vI ((es.getD i EvR.d).note), vI ((es.getD i EvR.d).ins), vI ((es.getD i EvR.d).key), vF ((es.getD i EvR.d).force)]) rfl Tryd.isAgg72 Tryd.sizeOf72 ((r8.ext md2).ext mD).rng rfl rfl rfl) ?_
                    refine DR.det (i := 1) rfl rfl (by kernel_rfl) (.free rfl) rfl rfl (fun wD mD => op_fieldAddr (off' := 4) rfl Tryd.runUnderlying43 rfl rfl Tryd.sizeOf40 rfl) ?_
                    refine DR.det (i := 2) rfl rfl (by kernel_rfl) (.free rfl) rfl rfl (fun wD mD => op_load1 (i := 4) rfl Tryd.isAgg40 (((((((((((r1.ext m2).ext m3).ext m4).ext m5).ext m6).ext m7).mod m8 (nC (lE (lL (lL r1.lt (lT (lT (lT m2.size m3.size) m4.size) m5.size)) lR)) nN)).ext m9).mod m10 (nC (lE (lL (lL r1.lt (lT (lT (lT (lT (lT (lT m2.size m3.size) m4.size) m5.size) m6.size) m7.size) m8.size)) lR)) nN)).ext md2).ext mD).rng rfl rfl) ?_
                    refine DR.call (i := 3) (fun uA => uA = vI ((nI : Nat) : Int)) rfl rfl (by kernel_rfl) (.free rfl) rfl (ltb rfl) ⟨_, rfl⟩ (vs := [.func (.func 50) #[] #[], vS bI 0 nI nI]) rfl (fun wD mD => oc_call (vs := [vS bI 0 nI nI]) (cap := []) rfl rfl rfl Tryd.call50 (c_lengthI nI nI (some ⟨bI, 0, none⟩) wD)) ?_ ?_
                    · rintro w1 _ _ m1 ⟨rfl, rfl⟩; exact ⟨rfl, Mod.refl _ _⟩
                    rintro _ rfl
                    refine DR.call (i := 4) (fun uA => uA = .bool (evI ((es.getD i EvR.d).at_) ((es.getD i EvR.d).kind) ((es.getD i EvR.d).ins) ((es.getD i EvR.d).key) ((es.getD i EvR.d).force) ((nI : Nat) : Int))) rfl rfl (by kernel_rfl) (.free rfl) rfl (ltb rfl) ⟨_, rfl⟩ (vs := [.func (.func 49) #[] #[], .agg #[vI ((es.getD i EvR.d).at_), vI ((es.getD i EvR.d).kind), vI ((es.getD i EvR.d).note), vI ((es.getD i EvR.d).ins), vI ((es.getD i EvR.d).key), vF ((es.getD i EvR.d).force)], vI ((nI : Nat) : Int)]) rfl (fun wD mD => oc_call (vs := [.agg #[vI ((es.getD i EvR.d).at_), vI ((es.getD i EvR.d).kind), vI ((es.getD i EvR.d).note), vI ((es.getD i EvR.d).ins), vI ((es.getD i EvR.d).key), vF ((es.getD i EvR.d).force)], vI ((nI : Nat) : Int)]) (cap := []) rfl rfl rfl Tryd.call49 (c_isEvent ((es.getD i EvR.d).at_) ((es.getD i EvR.d).kind) ((es.getD i EvR.d).note) ((es.getD i EvR.d).ins) ((es.getD i EvR.d).key) ((es.getD i EvR.d).force) ((nI : Nat) : Int) (by omega) (by omega) wD)) ?_ ?_
                    · rintro w1 _ w2 m1 ⟨rfl, m2⟩; exact ⟨rfl, m2⟩
                    rintro _ rfl
                    refine DR.det (i := 5) rfl rfl (by kernel_rfl) (.free rfl) rfl rfl (fun wD mD => op_not rfl) ?_
                    refine DR.det (i := 6) rfl rfl (by kernel_rfl) (.free rfl) rfl rfl (fun wD mD => op_move rfl) ?_
                    refine DR.det (i := 7) rfl rfl (by kernel_rfl) (.yes rfl rfl rfl (ltb rfl) rfl (bnot_t hb7)) rfl rfl (fun wD mD => op_fieldAddr (off' := 2) rfl Tryd.runUnderlying72 rfl rfl Tryd.sizeOf2 rfl) ?_
                    refine DR.det (i := 8) rfl rfl (by kernel_rfl) (.yes rfl rfl rfl (ltb rfl) rfl (bnot_t hb7)) rfl rfl (fun wD mD => op_load1 (i := 2) rfl Tryd.isAgg2 ((r8.ext md2).ext mD).rng rfl rfl) ?_
                    refine DR.det (i := 9) rfl rfl (by kernel_rfl) (.yes rfl rfl rfl (ltb rfl) rfl (bnot_t hb7)) rfl rfl (fun wD mD => op_move rfl) ?_
                    refine DR.det (i := 10) rfl rfl (by kernel_rfl) (.yes rfl rfl rfl (ltb rfl) rfl (bnot_t hb7)) rfl rfl (fun wD mD => op_sub (r := ((nE / 2 - 1 : Nat) : Int)) rfl rfl (w_nsub (l := nE / 2) (n := 1) (by omega) (by omega))) ?_
                    refine DR.call (i := 11) (fun uA => uA = .bool (vIn ((es.getD i EvR.d).note) (0 : Int) ((nE / 2 - 1 : Nat) : Int))) rfl rfl (by kernel_rfl) (.yes rfl rfl rfl (ltb rfl) rfl (bnot_t hb7)) rfl (ltb rfl) ⟨_, rfl⟩ (vs := [.func (.func 51) #[] #[], vI ((es.getD i EvR.d).note), vI 0, vI ((nE / 2 - 1 : Nat) : Int)]) rfl (fun wD mD => oc_call (vs := [vI ((es.getD i EvR.d).note), vI 0, vI ((nE / 2 - 1 : Nat) : Int)]) (cap := []) rfl rfl rfl Tryd.call51 (c_within ((es.getD i EvR.d).note) (0 : Int) ((nE / 2 - 1 : Nat) : Int) wD)) ?_ ?_
                    · rintro w1 _ _ m1 ⟨rfl, rfl⟩; exact ⟨rfl, Mod.refl _ _⟩
                    rintro _ rfl
                    refine DR.det (i := 12) rfl rfl (by kernel_rfl) (.yes rfl rfl rfl (ltb rfl) rfl (bnot_t hb7)) rfl rfl (fun wD mD => op_not rfl) ?_
                    refine DR.det (i := 13) rfl rfl (by kernel_rfl) (.free rfl) rfl rfl (fun wD mD => op_pick_f rfl (bnot_t hb7) rfl) ?_
                    refine DR.det (i := 14) rfl rfl (by kernel_rfl) (.free rfl) rfl rfl (fun wD mD => op_move rfl) ?_
                    refine DR.det (i := 15) rfl rfl (by kernel_rfl) (.yes rfl rfl rfl (ltb rfl) rfl (bnot_t hb8)) rfl rfl (fun wD mD => op_move rfl) ?_
                    refine DR.det (i := 16) rfl rfl (by kernel_rfl) (.yes rfl rfl rfl (ltb rfl) rfl (bnot_t hb8)) rfl rfl (fun wD mD => op_gti rfl rfl) ?_
                    refine DR.det (i := 17) rfl rfl (by kernel_rfl) (.yes rfl rfl rfl (ltb rfl) rfl (bnot_t hb8)) rfl rfl (fun wD mD => op_move rfl) ?_
                    refine DR.skip (i := 18) rfl (by kernel_rfl) (.no rfl rfl rfl (ltb rfl) rfl hb9) rfl (ltb rfl) ?_
                    refine DR.skip (i := 19) rfl (by kernel_rfl) (.no rfl rfl rfl (ltb rfl) rfl hb9) rfl (ltb rfl) ?_
                    refine DR.skip (i := 20) rfl (by kernel_rfl) (.no rfl rfl rfl (ltb rfl) rfl hb9) rfl (ltb rfl) ?_
                    refine DR.skip (i := 21) rfl (by kernel_rfl) (.no rfl rfl rfl (ltb rfl) rfl hb9) rfl (ltb rfl) ?_
                    refine DR.skip (i := 22) rfl (by kernel_rfl) (.no rfl rfl rfl (ltb rfl) rfl hb9) rfl (ltb rfl) ?_
                    refine DR.skip (i := 23) rfl (by kernel_rfl) (.no rfl rfl rfl (ltb rfl) rfl hb9) rfl (ltb rfl) ?_
                    refine DR.skip (i := 24) rfl (by kernel_rfl) (.no rfl rfl rfl (ltb rfl) rfl hb9) rfl (ltb rfl) ?_
                    refine DR.skip (i := 25) rfl (by kernel_rfl) (.no rfl rfl rfl (ltb rfl) rfl hb9) rfl (ltb rfl) ?_
                    refine DR.done rfl ?_
                    intro w16 m14
                    refine WO.skip rfl (.no rfl rfl rfl (ltb rfl) rfl hb9) rfl (ltb rfl) ?_
                    refine WO.skip rfl (.no rfl rfl rfl (ltb rfl) rfl hb9) rfl (ltb rfl) ?_
                    refine WO.det (op_pick_f rfl hb9 rfl) rfl (.yes rfl rfl rfl (ltb rfl) rfl (bnot_t hb8)) rfl rfl ?_
                    refine WO.det (op_pick_f rfl (bnot_t hb8) rfl) rfl (.free rfl) rfl rfl ?_
                    refine WO.end ?_
                    refine NE.code ?_
                    refine CE.cond_f rfl rfl ?_
                    refine CE.skip' ?_
                    refine NE.code ?_
                    refine CE.seq ?_
                    refine CE.region ?_
                    refine WL.det (op_fieldAddr (off' := 1) rfl Tryd.runUnderlying72 rfl rfl Tryd.sizeOf2 rfl) rfl rfl rfl ?_
                    refine WL.det (op_load1 (i := 1) rfl Tryd.isAgg2 ((r8.ext md2).ext m14).rng rfl rfl) rfl rfl rfl ?_
                    refine WL.det (op_eqi rfl rfl) rfl rfl rfl ?_
                    refine WL.end ?_
                    refine NE.code ?_
                    rcases Bool.eq_false_or_eq_true ((((es.getD i EvR.d).kind) == (1 : Int))) with hb15 | hb15
                    · have hp15 := eq_of_beq hb15
                      refine CE.cond_t rfl hb15 ?_
                      refine CE.seq ?_
                      refine CE.region ?_
                      refine WL.det (op_move rfl) rfl rfl rfl ?_
                      refine WL.det (op_fieldAddr (off' := 2) rfl Tryd.runUnderlying72 rfl rfl Tryd.sizeOf2 rfl) rfl rfl rfl ?_
                      refine WL.det (op_load1 (i := 2) rfl Tryd.isAgg2 ((r8.ext md2).ext m14).rng rfl rfl) rfl rfl rfl ?_
                      refine WL.det (op_mapOkI Tryd.underlying73 Tryd.underlying2 Tryd.underlying2 Tryd.zeroValue2 rfl rfl (wfI (by omega) (by omega)) (((((((r2.ext m6).ext m7).mod m8 (nC (lE (lL r2.lt lR)) nN)).ext m9).mod m10 (nC (lE (lL (lL r2.lt (lT (lT m6.size m7.size) m8.size)) lR)) nN)).ext md2).ext m14)) rfl rfl rfl ?_
                      refine WL.det (op_move rfl) rfl rfl rfl ?_
                      refine WL.det (op_extract rfl rfl) rfl rfl rfl ?_
                      refine WL.det (op_extract rfl rfl) rfl rfl rfl ?_
                      refine WL.det (op_assign rfl) rfl rfl rfl ?_
                      refine WL.det (op_assign rfl) rfl rfl rfl ?_
                      refine WL.end ?_
                      refine NE.code ?_
                      refine CE.seq ?_
                      refine CE.seq ?_
                      refine CE.region ?_
                      refine WL.det (op_move rfl) rfl rfl rfl ?_
                      refine WL.det (op_not rfl) rfl rfl rfl ?_
                      refine WL.det (op_move rfl) rfl rfl rfl ?_
                      rcases Bool.eq_false_or_eq_true (((startsF es nE) ((es.getD i EvR.d).note)).isSome) with hb16 | hb16
                      · refine WL.yes rfl rfl rfl (ltb rfl) rfl (bnot_t hb16) ?_
                        refine WL.det (op_move rfl) rfl rfl rfl ?_
                        refine WL.yes rfl rfl rfl (ltb rfl) rfl (bnot_t hb16) ?_
                        refine WL.det (op_fieldAddr (off' := 0) rfl Tryd.runUnderlying72 rfl rfl Tryd.sizeOf2 rfl) rfl rfl rfl ?_
                        refine WL.yes rfl rfl rfl (ltb rfl) rfl (bnot_t hb16) ?_
                        refine WL.det (op_load1 (i := 0) rfl Tryd.isAgg2 ((r8.ext md2).ext m14).rng rfl rfl) rfl rfl rfl ?_
                        refine WL.yes rfl rfl rfl (ltb rfl) rfl (bnot_t hb16) ?_
                        refine WL.det (op_gti rfl rfl) rfl rfl rfl ?_
                        refine WL.det (op_pick_f rfl (bnot_t hb16) rfl) rfl rfl rfl ?_
                        refine WL.det (op_move rfl) rfl rfl rfl ?_
                        rcases Bool.eq_false_or_eq_true (decide (((es.getD i EvR.d).at_) < (lkI ((startsF es nE) ((es.getD i EvR.d).note))))) with hb17 | hb17
                        · have hp17 := of_decide_eq_true hb17
                          refine WL.no rfl rfl rfl (ltb rfl) rfl hb17 rfl (ltb rfl) ?_
                          refine WL.no rfl rfl rfl (ltb rfl) rfl hb17 rfl (ltb rfl) ?_
                          refine WL.no rfl rfl rfl (ltb rfl) rfl hb17 rfl (ltb rfl) ?_
                          refine WL.no rfl rfl rfl (ltb rfl) rfl hb17 rfl (ltb rfl) ?_
                          refine WL.det (op_pick_t rfl hb17 rfl) rfl rfl rfl ?_
                          refine WL.end ?_
                          refine NE.code ?_
                          refine CE.cond_t rfl rfl ?_
                          refine CE.seq ?_
                          refine CE.region ?_
                          refine WL.det (op_assign rfl) rfl rfl rfl ?_
                          refine WL.end ?_
                          refine NE.code ?_
                          refine CE.ret' ?_
                          refine XE.ret_then ?_
                          refine XE.ret_blk ?_
                          refine XE.ret_then ?_
                          refine XE.ret_then ?_
                          refine XE.ret_blk ?_
                          refine XE.ret_then ?_
                          refine XE.leave1 Tryd.results16 rfl ?_
                          refine ⟨?_, (((((((((((((Mod.refl [] w).nt m1).nt m2).nt m3).nt m4).nt m5).nt m6).nt m7).then m8 ((aC (.inr (lT (lT (lT (lT (lT m1.size m2.size) m3.size) m4.size) m5.size) lR)) aN))).nt m9).then m10 ((aC (.inr (lT (lT (lT (lT (lT (lT (lT (lT m1.size m2.size) m3.size) m4.size) m5.size) m6.size) m7.size) m8.size) lR)) aN))).nt md2).nt m14)⟩
                          all_goals first | exact congrArg Value.bool (sc_f (by rintro ⟨a1, a2, a3, a4⟩; first | (have h9 : vRate ra = false := (by assumption); rw [a1] at h9; cases h9) | (have h9 : tunF ba oc esD nD = false := (by assumption); rw [a2] at h9; cases h9) | (have h9 : insF esI nI = false := (by assumption); rw [a3] at h9; cases h9) | (rw [evP_fn (by omega)] at a4; cases a4) | (rw [evP_f1 (evI1_out (i := i) (by omega) (by exact stepI_f (by rintro ⟨a1, a2, a3, a4⟩; rw [vIn_t] at a2; first | omega | (have h9 : evI _ _ _ _ _ _ = false := (by assumption); rw [a1] at h9; cases h9) | (have h9 := a3 (by omega); unfold ordI at h9; omega) | (have h9 := a4 (by assumption); first | omega | (have h8 : (startsF es nE (es.getD i EvR.d).note).isSome = false := (by assumption); rw [h9.1] at h8; cases h8) | (have h8 : lkB (stopsF es i (es.getD i EvR.d).note) = true := (by assumption); rw [h9.2.2] at h8; cases h8)))))] at a4; cases a4))).symm | (have e9 : i = nE := (by omega); rw [e9] at hu; (try rw [e9]); unfold vScP; rw [(by assumption : vRate ra = true), (by assumption : tunF ba oc esD nD = true), (by assumption : insF esI nI = true), evP_t (by omega) (by omega) hu]; have q9 := beq_cast (startsN es nE) (nE / 2); first | (have h9 : (((startsN es nE : Nat) : Int) == ((nE / 2 : Nat) : Int)) = true := (by assumption); rw [q9] at h9; rw [h9, beq_cast]; rfl) | (have h9 : (((startsN es nE : Nat) : Int) == ((nE / 2 : Nat) : Int)) = false := (by assumption); rw [q9] at h9; rw [h9]; rfl))
                        · have hp17 := of_decide_eq_false hb17
                          refine WL.yes rfl rfl rfl (ltb rfl) rfl hb17 ?_
                          refine WL.det (op_move rfl) rfl rfl rfl ?_
                          refine WL.yes rfl rfl rfl (ltb rfl) rfl hb17 ?_
                          refine WL.det (op_fieldAddr (off' := 2) rfl Tryd.runUnderlying72 rfl rfl Tryd.sizeOf2 rfl) rfl rfl rfl ?_
                          refine WL.yes rfl rfl rfl (ltb rfl) rfl hb17 ?_
                          refine WL.det (op_load1 (i := 2) rfl Tryd.isAgg2 ((r8.ext md2).ext m14).rng rfl rfl) rfl rfl rfl ?_
                          refine WL.yes rfl rfl rfl (ltb rfl) rfl hb17 ?_
                          refine WL.det (op_mapB Tryd.underlying75 Tryd.underlying2 Tryd.underlying4 Tryd.zeroValue4 rfl rfl (wfI (by omega) (by omega)) ((((r5.ext m9).mod m10 (nC (lE (lL (lL r3.lt (lT m7.size m8.size)) lR)) nN)).ext md2).ext m14)) rfl rfl rfl ?_
                          refine WL.det (op_pick_f rfl hb17 rfl) rfl rfl rfl ?_
                          refine WL.end ?_
                          refine NE.code ?_
                          rcases Bool.eq_false_or_eq_true ((lkB ((stopsF es i) ((es.getD i EvR.d).note)))) with hb18 | hb18
                          · refine CE.cond_t rfl hb18 ?_
                            refine CE.seq ?_
                            refine CE.region ?_
                            refine WL.det (op_assign rfl) rfl rfl rfl ?_
                            refine WL.end ?_
                            refine NE.code ?_
                            refine CE.ret' ?_
                            refine XE.ret_then ?_
                            refine XE.ret_blk ?_
                            refine XE.ret_then ?_
                            refine XE.ret_then ?_
                            refine XE.ret_blk ?_
                            refine XE.ret_then ?_
                            refine XE.leave1 Tryd.results16 rfl ?_
                            refine ⟨?_, (((((((((((((Mod.refl [] w).nt m1).nt m2).nt m3).nt m4).nt m5).nt m6).nt m7).then m8 ((aC (.inr (lT (lT (lT (lT (lT m1.size m2.size) m3.size) m4.size) m5.size) lR)) aN))).nt m9).then m10 ((aC (.inr (lT (lT (lT (lT (lT (lT (lT (lT m1.size m2.size) m3.size) m4.size) m5.size) m6.size) m7.size) m8.size) lR)) aN))).nt md2).nt m14)⟩
                            all_goals first | exact congrArg Value.bool (sc_f (by rintro ⟨a1, a2, a3, a4⟩; first | (have h9 : vRate ra = false := (by assumption); rw [a1] at h9; cases h9) | (have h9 : tunF ba oc esD nD = false := (by assumption); rw [a2] at h9; cases h9) | (have h9 : insF esI nI = false := (by assumption); rw [a3] at h9; cases h9) | (rw [evP_fn (by omega)] at a4; cases a4) | (rw [evP_f1 (evI1_out (i := i) (by omega) (by exact stepI_f (by rintro ⟨a1, a2, a3, a4⟩; rw [vIn_t] at a2; first | omega | (have h9 : evI _ _ _ _ _ _ = false := (by assumption); rw [a1] at h9; cases h9) | (have h9 := a3 (by omega); unfold ordI at h9; omega) | (have h9 := a4 (by assumption); first | omega | (have h8 : (startsF es nE (es.getD i EvR.d).note).isSome = false := (by assumption); rw [h9.1] at h8; cases h8) | (have h8 : lkB (stopsF es i (es.getD i EvR.d).note) = true := (by assumption); rw [h9.2.2] at h8; cases h8)))))] at a4; cases a4))).symm | (have e9 : i = nE := (by omega); rw [e9] at hu; (try rw [e9]); unfold vScP; rw [(by assumption : vRate ra = true), (by assumption : tunF ba oc esD nD = true), (by assumption : insF esI nI = true), evP_t (by omega) (by omega) hu]; have q9 := beq_cast (startsN es nE) (nE / 2); first | (have h9 : (((startsN es nE : Nat) : Int) == ((nE / 2 : Nat) : Int)) = true := (by assumption); rw [q9] at h9; rw [h9, beq_cast]; rfl) | (have h9 : (((startsN es nE : Nat) : Int) == ((nE / 2 : Nat) : Int)) = false := (by assumption); rw [q9] at h9; rw [h9]; rfl))
                          · refine CE.cond_f rfl hb18 ?_
                            refine CE.skip' ?_
                            refine NE.code ?_
                            refine CE.region ?_
                            refine WL.det (op_move rfl) rfl rfl rfl ?_
                            refine WL.det (op_fieldAddr (off' := 2) rfl Tryd.runUnderlying72 rfl rfl Tryd.sizeOf2 rfl) rfl rfl rfl ?_
                            refine WL.det (op_load1 (i := 2) rfl Tryd.isAgg2 ((r8.ext md2).ext m14).rng rfl rfl) rfl rfl rfl ?_
                            refine WL.op0 (op_mapPut Tryd.underlying75 Tryd.underlying2 rfl rfl rfl (plainElem_bool Tryd.underlying4 _) (wfI (by omega) (by omega)) (by omega) ((((r5.ext m9).mod m10 (nC (lE (lL (lL r3.lt (lT m7.size m8.size)) lR)) nN)).ext md2).ext m14)) rfl rfl ?_
                            rintro _ w17 ⟨r10, m15, z6⟩
                            refine WL.end ?_
                            refine NE.blk ?_
                            refine NE.code ?_
                            refine CE.region ?_
                            refine WL.det (op_add (r := ((i + 1 : Nat) : Int)) rfl rfl (w_i64 (by omega) (by omega))) rfl rfl rfl ?_
                            refine WL.det (op_move rfl) rfl rfl rfl ?_
                            refine WL.end ?_
                            exact NE.again (i + 1) (⟨rfl, rfl, rfl, rfl, rfl, rfl, rfl, rfl, rfl, trivial⟩) ⟨(by omega), (by exact stopsN_le hs), (by unfold evI1; rw [hu, Bool.true_and]; exact stepI_t (by assumption) ((vIn_t _ _ _).2 ⟨by omega, by omega⟩) (fun h9 => by first | omega | (unfold ordI; omega)) (fun h9 => by first | omega | exact ⟨by assumption, by omega, by assumption⟩)), (MapR.congr r10 (by simp_all [stopsF, stopsN])), (((((m8.nt m9).then m10 ((aC (.inr (lT m8.size lR)) aN))).nt md2).nt m14).then m15 ((aC (.inl (by simp)) aN)))⟩ (by first | (dsimp only; omega) | omega)
                      · refine WL.no rfl rfl rfl (ltb rfl) rfl (bnot_f hb16) rfl (ltb rfl) ?_
                        refine WL.no rfl rfl rfl (ltb rfl) rfl (bnot_f hb16) rfl (ltb rfl) ?_
                        refine WL.no rfl rfl rfl (ltb rfl) rfl (bnot_f hb16) rfl (ltb rfl) ?_
                        refine WL.no rfl rfl rfl (ltb rfl) rfl (bnot_f hb16) rfl (ltb rfl) ?_
                        refine WL.det (op_pick_t rfl (bnot_f hb16) rfl) rfl rfl rfl ?_
                        refine WL.det (op_move rfl) rfl rfl rfl ?_
                        refine WL.no rfl rfl rfl (ltb rfl) rfl rfl rfl (ltb rfl) ?_
                        refine WL.no rfl rfl rfl (ltb rfl) rfl rfl rfl (ltb rfl) ?_
                        refine WL.no rfl rfl rfl (ltb rfl) rfl rfl rfl (ltb rfl) ?_
                        refine WL.no rfl rfl rfl (ltb rfl) rfl rfl rfl (ltb rfl) ?_
                        refine WL.det (op_pick_t rfl rfl rfl) rfl rfl rfl ?_
                        refine WL.end ?_
                        refine NE.code ?_
                        refine CE.cond_t rfl rfl ?_
                        refine CE.seq ?_
                        refine CE.region ?_
                        refine WL.det (op_assign rfl) rfl rfl rfl ?_
                        refine WL.end ?_
                        refine NE.code ?_
                        refine CE.ret' ?_
                        refine XE.ret_then ?_
                        refine XE.ret_blk ?_
                        refine XE.ret_then ?_
                        refine XE.ret_then ?_
                        refine XE.ret_blk ?_
                        refine XE.ret_then ?_
                        refine XE.leave1 Tryd.results16 rfl ?_
                        refine ⟨?_, (((((((((((((Mod.refl [] w).nt m1).nt m2).nt m3).nt m4).nt m5).nt m6).nt m7).then m8 ((aC (.inr (lT (lT (lT (lT (lT m1.size m2.size) m3.size) m4.size) m5.size) lR)) aN))).nt m9).then m10 ((aC (.inr (lT (lT (lT (lT (lT (lT (lT (lT m1.size m2.size) m3.size) m4.size) m5.size) m6.size) m7.size) m8.size) lR)) aN))).nt md2).nt m14)⟩
                        all_goals first | exact congrArg Value.bool (sc_f (by rintro ⟨a1, a2, a3, a4⟩; first | (have h9 : vRate ra = false := (by assumption); rw [a1] at h9; cases h9) | (have h9 : tunF ba oc esD nD = false := (by assumption); rw [a2] at h9; cases h9) | (have h9 : insF esI nI = false := (by assumption); rw [a3] at h9; cases h9) | (rw [evP_fn (by omega)] at a4; cases a4) | (rw [evP_f1 (evI1_out (i := i) (by omega) (by exact stepI_f (by rintro ⟨a1, a2, a3, a4⟩; rw [vIn_t] at a2; first | omega | (have h9 : evI _ _ _ _ _ _ = false := (by assumption); rw [a1] at h9; cases h9) | (have h9 := a3 (by omega); unfold ordI at h9; omega) | (have h9 := a4 (by assumption); first | omega | (have h8 : (startsF es nE (es.getD i EvR.d).note).isSome = false := (by assumption); rw [h9.1] at h8; cases h8) | (have h8 : lkB (stopsF es i (es.getD i EvR.d).note) = true := (by assumption); rw [h9.2.2] at h8; cases h8)))))] at a4; cases a4))).symm | (have e9 : i = nE := (by omega); rw [e9] at hu; (try rw [e9]); unfold vScP; rw [(by assumption : vRate ra = true), (by assumption : tunF ba oc esD nD = true), (by assumption : insF esI nI = true), evP_t (by omega) (by omega) hu]; have q9 := beq_cast (startsN es nE) (nE / 2); first | (have h9 : (((startsN es nE : Nat) : Int) == ((nE / 2 : Nat) : Int)) = true := (by assumption); rw [q9] at h9; rw [h9, beq_cast]; rfl) | (have h9 : (((startsN es nE : Nat) : Int) == ((nE / 2 : Nat) : Int)) = false := (by assumption); rw [q9] at h9; rw [h9]; rfl))
                    · have hp15 := ne_of_beq_false hb15
                      refine CE.cond_f rfl hb15 ?_
                      refine CE.skip' ?_
                      refine NE.blk ?_
                      refine NE.code ?_
                      refine CE.region ?_
                      refine WL.det (op_add (r := ((i + 1 : Nat) : Int)) rfl rfl (w_i64 (by omega) (by omega))) rfl rfl rfl ?_
                      refine WL.det (op_move rfl) rfl rfl rfl ?_
                      refine WL.end ?_
                      exact NE.again (i + 1) (⟨rfl, rfl, rfl, rfl, rfl, rfl, rfl, rfl, rfl, trivial⟩) ⟨(by omega), (by exact stopsN_le hs), (by unfold evI1; rw [hu, Bool.true_and]; exact stepI_t (by assumption) ((vIn_t _ _ _).2 ⟨by omega, by omega⟩) (fun h9 => by first | omega | (unfold ordI; omega)) (fun h9 => by first | omega | exact ⟨by assumption, by omega, by assumption⟩)), (MapR.congr ((((r5.ext m9).mod m10 (nC (lE (lL (lL r3.lt (lT m7.size m8.size)) lR)) nN)).ext md2).ext m14) (by simp_all [stopsF, stopsN])), ((((m8.nt m9).then m10 ((aC (.inr (lT m8.size lR)) aN))).nt md2).nt m14)⟩ (by first | (dsimp only; omega) | omega)
                · have hp8 := hb8; try simp only [Bool.and_eq_true, Bool.or_eq_true, Bool.not_eq_true', Bool.not_eq_false', Bool.and_eq_false_iff, Bool.or_eq_false_iff, decide_eq_true_eq, decide_eq_false_iff_not, beq_iff_eq, bne_iff_ne, beq_eq_false_iff_ne, bne_eq_false_iff_eq, ne_eq, Bool.false_eq_true, not_false_eq_true, not_true_eq_false, vIn_t, vIn_f] at hp8
                  refine CE.draw (fun | 3 => some (fun _ wA uA wB => uA = vI ((nI : Nat) : Int) ∧ wA = wB) | 4 => some (fun _ wA uA wB => uA = .bool (evI ((es.getD i EvR.d).at_) ((es.getD i EvR.d).kind) ((es.getD i EvR.d).ins) ((es.getD i EvR.d).key) ((es.getD i EvR.d).force) ((nI : Nat) : Int)) ∧ Mod [] wA wB) | 11 => some (fun _ wA uA wB => uA = .bool (vIn ((es.getD i EvR.d).note) (0 : Int) ((nE / 2 - 1 : Nat) : Int)) ∧ wA = wB) | _ => none) [0, 1, 2, 3, 4, 5, 6, 7, 8, 9, 10, 11, 12, 13, 14, 15, 16, 17, 18, 19, 20, 21, 22, 23, 24, 25] [26, 27, 28, 29] [] (by kernel_rfl) (by kernel_rfl) ?_
                  have md3 : Mod [] w10 w10.drew := (Mod.refl _ _).drew
                  generalize w10.drew = w18 at md3 ⊢
                  refine DR.det (i := 0) rfl rfl (by kernel_rfl) (.free rfl) rfl rfl (fun wD mD => op_loadA (i := 0) (cs := [vI ((es.getD i EvR.d).at_), vI ((es.getD i EvR.d).kind), vI ((es.getD i EvR.d).note), vI ((es.getD i EvR.d).ins), vI ((es.getD i EvR.d).key), vF ((es.getD i EvR.d).force)]) rfl Tryd.isAgg72 Tryd.sizeOf72 ((r8.ext md3).ext mD).rng rfl rfl rfl) ?_
                  refine DR.det (i := 1) rfl rfl (by kernel_rfl) (.free rfl) rfl rfl (fun wD mD => op_fieldAddr (off' := 4) rfl Tryd.runUnderlying43 rfl rfl Tryd.sizeOf40 rfl) ?_
                  refine DR.det (i := 2) rfl rfl (by kernel_rfl) (.free rfl) rfl rfl (fun wD mD => op_load1 (i := 4) rfl Tryd.isAgg40 (((((((((((r1.ext m2).ext m3).ext m4).ext m5).ext m6).ext m7).mod m8 (nC (lE (lL (lL r1.lt (lT (lT (lT m2.size m3.size) m4.size) m5.size)) lR)) nN)).ext m9).mod m10 (nC (lE (lL (lL r1.lt (lT (lT (lT (lT (lT (lT m2.size m3.size) m4.size) m5.size) m6.size) m7.size) m8.size)) lR)) nN)).ext md3).ext mD).rng rfl rfl) ?_
                  refine DR.call (i := 3) (fun uA => uA = vI ((nI : Nat) : Int)) rfl rfl (by kernel_rfl) (.free rfl) rfl (ltb rfl) ⟨_, rfl⟩ (vs := [.func (.func 50) #[] #[], vS bI 0 nI nI]) rfl (fun wD mD => oc_call (vs := [vS bI 0 nI nI]) (cap := []) rfl rfl rfl Tryd.call50 (c_lengthI nI nI (some ⟨bI, 0, none⟩) wD)) ?_ ?_
                  · rintro w1 _ _ m1 ⟨rfl, rfl⟩; exact ⟨rfl, Mod.refl _ _⟩
                  rintro _ rfl
                  refine DR.call (i := 4) (fun uA => uA = .bool (evI ((es.getD i EvR.d).at_) ((es.getD i EvR.d).kind) ((es.getD i EvR.d).ins) ((es.getD i EvR.d).key) ((es.getD i EvR.d).force) ((nI : Nat) : Int))) rfl rfl (by kernel_rfl) (.free rfl) rfl (ltb rfl) ⟨_, rfl⟩ (vs := [.func (.func 49) #[] #[], .agg #[vI ((es.getD i EvR.d).at_), vI ((es.getD i EvR.d).kind), vI ((es.getD i EvR.d).note), vI ((es.getD i EvR.d).ins), vI ((es.getD i EvR.d).key), vF ((es.getD i EvR.d).force)], vI ((nI : Nat) : Int)]) rfl (fun wD mD => oc_call (vs := [.agg #[vI ((es.getD i EvR.d).at_), vI ((es.getD i EvR.d).kind), vI ((es.getD i EvR.d).note), vI ((es.getD i EvR.d).ins), vI ((es.getD i EvR.d).key), vF ((es.getD i EvR.d).force)], vI ((nI : Nat) : Int)]) (cap := []) rfl rfl rfl Tryd.call49 (c_isEvent ((es.getD i EvR.d).at_) ((es.getD i EvR.d).kind) ((es.getD i EvR.d).note) ((es.getD i EvR.d).ins) ((es.getD i EvR.d).key) ((es.getD i EvR.d).force) ((nI : Nat) : Int) (by omega) (by omega) wD)) ?_ ?_
                  · rintro w1 _ w2 m1 ⟨rfl, m2⟩; exact ⟨rfl, m2⟩
                  rintro _ rfl
                  refine DR.det (i := 5) rfl rfl (by kernel_rfl) (.free rfl) rfl rfl (fun wD mD => op_not rfl) ?_
                  refine DR.det (i := 6) rfl rfl (by kernel_rfl) (.free rfl) rfl rfl (fun wD mD => op_move rfl) ?_
                  refine DR.det (i := 7) rfl rfl (by kernel_rfl) (.yes rfl rfl rfl (ltb rfl) rfl (bnot_t hb7)) rfl rfl (fun wD mD => op_fieldAddr (off' := 2) rfl Tryd.runUnderlying72 rfl rfl Tryd.sizeOf2 rfl) ?_
                  refine DR.det (i := 8) rfl rfl (by kernel_rfl) (.yes rfl rfl rfl (ltb rfl) rfl (bnot_t hb7)) rfl rfl (fun wD mD => op_load1 (i := 2) rfl Tryd.isAgg2 ((r8.ext md3).ext mD).rng rfl rfl) ?_
                  refine DR.det (i := 9) rfl rfl (by kernel_rfl) (.yes rfl rfl rfl (ltb rfl) rfl (bnot_t hb7)) rfl rfl (fun wD mD => op_move rfl) ?_
                  refine DR.det (i := 10) rfl rfl (by kernel_rfl) (.yes rfl rfl rfl (ltb rfl) rfl (bnot_t hb7)) rfl rfl (fun wD mD => op_sub (r := ((nE / 2 - 1 : Nat) : Int)) rfl rfl (w_nsub (l := nE / 2) (n := 1) (by omega) (by omega))) ?_
                  refine DR.call (i := 11) (fun uA => uA = .bool (vIn ((es.getD i EvR.d).note) (0 : Int) ((nE / 2 - 1 : Nat) : Int))) rfl rfl (by kernel_rfl) (.yes rfl rfl rfl (ltb rfl) rfl (bnot_t hb7)) rfl (ltb rfl) ⟨_, rfl⟩ (vs := [.func (.func 51) #[] #[], vI ((es.getD i EvR.d).note), vI 0, vI ((nE / 2 - 1 : Nat) : Int)]) rfl (fun wD mD => oc_call (vs := [vI ((es.getD i EvR.d).note), vI 0, vI ((nE / 2 - 1 : Nat) : Int)]) (cap := []) rfl rfl rfl Tryd.call51 (c_within ((es.getD i EvR.d).note) (0 : Int) ((nE / 2 - 1 : Nat) : Int) wD)) ?_ ?_
                  · rintro w1 _ _ m1 ⟨rfl, rfl⟩; exact ⟨rfl, Mod.refl _ _⟩
                  rintro _ rfl
                  refine DR.det (i := 12) rfl rfl (by kernel_rfl) (.yes rfl rfl rfl (ltb rfl) rfl (bnot_t hb7)) rfl rfl (fun wD mD => op_not rfl) ?_
                  refine DR.det (i := 13) rfl rfl (by kernel_rfl) (.free rfl) rfl rfl (fun wD mD => op_pick_f rfl (bnot_t hb7) rfl) ?_
                  refine DR.det (i := 14) rfl rfl (by kernel_rfl) (.free rfl) rfl rfl (fun wD mD => op_move rfl) ?_
                  refine DR.skip (i := 15) rfl (by kernel_rfl) (.no rfl rfl rfl (ltb rfl) rfl (bnot_f hb8)) rfl (ltb rfl) ?_
                  refine DR.skip (i := 16) rfl (by kernel_rfl) (.no rfl rfl rfl (ltb rfl) rfl (bnot_f hb8)) rfl (ltb rfl) ?_
                  refine DR.skip (i := 17) rfl (by kernel_rfl) (.no rfl rfl rfl (ltb rfl) rfl (bnot_f hb8)) rfl (ltb rfl) ?_
                  refine DR.skip (i := 18) rfl (by kernel_rfl) (.nou rfl rfl rfl (ltb rfl) rfl) rfl (ltb rfl) ?_
                  refine DR.skip (i := 19) rfl (by kernel_rfl) (.nou rfl rfl rfl (ltb rfl) rfl) rfl (ltb rfl) ?_
                  refine DR.skip (i := 20) rfl (by kernel_rfl) (.nou rfl rfl rfl (ltb rfl) rfl) rfl (ltb rfl) ?_
                  refine DR.skip (i := 21) rfl (by kernel_rfl) (.nou rfl rfl rfl (ltb rfl) rfl) rfl (ltb rfl) ?_
                  refine DR.skip (i := 22) rfl (by kernel_rfl) (.nou rfl rfl rfl (ltb rfl) rfl) rfl (ltb rfl) ?_
                  refine DR.skip (i := 23) rfl (by kernel_rfl) (.nou rfl rfl rfl (ltb rfl) rfl) rfl (ltb rfl) ?_
                  refine DR.skip (i := 24) rfl (by kernel_rfl) (.nou rfl rfl rfl (ltb rfl) rfl) rfl (ltb rfl) ?_
                  refine DR.skip (i := 25) rfl (by kernel_rfl) (.nou rfl rfl rfl (ltb rfl) rfl) rfl (ltb rfl) ?_
                  refine DR.done rfl ?_
                  intro w19 m16
                  refine WO.skip rfl (.nou rfl rfl rfl (ltb rfl) rfl) rfl (ltb rfl) ?_
                  refine WO.skip rfl (.nou rfl rfl rfl (ltb rfl) rfl) rfl (ltb rfl) ?_
                  refine WO.skip rfl (.no rfl rfl rfl (ltb rfl) rfl (bnot_f hb8)) rfl (ltb rfl) ?_
                  refine WO.det (op_pick_t rfl (bnot_f hb8) rfl) rfl (.free rfl) rfl rfl ?_
                  refine WO.end ?_
                  refine NE.code ?_
                  refine CE.cond_t rfl rfl ?_
                  refine CE.seq ?_
                  refine CE.region ?_
                  refine WL.det (op_assign rfl) rfl rfl rfl ?_
                  refine WL.end ?_
                  refine NE.code ?_
                  refine CE.ret' ?_
                  refine XE.ret_then ?_
                  refine XE.ret_blk ?_
                  refine XE.ret_then ?_
                  refine XE.ret_then ?_
                  refine XE.ret_blk ?_
                  refine XE.ret_then ?_
                  refine XE.leave1 Tryd.results16 rfl ?_
                  refine ⟨?_, (((((((((((((Mod.refl [] w).nt m1).nt m2).nt m3).nt m4).nt m5).nt m6).nt m7).then m8 ((aC (.inr (lT (lT (lT (lT (lT m1.size m2.size) m3.size) m4.size) m5.size) lR)) aN))).nt m9).then m10 ((aC (.inr (lT (lT (lT (lT (lT (lT (lT (lT m1.size m2.size) m3.size) m4.size) m5.size) m6.size) m7.size) m8.size) lR)) aN))).nt md3).nt m16)⟩
                  all_goals first | exact congrArg Value.bool (sc_f (by rintro ⟨a1, a2, a3, a4⟩; first | (have h9 : vRate ra = false := (by assumption); rw [a1] at h9; cases h9) | (have h9 : tunF ba oc esD nD = false := (by assumption); rw [a2] at h9; cases h9) | (have h9 : insF esI nI = false := (by assumption); rw [a3] at h9; cases h9) | (rw [evP_fn (by omega)] at a4; cases a4) | (rw [evP_f1 (evI1_out (i := i) (by omega) (by exact stepI_f (by rintro ⟨a1, a2, a3, a4⟩; rw [vIn_t] at a2; first | omega | (have h9 : evI _ _ _ _ _ _ = false := (by assumption); rw [a1] at h9; cases h9) | (have h9 := a3 (by omega); unfold ordI at h9; omega) | (have h9 := a4 (by assumption); first | omega | (have h8 : (startsF es nE (es.getD i EvR.d).note).isSome = false := (by assumption); rw [h9.1] at h8; cases h8) | (have h8 : lkB (stopsF es i (es.getD i EvR.d).note) = true := (by assumption); rw [h9.2.2] at h8; cases h8)))))] at a4; cases a4))).symm | (have e9 : i = nE := (by omega); rw [e9] at hu; (try rw [e9]); unfold vScP; rw [(by assumption : vRate ra = true), (by assumption : tunF ba oc esD nD = true), (by assumption : insF esI nI = true), evP_t (by omega) (by omega) hu]; have q9 := beq_cast (startsN es nE) (nE / 2); first | (have h9 : (((startsN es nE : Nat) : Int) == ((nE / 2 : Nat) : Int)) = true := (by assumption); rw [q9] at h9; rw [h9, beq_cast]; rfl) | (have h9 : (((startsN es nE : Nat) : Int) == ((nE / 2 : Nat) : Int)) = false := (by assumption); rw [q9] at h9; rw [h9]; rfl))
              · refine CE.draw (fun | 3 => some (fun _ wA uA wB => uA = vI ((nI : Nat) : Int) ∧ wA = wB) | 4 => some (fun _ wA uA wB => uA = .bool (evI ((es.getD i EvR.d).at_) ((es.getD i EvR.d).kind) ((es.getD i EvR.d).ins) ((es.getD i EvR.d).key) ((es.getD i EvR.d).force) ((nI : Nat) : Int)) ∧ Mod [] wA wB) | _ => none) [0, 1, 2, 3, 4, 5, 6, 7, 8, 9, 10, 11, 12, 13, 14, 15, 16, 17, 18, 19, 20, 21, 22, 23, 24, 25] [26, 27, 28, 29] [] (by kernel_rfl) (by kernel_rfl) ?_
                have md4 : Mod [] w10 w10.drew := (Mod.refl _ _).drew
                generalize w10.drew = w20 at md4 ⊢
                refine DR.det (i := 0) rfl rfl (by kernel_rfl) (.free rfl) rfl rfl (fun wD mD => op_loadA (i := 0) (cs := [vI ((es.getD i EvR.d).at_), vI ((es.getD i EvR.d).kind), vI ((es.getD i EvR.d).note), vI ((es.getD i EvR.d).ins), vI ((es.getD i EvR.d).key), vF ((es.getD i EvR.d).force)]) rfl Tryd.isAgg72 Tryd.sizeOf72 ((r8.ext md4).ext mD).rng rfl rfl rfl) ?_
                refine DR.det (i := 1) rfl rfl (by kernel_rfl) (.free rfl) rfl rfl (fun wD mD => op_fieldAddr (off' := 4) rfl Tryd.runUnderlying43 rfl rfl Tryd.sizeOf40 rfl) ?_
                refine DR.det (i := 2) rfl rfl (by kernel_rfl) (.free rfl) rfl rfl (fun wD mD => op_load1 (i := 4) rfl Tryd.isAgg40 (((((((((((r1.ext m2).ext m3).ext m4).ext m5).ext m6).ext m7).mod m8 (nC (lE (lL (lL r1.lt (lT (lT (lT m2.size m3.size) m4.size) m5.size)) lR)) nN)).ext m9).mod m10 (nC (lE (lL (lL r1.lt (lT (lT (lT (lT (lT (lT m2.size m3.size) m4.size) m5.size) m6.size) m7.size) m8.size)) lR)) nN)).ext md4).ext mD).rng rfl rfl) ?_
                refine DR.call (i := 3) (fun uA => uA = vI ((nI : Nat) : Int)) rfl rfl (by kernel_rfl) (.free rfl) rfl (ltb rfl) ⟨_, rfl⟩ (vs := [.func (.func 50) #[] #[], vS bI 0 nI nI]) rfl (fun wD mD => oc_call (vs := [vS bI 0 nI nI]) (cap := []) rfl rfl rfl Tryd.call50 (c_lengthI nI nI (some ⟨bI, 0, none⟩) wD)) ?_ ?_
                · rintro w1 _ _ m1 ⟨rfl, rfl⟩; exact ⟨rfl, Mod.refl _ _⟩
                rintro _ rfl
                refine DR.call (i := 4) (fun uA => uA = .bool (evI ((es.getD i EvR.d).at_) ((es.getD i EvR.d).kind) ((es.getD i EvR.d).ins) ((es.getD i EvR.d).key) ((es.getD i EvR.d).force) ((nI : Nat) : Int))) rfl rfl (by kernel_rfl) (.free rfl) rfl (ltb rfl) ⟨_, rfl⟩ (vs := [.func (.func 49) #[] #[], .agg #[vI ((es.getD i EvR.d).at_), vI ((es.getD i EvR.d).kind), vI ((es.getD i EvR.d).note), vI ((es.getD i EvR.d).ins), vI ((es.getD i EvR.d).key), vF ((es.getD i EvR.d).force)], vI ((nI : Nat) : Int)]) rfl (fun wD mD => oc_call (vs := [.agg #[vI ((es.getD i EvR.d).at_), vI ((es.getD i EvR.d).kind), vI ((es.getD i EvR.d).note), vI ((es.getD i EvR.d).ins), vI ((es.getD i EvR.d).key), vF ((es.getD i EvR.d).force)], vI ((nI : Nat) : Int)]) (cap := []) rfl rfl rfl Tryd.call49 (c_isEvent ((es.getD i EvR.d).at_) ((es.getD i EvR.d).kind) ((es.getD i EvR.d).note) ((es.getD i EvR.d).ins) ((es.getD i EvR.d).key) ((es.getD i EvR.d).force) ((nI : Nat) : Int) (by omega) (by omega) wD)) ?_ ?_
                · rintro w1 _ w2 m1 ⟨rfl, m2⟩; exact ⟨rfl, m2⟩
                rintro _ rfl
                refine DR.det (i := 5) rfl rfl (by kernel_rfl) (.free rfl) rfl rfl (fun wD mD => op_not rfl) ?_
                refine DR.det (i := 6) rfl rfl (by kernel_rfl) (.free rfl) rfl rfl (fun wD mD => op_move rfl) ?_
                refine DR.skip (i := 7) rfl (by kernel_rfl) (.no rfl rfl rfl (ltb rfl) rfl (bnot_f hb7)) rfl (ltb rfl) ?_
                refine DR.skip (i := 8) rfl (by kernel_rfl) (.no rfl rfl rfl (ltb rfl) rfl (bnot_f hb7)) rfl (ltb rfl) ?_
                refine DR.skip (i := 9) rfl (by kernel_rfl) (.no rfl rfl rfl (ltb rfl) rfl (bnot_f hb7)) rfl (ltb rfl) ?_
                refine DR.skip (i := 10) rfl (by kernel_rfl) (.no rfl rfl rfl (ltb rfl) rfl (bnot_f hb7)) rfl (ltb rfl) ?_
                refine DR.skip (i := 11) rfl (by kernel_rfl) (.no rfl rfl rfl (ltb rfl) rfl (bnot_f hb7)) rfl (ltb rfl) ?_
                refine DR.skip (i := 12) rfl (by kernel_rfl) (.no rfl rfl rfl (ltb rfl) rfl (bnot_f hb7)) rfl (ltb rfl) ?_
                refine DR.det (i := 13) rfl rfl (by kernel_rfl) (.free rfl) rfl rfl (fun wD mD => op_pick_t rfl (bnot_f hb7) rfl) ?_
                refine DR.det (i := 14) rfl rfl (by kernel_rfl) (.free rfl) rfl rfl (fun wD mD => op_move rfl) ?_
                refine DR.skip (i := 15) rfl (by kernel_rfl) (.no rfl rfl rfl (ltb rfl) rfl rfl) rfl (ltb rfl) ?_
                refine DR.skip (i := 16) rfl (by kernel_rfl) (.no rfl rfl rfl (ltb rfl) rfl rfl) rfl (ltb rfl) ?_
                refine DR.skip (i := 17) rfl (by kernel_rfl) (.no rfl rfl rfl (ltb rfl) rfl rfl) rfl (ltb rfl) ?_
                refine DR.skip (i := 18) rfl (by kernel_rfl) (.nou rfl rfl rfl (ltb rfl) rfl) rfl (ltb rfl) ?_
                refine DR.skip (i := 19) rfl (by kernel_rfl) (.nou rfl rfl rfl (ltb rfl) rfl) rfl (ltb rfl) ?_
                refine DR.skip (i := 20) rfl (by kernel_rfl) (.nou rfl rfl rfl (ltb rfl) rfl) rfl (ltb rfl) ?_
                refine DR.skip (i := 21) rfl (by kernel_rfl) (.nou rfl rfl rfl (ltb rfl) rfl) rfl (ltb rfl) ?_
                refine DR.skip (i := 22) rfl (by kernel_rfl) (.nou rfl rfl rfl (ltb rfl) rfl) rfl (ltb rfl) ?_
                refine DR.skip (i := 23) rfl (by kernel_rfl) (.nou rfl rfl rfl (ltb rfl) rfl) rfl (ltb rfl) ?_
                refine DR.skip (i := 24) rfl (by kernel_rfl) (.nou rfl rfl rfl (ltb rfl) rfl) rfl (ltb rfl) ?_
                refine DR.skip (i := 25) rfl (by kernel_rfl) (.nou rfl rfl rfl (ltb rfl) rfl) rfl (ltb rfl) ?_
                refine DR.done rfl ?_
                intro w21 m17
                refine WO.skip rfl (.nou rfl rfl rfl (ltb rfl) rfl) rfl (ltb rfl) ?_
                refine WO.skip rfl (.nou rfl rfl rfl (ltb rfl) rfl) rfl (ltb rfl) ?_
                refine WO.skip rfl (.no rfl rfl rfl (ltb rfl) rfl rfl) rfl (ltb rfl) ?_
                refine WO.det (op_pick_t rfl rfl rfl) rfl (.free rfl) rfl rfl ?_
                refine WO.end ?_
                refine NE.code ?_
                refine CE.cond_t rfl rfl ?_
                refine CE.seq ?_
                refine CE.region ?_
                refine WL.det (op_assign rfl) rfl rfl rfl ?_
                refine WL.end ?_
                refine NE.code ?_
                refine CE.ret' ?_
                refine XE.ret_then ?_
                refine XE.ret_blk ?_
                refine XE.ret_then ?_
                refine XE.ret_then ?_
                refine XE.ret_blk ?_
                refine XE.ret_then ?_
                refine XE.leave1 Tryd.results16 rfl ?_
                refine ⟨?_, (((((((((((((Mod.refl [] w).nt m1).nt m2).nt m3).nt m4).nt m5).nt m6).nt m7).then m8 ((aC (.inr (lT (lT (lT (lT (lT m1.size m2.size) m3.size) m4.size) m5.size) lR)) aN))).nt m9).then m10 ((aC (.inr (lT (lT (lT (lT (lT (lT (lT (lT m1.size m2.size) m3.size) m4.size) m5.size) m6.size) m7.size) m8.size) lR)) aN))).nt md4).nt m17)⟩
                all_goals first | exact congrArg Value.bool (sc_f (by rintro ⟨a1, a2, a3, a4⟩; first | (have h9 : vRate ra = false := (by assumption); rw [a1] at h9; cases h9) | (have h9 : tunF ba oc esD nD = false := (by assumption); rw [a2] at h9; cases h9) | (have h9 : insF esI nI = false := (by assumption); rw [a3] at h9; cases h9) | (rw [evP_fn (by omega)] at a4; cases a4) | (rw [evP_f1 (evI1_out (i := i) (by omega) (by exact stepI_f (by rintro ⟨a1, a2, a3, a4⟩; rw [vIn_t] at a2; first | omega | (have h9 : evI _ _ _ _ _ _ = false := (by assumption); rw [a1] at h9; cases h9) | (have h9 := a3 (by omega); unfold ordI at h9; omega) | (have h9 := a4 (by assumption); first | omega | (have h8 : (startsF es nE (es.getD i EvR.d).note).isSome = false := (by assumption); rw [h9.1] at h8; cases h8) | (have h8 : lkB (stopsF es i (es.getD i EvR.d).note) = true := (by assumption); rw [h9.2.2] at h8; cases h8)))))] at a4; cases a4))).symm | (have e9 : i = nE := (by omega); rw [e9] at hu; (try rw [e9]); unfold vScP; rw [(by assumption : vRate ra = true), (by assumption : tunF ba oc esD nD = true), (by assumption : insF esI nI = true), evP_t (by omega) (by omega) hu]; have q9 := beq_cast (startsN es nE) (nE / 2); first | (have h9 : (((startsN es nE : Nat) : Int) == ((nE / 2 : Nat) : Int)) = true := (by assumption); rw [q9] at h9; rw [h9, beq_cast]; rfl) | (have h9 : (((startsN es nE : Nat) : Int) == ((nE / 2 : Nat) : Int)) = false := (by assumption); rw [q9] at h9; rw [h9]; rfl))
            · have hp6 := of_decide_eq_false hb6
              refine CE.cond_f rfl hb6 ?_
              refine CE.exit' ?_
              refine XE.exit_then ?_
              refine XE.exit_then ?_
              refine XE.exit_here ?_
              refine NE.code ?_
              refine CE.seq ?_
              refine CE.region ?_
              refine WL.det (op_move rfl) rfl rfl rfl ?_
              refine WL.det (op_lenMap Tryd.underlying73 rfl (((r2.ext m6).ext m7).mod m8 (nC (lE (lL r2.lt lR)) nN))) rfl rfl rfl ?_
              refine WL.det (op_move rfl) rfl rfl rfl ?_
              refine WL.det (op_eqi rfl rfl) rfl rfl rfl ?_
              refine WL.det (op_move rfl) rfl rfl rfl ?_
              rcases Bool.eq_false_or_eq_true ((((startsN es nE : Nat) : Int) == ((nE / 2 : Nat) : Int))) with hb19 | hb19
              · have hp19 := eq_of_beq hb19
                refine WL.yes rfl rfl rfl (ltb rfl) rfl hb19 ?_
                refine WL.det (op_move rfl) rfl rfl rfl ?_
                refine WL.yes rfl rfl rfl (ltb rfl) rfl hb19 ?_
                refine WL.det (op_lenMap Tryd.underlying75 rfl r5) rfl rfl rfl ?_
                refine WL.yes rfl rfl rfl (ltb rfl) rfl hb19 ?_
                refine WL.det (op_move rfl) rfl rfl rfl ?_
                refine WL.yes rfl rfl rfl (ltb rfl) rfl hb19 ?_
                refine WL.det (op_eqi rfl rfl) rfl rfl rfl ?_
                refine WL.det (op_pick_t rfl hb19 rfl) rfl rfl rfl ?_
                refine WL.det (op_assign rfl) rfl rfl rfl ?_
                refine WL.end ?_
                refine NE.code ?_
                refine CE.ret' ?_
                refine XE.leave1 Tryd.results16 rfl ?_
                refine ⟨?_, (((((((((Mod.refl [] w).nt m1).nt m2).nt m3).nt m4).nt m5).nt m6).nt m7).then m8 ((aC (.inr (lT (lT (lT (lT (lT m1.size m2.size) m3.size) m4.size) m5.size) lR)) aN)))⟩
                all_goals first | exact congrArg Value.bool (sc_f (by rintro ⟨a1, a2, a3, a4⟩; first | (have h9 : vRate ra = false := (by assumption); rw [a1] at h9; cases h9) | (have h9 : tunF ba oc esD nD = false := (by assumption); rw [a2] at h9; cases h9) | (have h9 : insF esI nI = false := (by assumption); rw [a3] at h9; cases h9) | (rw [evP_fn (by omega)] at a4; cases a4) | (rw [evP_f1 (evI1_out (i := i) (by omega) (by exact stepI_f (by rintro ⟨a1, a2, a3, a4⟩; rw [vIn_t] at a2; first | omega | (have h9 : evI _ _ _ _ _ _ = false := (by assumption); rw [a1] at h9; cases h9) | (have h9 := a3 (by omega); unfold ordI at h9; omega) | (have h9 := a4 (by assumption); first | omega | (have h8 : (startsF es nE (es.getD i EvR.d).note).isSome = false := (by assumption); rw [h9.1] at h8; cases h8) | (have h8 : lkB (stopsF es i (es.getD i EvR.d).note) = true := (by assumption); rw [h9.2.2] at h8; cases h8)))))] at a4; cases a4))).symm | (have e9 : i = nE := (by omega); rw [e9] at hu; (try rw [e9]); unfold vScP; rw [(by assumption : vRate ra = true), (by assumption : tunF ba oc esD nD = true), (by assumption : insF esI nI = true), evP_t (by omega) (by omega) hu]; have q9 := beq_cast (startsN es nE) (nE / 2); first | (have h9 : (((startsN es nE : Nat) : Int) == ((nE / 2 : Nat) : Int)) = true := (by assumption); rw [q9] at h9; rw [h9, beq_cast]; rfl) | (have h9 : (((startsN es nE : Nat) : Int) == ((nE / 2 : Nat) : Int)) = false := (by assumption); rw [q9] at h9; rw [h9]; rfl))
              · have hp19 := ne_of_beq_false hb19
                refine WL.no rfl rfl rfl (ltb rfl) rfl hb19 rfl (ltb rfl) ?_
                refine WL.no rfl rfl rfl (ltb rfl) rfl hb19 rfl (ltb rfl) ?_
                refine WL.no rfl rfl rfl (ltb rfl) rfl hb19 rfl (ltb rfl) ?_
                refine WL.no rfl rfl rfl (ltb rfl) rfl hb19 rfl (ltb rfl) ?_
                refine WL.det (op_pick_f rfl hb19 rfl) rfl rfl rfl ?_
                refine WL.det (op_assign rfl) rfl rfl rfl ?_
                refine WL.end ?_
                refine NE.code ?_
                refine CE.ret' ?_
                refine XE.leave1 Tryd.results16 rfl ?_
                refine ⟨?_, (((((((((Mod.refl [] w).nt m1).nt m2).nt m3).nt m4).nt m5).nt m6).nt m7).then m8 ((aC (.inr (lT (lT (lT (lT (lT m1.size m2.size) m3.size) m4.size) m5.size) lR)) aN)))⟩
                all_goals first | exact congrArg Value.bool (sc_f (by rintro ⟨a1, a2, a3, a4⟩; first | (have h9 : vRate ra = false := (by assumption); rw [a1] at h9; cases h9) | (have h9 : tunF ba oc esD nD = false := (by assumption); rw [a2] at h9; cases h9) | (have h9 : insF esI nI = false := (by assumption); rw [a3] at h9; cases h9) | (rw [evP_fn (by omega)] at a4; cases a4) | (rw [evP_f1 (evI1_out (i := i) (by omega) (by exact stepI_f (by rintro ⟨a1, a2, a3, a4⟩; rw [vIn_t] at a2; first | omega | (have h9 : evI _ _ _ _ _ _ = false := (by assumption); rw [a1] at h9; cases h9) | (have h9 := a3 (by omega); unfold ordI at h9; omega) | (have h9 := a4 (by assumption); first | omega | (have h8 : (startsF es nE (es.getD i EvR.d).note).isSome = false := (by assumption); rw [h9.1] at h8; cases h8) | (have h8 : lkB (stopsF es i (es.getD i EvR.d).note) = true := (by assumption); rw [h9.2.2] at h8; cases h8)))))] at a4; cases a4))).symm | (have e9 : i = nE := (by omega); rw [e9] at hu; (try rw [e9]); unfold vScP; rw [(by assumption : vRate ra = true), (by assumption : tunF ba oc esD nD = true), (by assumption : insF esI nI = true), evP_t (by omega) (by omega) hu]; have q9 := beq_cast (startsN es nE) (nE / 2); first | (have h9 : (((startsN es nE : Nat) : Int) == ((nE / 2 : Nat) : Int)) = true := (by assumption); rw [q9] at h9; rw [h9, beq_cast]; rfl) | (have h9 : (((startsN es nE : Nat) : Int) == ((nE / 2 : Nat) : Int)) = false := (by assumption); rw [q9] at h9; rw [h9]; rfl))
      · refine WL.no rfl rfl rfl (ltb rfl) rfl (bnot_f hb3) rfl (ltb rfl) ?_
        refine WL.no rfl rfl rfl (ltb rfl) rfl (bnot_f hb3) rfl (ltb rfl) ?_
        refine WL.no rfl rfl rfl (ltb rfl) rfl (bnot_f hb3) rfl (ltb rfl) ?_
        refine WL.no rfl rfl rfl (ltb rfl) rfl (bnot_f hb3) rfl (ltb rfl) ?_
        refine WL.no rfl rfl rfl (ltb rfl) rfl (bnot_f hb3) rfl (ltb rfl) ?_
        refine WL.det (op_pick_t rfl (bnot_f hb3) rfl) rfl rfl rfl ?_
        refine WL.det (op_move rfl) rfl rfl rfl ?_
        refine WL.no rfl rfl rfl (ltb rfl) rfl rfl rfl (ltb rfl) ?_
        refine WL.no rfl rfl rfl (ltb rfl) rfl rfl rfl (ltb rfl) ?_
        refine WL.no rfl rfl rfl (ltb rfl) rfl rfl rfl (ltb rfl) ?_
        refine WL.no rfl rfl rfl (ltb rfl) rfl rfl rfl (ltb rfl) ?_
        refine WL.det (op_pick_t rfl rfl rfl) rfl rfl rfl ?_
        refine WL.end ?_
        refine NE.code ?_
        refine CE.cond_t rfl rfl ?_
        refine CE.seq ?_
        refine CE.region ?_
        refine WL.det (op_assign rfl) rfl rfl rfl ?_
        refine WL.end ?_
        refine NE.code ?_
        refine CE.ret' ?_
        refine XE.ret_then ?_
        refine XE.leave1 Tryd.results16 rfl ?_
        refine ⟨?_, (((((Mod.refl [] w).nt m1).nt m2).nt m3).nt m4)⟩
        all_goals first | exact congrArg Value.bool (sc_f (by rintro ⟨a1, a2, a3, a4⟩; first | (have h9 : vRate ra = false := (by assumption); rw [a1] at h9; cases h9) | (have h9 : tunF ba oc esD nD = false := (by assumption); rw [a2] at h9; cases h9) | (have h9 : insF esI nI = false := (by assumption); rw [a3] at h9; cases h9) | (rw [evP_fn (by omega)] at a4; cases a4) | (rw [evP_f1 (evI1_out (i := i) (by omega) (by exact stepI_f (by rintro ⟨a1, a2, a3, a4⟩; rw [vIn_t] at a2; first | omega | (have h9 : evI _ _ _ _ _ _ = false := (by assumption); rw [a1] at h9; cases h9) | (have h9 := a3 (by omega); unfold ordI at h9; omega) | (have h9 := a4 (by assumption); first | omega | (have h8 : (startsF es nE (es.getD i EvR.d).note).isSome = false := (by assumption); rw [h9.1] at h8; cases h8) | (have h8 : lkB (stopsF es i (es.getD i EvR.d).note) = true := (by assumption); rw [h9.2.2] at h8; cases h8)))))] at a4; cases a4))).symm | (have e9 : i = nE := (by omega); rw [e9] at hu; (try rw [e9]); unfold vScP; rw [(by assumption : vRate ra = true), (by assumption : tunF ba oc esD nD = true), (by assumption : insF esI nI = true), evP_t (by omega) (by omega) hu]; have q9 := beq_cast (startsN es nE) (nE / 2); first | (have h9 : (((startsN es nE : Nat) : Int) == ((nE / 2 : Nat) : Int)) = true := (by assumption); rw [q9] at h9; rw [h9, beq_cast]; rfl) | (have h9 : (((startsN es nE : Nat) : Int) == ((nE / 2 : Nat) : Int)) = false := (by assumption); rw [q9] at h9; rw [h9]; rfl))
    · refine WL.no rfl rfl rfl (ltb rfl) rfl (bnot_f hb2) rfl (ltb rfl) ?_
      refine WL.no rfl rfl rfl (ltb rfl) rfl (bnot_f hb2) rfl (ltb rfl) ?_
      refine WL.no rfl rfl rfl (ltb rfl) rfl (bnot_f hb2) rfl (ltb rfl) ?_
      refine WL.no rfl rfl rfl (ltb rfl) rfl (bnot_f hb2) rfl (ltb rfl) ?_
      refine WL.det (op_pick_t rfl (bnot_f hb2) rfl) rfl rfl rfl ?_
      refine WL.det (op_move rfl) rfl rfl rfl ?_
      refine WL.no rfl rfl rfl (ltb rfl) rfl rfl rfl (ltb rfl) ?_
      refine WL.no rfl rfl rfl (ltb rfl) rfl rfl rfl (ltb rfl) ?_
      refine WL.no rfl rfl rfl (ltb rfl) rfl rfl rfl (ltb rfl) ?_
      refine WL.no rfl rfl rfl (ltb rfl) rfl rfl rfl (ltb rfl) ?_
      refine WL.no rfl rfl rfl (ltb rfl) rfl rfl rfl (ltb rfl) ?_
      refine WL.det (op_pick_t rfl rfl rfl) rfl rfl rfl ?_
      refine WL.det (op_move rfl) rfl rfl rfl ?_
      refine WL.no rfl rfl rfl (ltb rfl) rfl rfl rfl (ltb rfl) ?_
      refine WL.no rfl rfl rfl (ltb rfl) rfl rfl rfl (ltb rfl) ?_
      refine WL.no rfl rfl rfl (ltb rfl) rfl rfl rfl (ltb rfl) ?_
      refine WL.no rfl rfl rfl (ltb rfl) rfl rfl rfl (ltb rfl) ?_
      refine WL.det (op_pick_t rfl rfl rfl) rfl rfl rfl ?_
      refine WL.end ?_
      refine NE.code ?_
      refine CE.cond_t rfl rfl ?_
      refine CE.seq ?_
      refine CE.region ?_
      refine WL.det (op_assign rfl) rfl rfl rfl ?_
      refine WL.end ?_
      refine NE.code ?_
      refine CE.ret' ?_
      refine XE.ret_then ?_
      refine XE.leave1 Tryd.results16 rfl ?_
      refine ⟨?_, ((((Mod.refl [] w).nt m1).nt m2).nt m3)⟩
      all_goals first | exact congrArg Value.bool (sc_f (by rintro ⟨a1, a2, a3, a4⟩; first | (have h9 : vRate ra = false := (by assumption); rw [a1] at h9; cases h9) | (have h9 : tunF ba oc esD nD = false := (by assumption); rw [a2] at h9; cases h9) | (have h9 : insF esI nI = false := (by assumption); rw [a3] at h9; cases h9) | (rw [evP_fn (by omega)] at a4; cases a4) | (rw [evP_f1 (evI1_out (i := i) (by omega) (by exact stepI_f (by rintro ⟨a1, a2, a3, a4⟩; rw [vIn_t] at a2; first | omega | (have h9 : evI _ _ _ _ _ _ = false := (by assumption); rw [a1] at h9; cases h9) | (have h9 := a3 (by omega); unfold ordI at h9; omega) | (have h9 := a4 (by assumption); first | omega | (have h8 : (startsF es nE (es.getD i EvR.d).note).isSome = false := (by assumption); rw [h9.1] at h8; cases h8) | (have h8 : lkB (stopsF es i (es.getD i EvR.d).note) = true := (by assumption); rw [h9.2.2] at h8; cases h8)))))] at a4; cases a4))).symm | (have e9 : i = nE := (by omega); rw [e9] at hu; (try rw [e9]); unfold vScP; rw [(by assumption : vRate ra = true), (by assumption : tunF ba oc esD nD = true), (by assumption : insF esI nI = true), evP_t (by omega) (by omega) hu]; have q9 := beq_cast (startsN es nE) (nE / 2); first | (have h9 : (((startsN es nE : Nat) : Int) == ((nE / 2 : Nat) : Int)) = true := (by assumption); rw [q9] at h9; rw [h9, beq_cast]; rfl) | (have h9 : (((startsN es nE : Nat) : Int) == ((nE / 2 : Nat) : Int)) = false := (by assumption); rw [q9] at h9; rw [h9]; rfl))
  · refine WL.no rfl rfl rfl (ltb rfl) rfl (bnot_f hb1) rfl (ltb rfl) ?_
    refine WL.no rfl rfl rfl (ltb rfl) rfl (bnot_f hb1) rfl (ltb rfl) ?_
    refine WL.no rfl rfl rfl (ltb rfl) rfl (bnot_f hb1) rfl (ltb rfl) ?_
    refine WL.no rfl rfl rfl (ltb rfl) rfl (bnot_f hb1) rfl (ltb rfl) ?_
    refine WL.det (op_pick_t rfl (bnot_f hb1) rfl) rfl rfl rfl ?_
    refine WL.det (op_move rfl) rfl rfl rfl ?_
    refine WL.no rfl rfl rfl (ltb rfl) rfl rfl rfl (ltb rfl) ?_
    refine WL.no rfl rfl rfl (ltb rfl) rfl rfl rfl (ltb rfl) ?_
    refine WL.no rfl rfl rfl (ltb rfl) rfl rfl rfl (ltb rfl) ?_
    refine WL.no rfl rfl rfl (ltb rfl) rfl rfl rfl (ltb rfl) ?_
    refine WL.det (op_pick_t rfl rfl rfl) rfl rfl rfl ?_
    refine WL.det (op_move rfl) rfl rfl rfl ?_
    refine WL.no rfl rfl rfl (ltb rfl) rfl rfl rfl (ltb rfl) ?_
    refine WL.no rfl rfl rfl (ltb rfl) rfl rfl rfl (ltb rfl) ?_
    refine WL.no rfl rfl rfl (ltb rfl) rfl rfl rfl (ltb rfl) ?_
    refine WL.no rfl rfl rfl (ltb rfl) rfl rfl rfl (ltb rfl) ?_
    refine WL.no rfl rfl rfl (ltb rfl) rfl rfl rfl (ltb rfl) ?_
    refine WL.det (op_pick_t rfl rfl rfl) rfl rfl rfl ?_
    refine WL.det (op_move rfl) rfl rfl rfl ?_
    refine WL.no rfl rfl rfl (ltb rfl) rfl rfl rfl (ltb rfl) ?_
    refine WL.no rfl rfl rfl (ltb rfl) rfl rfl rfl (ltb rfl) ?_
    refine WL.no rfl rfl rfl (ltb rfl) rfl rfl rfl (ltb rfl) ?_
    refine WL.no rfl rfl rfl (ltb rfl) rfl rfl rfl (ltb rfl) ?_
    refine WL.det (op_pick_t rfl rfl rfl) rfl rfl rfl ?_
    refine WL.end ?_
    refine NE.code ?_
    refine CE.cond_t rfl rfl ?_
    refine CE.seq ?_
    refine CE.region ?_
    refine WL.det (op_assign rfl) rfl rfl rfl ?_
    refine WL.end ?_
    refine NE.code ?_
    refine CE.ret' ?_
    refine XE.ret_then ?_
    refine XE.leave1 Tryd.results16 rfl ?_
    refine ⟨?_, (((Mod.refl [] w).nt m1).nt m2)⟩
    all_goals first | exact congrArg Value.bool (sc_f (by rintro ⟨a1, a2, a3, a4⟩; first | (have h9 : vRate ra = false := (by assumption); rw [a1] at h9; cases h9) | (have h9 : tunF ba oc esD nD = false := (by assumption); rw [a2] at h9; cases h9) | (have h9 : insF esI nI = false := (by assumption); rw [a3] at h9; cases h9) | (rw [evP_fn (by omega)] at a4; cases a4) | (rw [evP_f1 (evI1_out (i := i) (by omega) (by exact stepI_f (by rintro ⟨a1, a2, a3, a4⟩; rw [vIn_t] at a2; first | omega | (have h9 : evI _ _ _ _ _ _ = false := (by assumption); rw [a1] at h9; cases h9) | (have h9 := a3 (by omega); unfold ordI at h9; omega) | (have h9 := a4 (by assumption); first | omega | (have h8 : (startsF es nE (es.getD i EvR.d).note).isSome = false := (by assumption); rw [h9.1] at h8; cases h8) | (have h8 : lkB (stopsF es i (es.getD i EvR.d).note) = true := (by assumption); rw [h9.2.2] at h8; cases h8)))))] at a4; cases a4))).symm | (have e9 : i = nE := (by omega); rw [e9] at hu; (try rw [e9]); unfold vScP; rw [(by assumption : vRate ra = true), (by assumption : tunF ba oc esD nD = true), (by assumption : insF esI nI = true), evP_t (by omega) (by omega) hu]; have q9 := beq_cast (startsN es nE) (nE / 2); first | (have h9 : (((startsN es nE : Nat) : Int) == ((nE / 2 : Nat) : Int)) = true := (by assumption); rw [q9] at h9; rw [h9, beq_cast]; rfl) | (have h9 : (((startsN es nE : Nat) : Int) == ((nE / 2 : Nat) : Int)) = false := (by assumption); rw [q9] at h9; rw [h9]; rfl))

end Go.Proofs.YtdopidalhkcefaaDoor
