/- When a pipe is silent: the program. -/
import Derived.Test.YtnahhdnkbbdceaaT6
import Derived.Test.YtnahhdnkbbdceaaE17
set_option linter.unusedVariables false
set_option linter.unusedSimpArgs false
set_option maxRecDepth 100000
set_option maxHeartbeats 8000000
namespace Go.Proofs.Ytnahhdnkbbdceaa

theorem c_rings1 (cR : Nat) (bR : Nat) (cL : Nat) (bL : Nat) (cS : Nat) (bS : Nat) (k : Int) (kc0 : Nat) (kc1 : Nat) (kc2 : Nat) (ks0 : Nat) (ks1 : Nat) (op : Bool) (lo : Nat) (re : Nat) (sl : Nat) (p : Nat) (w : World) (q : Rng w p 0 [vS bR 0 1 cR, vS bL 0 1 cL, vS bS 0 0 cS, vI k, vF kc0, vF kc1, vF kc2, vF ks0, vF ks1, .bool op, vF lo, vF re, vF sl]) : Cl Try.prog 65 #[vP p 0] w fun v w' => ∃ (b' : Nat) (c' : Nat), v = vS b' 0 2 c' ∧ Row w' b' 0 [vP bR 0, vP bL 0] ∧ w.heap.size ≤ b' ∧ Mod [] w w' := by
 refine Cl.of Try.func65 Try.ntmps65 rfl rfl (ρ := [(0, vP p 0)]) rfl ?_
 refine CE.seq (CE.region ?_)
 refine WL.det (op_assign rfl) rfl rfl rfl ?_
 refine WL.end (NE.code (CE.seq (CE.region ?_)))
 refine WL.det (op_assign rfl) rfl rfl rfl ?_
 refine WL.end (NE.code (CE.seq (CE.seq (CE.region ?_))))
 refine WL.det (op_move rfl) rfl rfl rfl ?_
 refine WL.det (op_nilCheck rfl) rfl rfl rfl ?_
 refine WL.det (op_fieldAddr (off' := 0) rfl Try.runUnderlying33 rfl rfl Try.sizeOf25 rfl) rfl rfl rfl ?_
 refine WL.det (op_load1 (i := 0) rfl Try.isAgg25 q rfl rfl) rfl rfl rfl ?_
 refine WL.det (op_len rfl Try.runUnderlying25) rfl rfl rfl ?_
 refine WL.det (op_move rfl) rfl rfl rfl ?_
 refine WL.end (NE.code (CE.block ?_))
 refine CE.rounds 2 ?_
 refine RN.one (CE.seq (CE.region ?_))
 refine WL.det (op_lti rfl rfl) rfl rfl rfl ?_
 refine WL.end (NE.code (CE.seq ?_))
 refine CE.cond_t rfl rfl ?_
 refine CE.skip' (NE.code (CE.seq (CE.block (CE.seq (CE.region ?_)))))
 refine WL.det (op_move rfl) rfl rfl rfl ?_
 refine WL.det (op_assign rfl) rfl rfl rfl ?_
 refine WL.end (NE.code ?_)
 refine CE.draw (fun _ => none) [0, 1, 2, 3, 4, 5, 6, 7, 8, 9, 10, 11, 12, 13] [14, 15] [] (by kernel_rfl) (by kernel_rfl) ?_
 have md1 : Mod [] w w.drew := (Mod.refl _ _).drew
 generalize w.drew = w1 at md1 ⊢
 refine DR.det (i := 0) rfl rfl (by kernel_rfl) (.free rfl) rfl rfl (fun wD mD => op_move rfl) ?_
 refine DR.det (i := 1) rfl rfl (by kernel_rfl) (.free rfl) rfl rfl (fun wD mD => op_move rfl) ?_
 refine DR.det (i := 2) rfl rfl (by kernel_rfl) (.free rfl) rfl rfl (fun wD mD => op_nilCheck rfl) ?_
 refine DR.det (i := 3) rfl rfl (by kernel_rfl) (.free rfl) rfl rfl (fun wD mD => op_fieldAddr (off' := 0) rfl Try.runUnderlying33 rfl rfl Try.sizeOf25 rfl) ?_
 refine DR.det (i := 4) rfl rfl (by kernel_rfl) (.free rfl) rfl rfl (fun wD mD => op_load1 (i := 0) rfl Try.isAgg25 ((q.ext md1).ext mD) rfl rfl) ?_
 refine DR.det (i := 5) rfl rfl (by kernel_rfl) (.free rfl) rfl rfl (fun wD mD => op_move rfl) ?_
 refine DR.det (i := 6) rfl rfl (by kernel_rfl) (.free rfl) rfl rfl (fun wD mD => op_indexSl (off' := 0) rfl rfl rfl Try.runUnderlying25 Try.sizeOf60 (by omega) (by omega) rfl) ?_
 refine DR.det (i := 7) rfl rfl (by kernel_rfl) (.free rfl) rfl rfl (fun wD mD => op_move rfl) ?_
 refine DR.det (i := 8) rfl rfl (by kernel_rfl) (.free rfl) rfl rfl (fun wD mD => op_nilCheck rfl) ?_
 refine DR.det (i := 9) rfl rfl (by kernel_rfl) (.free rfl) rfl rfl (fun wD mD => op_fieldAddr (off' := 1) rfl Try.runUnderlying33 rfl rfl Try.sizeOf25 rfl) ?_
 refine DR.det (i := 10) rfl rfl (by kernel_rfl) (.free rfl) rfl rfl (fun wD mD => op_load1 (i := 1) rfl Try.isAgg25 ((q.ext md1).ext mD) rfl rfl) ?_
 refine DR.det (i := 11) rfl rfl (by kernel_rfl) (.free rfl) rfl rfl (fun wD mD => op_move rfl) ?_
 refine DR.det (i := 12) rfl rfl (by kernel_rfl) (.free rfl) rfl rfl (fun wD mD => op_indexSl (off' := 0) rfl rfl rfl Try.runUnderlying25 Try.sizeOf60 (by omega) (by omega) rfl) ?_
 refine DR.one1 (i := 13) rfl rfl (by kernel_rfl) (.free rfl) rfl (ltb rfl) ?_
 intro w2 m1
 refine Op1.mono (op_buildSl (qs := [(0, vP bR 0), (1, vP bL 0)]) (cells := #[vP bR 0, vP bL 0]) rfl Try.runUnderlying97 Try.sizeOf112 Try.zeroValue112 (by decide) (by decide) (by kernel_rfl)) ?_
 rintro _ w3 ⟨rfl, r1, m2, z1⟩
 refine ⟨(((Mod.refl [] w1).nt m1).nt m2), ?_⟩
 refine DR.done rfl ?_
 intro w4 m3
 refine WO.op rfl (.free rfl) rfl (ltb rfl) (op_app0 (i := Try.t112) (m := 1) (bt := 8) (news := [vP bR 0, vP bL 0]) (q := 1) (.inl rfl) rfl rfl Try.underlying97 rfl rfl rfl rfl rfl (by decide) (r1.ext m3).rng rfl rfl (by omega) (by decide)) ?_
 rintro _ w5 ⟨b1, c1, rfl, ow1, ge1, m4⟩
 have r2 : Row w5 b1 0 [vP bR 0, vP bL 0] := (Own.row1 ow1).1
 refine WO.det (op_assign rfl) rfl (.free rfl) rfl rfl ?_
 refine WO.end (NE.blk (NE.code (CE.region ?_)))
 refine WL.det (op_add (r := 1) rfl rfl (by decide)) rfl rfl rfl ?_
 refine WL.det (op_move rfl) rfl rfl rfl ?_
 refine WL.end (NE.round (RN.one (CE.seq (CE.region ?_))))
 refine WL.det (op_lti rfl rfl) rfl rfl rfl ?_
 refine WL.end (NE.code (CE.seq ?_))
 refine CE.cond_f rfl rfl ?_
 refine CE.exit' (XE.exit_then (XE.exit_then (XE.exit_here (NE.code (CE.seq (CE.region ?_))))))
 refine WL.det (op_move rfl) rfl rfl rfl ?_
 refine WL.det (op_assign rfl) rfl rfl rfl ?_
 refine WL.end (NE.code (CE.ret' ?_))
 refine XE.leave1 Try.results65 rfl ?_
 have sz1 := (lT (lT (lT md1.size m1.size) m2.size) m3.size)
 refine ⟨b1, c1, rfl, r2, (lT sz1 ge1), ((((((Mod.refl [] w).nt md1).nt m1).nt m2).nt m3).nt m4)⟩

theorem c_back (n : Nat) (c : Nat) (b : Nat) (xs : List Nat) (i : Nat) (k : Nat) (ln : xs.length = n) (hi : i < n) (hn : n ≤ 1048576) (hk : k ≤ n) (w : World) (r : Rng w b 0 (fl xs)) : Cl Try.prog 119 #[.agg #[vS b 0 n c, vI ((i : Nat) : Int)], vI ((k : Nat) : Int)] w fun v w' => v = vF (xs.getD ((i + n - k) % n) 0) ∧ Mod [] w w' := by
 refine Cl.of Try.func119 Try.ntmps119 rfl rfl (ρ := [(0, .agg #[vS b 0 n c, vI ((i : Nat) : Int)]), (1, vI ((k : Nat) : Int))]) rfl ?_
 refine CE.seq (CE.region ?_)
 refine WL.op (op_box (cs := [vS b 0 n c, vI ((i : Nat) : Int)]) rfl rfl) rfl rfl (ltb rfl) ?_
 rintro _ w1 ⟨rfl, r1, m1, z1⟩
 refine WL.det (op_assign rfl) rfl rfl rfl ?_
 refine WL.end (NE.code (CE.seq (CE.region ?_)))
 refine WL.det (op_fieldAddr (off' := 0) rfl Try.runUnderlying60 rfl rfl Try.sizeOf26 rfl) rfl rfl rfl ?_
 refine WL.det (op_load1 (i := 0) rfl Try.isAgg26 r1.rng rfl rfl) rfl rfl rfl ?_
 refine WL.call (oc_call (vs := [vS b 0 n c]) (cap := []) rfl rfl rfl Try.call118 (c_length32 n c (some ⟨b, 0, none⟩) w1)) rfl rfl (ltb rfl) ?_
 rintro _ _ ⟨rfl, rfl⟩
 refine WL.det (op_assign rfl) rfl rfl rfl ?_
 refine WL.end (NE.code (CE.seq ?_))
 refine CE.draw (fun _ => none) [0, 1, 2, 3, 4, 5, 6, 7, 8, 9] [10, 11, 12] [] (by kernel_rfl) (by kernel_rfl) ?_
 have md1 : Mod [] w1 w1.drew := (Mod.refl _ _).drew
 generalize w1.drew = w2 at md1 ⊢
 refine DR.det (i := 0) rfl rfl (by kernel_rfl) (.free rfl) rfl rfl (fun wD mD => op_fieldAddr (off' := 0) rfl Try.runUnderlying60 rfl rfl Try.sizeOf26 rfl) ?_
 refine DR.det (i := 1) rfl rfl (by kernel_rfl) (.free rfl) rfl rfl (fun wD mD => op_load1 (i := 0) rfl Try.isAgg26 ((r1.ext md1).ext mD).rng rfl rfl) ?_
 refine DR.det (i := 2) rfl rfl (by kernel_rfl) (.free rfl) rfl rfl (fun wD mD => op_fieldAddr (off' := 1) rfl Try.runUnderlying60 rfl rfl Try.sizeOf2 rfl) ?_
 refine DR.det (i := 3) rfl rfl (by kernel_rfl) (.free rfl) rfl rfl (fun wD mD => op_load1 (i := 1) rfl Try.isAgg2 ((r1.ext md1).ext mD).rng rfl rfl) ?_
 refine DR.det (i := 4) rfl rfl (by kernel_rfl) (.free rfl) rfl rfl (fun wD mD => op_move rfl) ?_
 refine DR.det (i := 5) rfl rfl (by kernel_rfl) (.free rfl) rfl rfl (fun wD mD => op_sub (r := (((i : Nat) : Int) - ((k : Nat) : Int))) rfl rfl (w_i64 (by omega) (by omega))) ?_
 refine DR.det (i := 6) rfl rfl (by kernel_rfl) (.free rfl) rfl rfl (fun wD mD => op_move rfl) ?_
 refine DR.det (i := 7) rfl rfl (by kernel_rfl) (.free rfl) rfl rfl (fun wD mD => op_add (r := ((((i : Nat) : Int) - ((k : Nat) : Int)) + ((n : Nat) : Int))) rfl rfl (w_i64 (by omega) (by omega))) ?_
 refine DR.det (i := 8) rfl rfl (by kernel_rfl) (.free rfl) rfl rfl (fun wD mD => op_move rfl) ?_
 have hm1 : (i + n - k) % n < n := Nat.mod_lt _ (by omega)
 refine DR.det (i := 9) rfl rfl (by kernel_rfl) (.free rfl) rfl rfl (fun wD mD => op_rem (r := (((i + n - k) % n : Nat) : Int)) rfl rfl (by omega) (rem_nat (by omega))) ?_
 refine DR.done rfl ?_
 intro w3 m2
 refine WO.det (op_indexSl (off' := 0 + ((i + n - k) % n)) rfl rfl rfl Try.runUnderlying26 Try.sizeOf27 (by omega) (by omega) (by omega)) rfl (.free rfl) rfl rfl ?_
 have r2 := (((r.ext m1).ext md1).ext m2)
 refine WO.det (op_load1 (i := ((i + n - k) % n)) rfl Try.isAgg27 r2 rfl (fl_get (by have eL : List.length xs = n := ln; omega))) rfl (.free rfl) rfl rfl ?_
 refine WO.det (op_assign rfl) rfl (.free rfl) rfl rfl ?_
 refine WO.end (NE.code (CE.ret' ?_))
 refine XE.leave1 Try.results119 rfl ?_
 refine ⟨?_, ((((Mod.refl [] w).nt m1).nt md1).nt m2)⟩
 all_goals simp_all

theorem c_quiet (n : Nat) (c : Nat) (b : Nat) (xs : List Nat) (i : Nat) (ln : xs.length = n) (hi : i < n) (hn : n ≤ 1048576) (w : World) (r : Rng w b 0 (fl xs)) : Cl Try.prog 117 #[.agg #[vS b 0 n c, vI ((i : Nat) : Int)]] w fun v w' => ∃ (r0 : Nat), v = vI ((r0 : Nat) : Int) ∧ (QI n xs i r0) ∧ (r0 ≤ n) ∧ Mod [] w w' := by
 refine Cl.of Try.func117 Try.ntmps117 rfl rfl (ρ := [(0, .agg #[vS b 0 n c, vI ((i : Nat) : Int)])]) rfl ?_
 refine CE.seq (CE.region ?_)
 refine WL.op (op_box (cs := [vS b 0 n c, vI ((i : Nat) : Int)]) rfl rfl) rfl rfl (ltb rfl) ?_
 rintro _ w1 ⟨rfl, r1, m1, z1⟩
 refine WL.det (op_assign rfl) rfl rfl rfl ?_
 refine WL.end (NE.code (CE.seq (CE.region ?_)))
 refine WL.det (op_fieldAddr (off' := 0) rfl Try.runUnderlying60 rfl rfl Try.sizeOf26 rfl) rfl rfl rfl ?_
 refine WL.det (op_load1 (i := 0) rfl Try.isAgg26 r1.rng rfl rfl) rfl rfl rfl ?_
 refine WL.call (oc_call (vs := [vS b 0 n c]) (cap := []) rfl rfl rfl Try.call118 (c_length32 n c (some ⟨b, 0, none⟩) w1)) rfl rfl (ltb rfl) ?_
 rintro _ _ ⟨rfl, rfl⟩
 refine WL.det (op_assign rfl) rfl rfl rfl ?_
 refine WL.end (NE.code (CE.seq (CE.seq (CE.region ?_))))
 refine WL.det (op_assign rfl) rfl rfl rfl ?_
 refine WL.end (NE.code (CE.block ?_))
 refine CE.loop (fun (e : Nat) => [(4, vI ((e + 1 : Nat) : Int)), (1, vP w.heap.size 0), (2, vI 0), (3, vI ((n : Nat) : Int))]) (fun (e : Nat) => fun W => (e ≤ n) ∧ (∀ j, 1 ≤ j → j ≤ e → fEq .f32 (xs.getD ((i + n - j) % n) 0) 0 = true) ∧ Mod [] w1 W) (fun (e : Nat) => n - e) 0 (⟨rfl, rfl, rfl, rfl, trivial⟩) ⟨(by omega), (by exact fun j h1 h2 => absurd h2 (by omega)), Mod.refl _ _⟩ ?_
 rintro e w2 ⟨he, hq, m2⟩
 show CE _ _ _ _ [(4, vI ((e + 1 : Nat) : Int)), (1, vP w.heap.size 0), (2, vI 0), (3, vI ((n : Nat) : Int))] _
 refine CE.seq (CE.seq (CE.region ?_))
 iterate 2 refine WL.det (op_move rfl) rfl rfl rfl ?_
 refine WL.det (op_lei rfl rfl) rfl rfl rfl ?_
 refine WL.end (NE.code ?_)
 rcases Bool.eq_false_or_eq_true (decide (((e + 1 : Nat) : Int) ≤ ((n : Nat) : Int))) with hb1 | hb1
 ·have hp1 := of_decide_eq_true hb1
  refine CE.cond_t rfl hb1 ?_
  refine CE.skip' (NE.code (CE.seq (CE.block (CE.seq (CE.region ?_)))))
  refine WL.det (op_loadA (i := 0) (cs := [vS b 0 n c, vI ((i : Nat) : Int)]) rfl Try.isAgg60 Try.sizeOf60 (r1.ext m2).rng rfl rfl rfl) rfl rfl rfl ?_
  refine WL.det (op_move rfl) rfl rfl rfl ?_
  refine WL.call (oc_call (vs := [.agg #[vS b 0 n c, vI ((i : Nat) : Int)], vI ((e + 1 : Nat) : Int)]) (cap := []) rfl rfl rfl Try.call119 (c_back n c b xs i (e + 1) ln (by first | omega | exact Nat.mod_lt _ (by omega)) (by omega) (by omega) w2 ((r.ext m1).ext m2))) rfl rfl (ltb rfl) ?_
  rintro _ w3 ⟨rfl, m3⟩
  refine WL.det (op_fne (c := !(fEq .f32 (xs.getD ((i + n - (e + 1)) % n) 0) 0)) rfl rfl rfl rfl rfl) rfl rfl rfl ?_
  refine WL.end (NE.code ?_)
  rcases Bool.eq_false_or_eq_true (fEq .f32 (xs.getD ((i + n - (e + 1)) % n) 0) 0) with hb2 | hb2
  ·refine CE.cond_f rfl (bnot_t hb2) ?_
   refine CE.skip' (NE.blk (NE.code (CE.region ?_)))
   refine WL.det (op_move rfl) rfl rfl rfl ?_
   refine WL.det (op_add (r := ((e + 1 + 1 : Nat) : Int)) rfl rfl (w_i64 (by omega) (by omega))) rfl rfl rfl ?_
   refine WL.det (op_assign rfl) rfl rfl rfl ?_
   refine WL.end ?_
   exact NE.again (e + 1) (⟨rfl, rfl, rfl, rfl, trivial⟩) ⟨(by omega), (by exact QI.step hq (by assumption)), (m2.nt m3)⟩ (by first | (dsimp only; omega) | omega)
  ·refine CE.cond_t rfl (bnot_f hb2) ?_
   refine CE.seq (CE.region ?_)
   refine WL.det (op_move rfl) rfl rfl rfl ?_
   refine WL.det (op_sub (r := ((e + 1 - 1 : Nat) : Int)) rfl rfl (w_nsub (l := e + 1) (n := 1) (by omega) (by omega))) rfl rfl rfl ?_
   refine WL.det (op_assign rfl) rfl rfl rfl ?_
   refine WL.end (NE.code (CE.ret' (XE.ret_blk (XE.ret_then (XE.ret_then (XE.ret_blk (XE.ret_then ?_)))))))
   refine XE.leave1 Try.results117 rfl ?_
   refine ⟨(e + 1 - 1), rfl, ?_, ?_, ((((Mod.refl [] w).nt m1).nt m2).nt m3)⟩
   all_goals first | exact (by omega) | exact QI.of hq (fun _ => by assumption) | (refine QI.of (fun j h1 h2 => hq j h1 (by omega)) (fun h => absurd h (by omega)))
 ·have hp1 := of_decide_eq_false hb1
  refine CE.cond_f rfl hb1 ?_
  refine CE.exit' (XE.exit_then (XE.exit_then (XE.exit_here (NE.code (CE.seq (CE.region ?_))))))
  refine WL.det (op_move rfl) rfl rfl rfl ?_
  refine WL.det (op_assign rfl) rfl rfl rfl ?_
  refine WL.end (NE.code (CE.ret' ?_))
  refine XE.leave1 Try.results117 rfl ?_
  refine ⟨n, rfl, ?_, ?_, (((Mod.refl [] w).nt m1).nt m2)⟩
  all_goals first | exact (by omega) | exact QI.of hq (fun _ => by assumption) | (refine QI.of (fun j h1 h2 => hq j h1 (by omega)) (fun h => absurd h (by omega)))

theorem c_quietJ (n : Nat) (c : Nat) (b : Nat) (xs : List Nat) (j : Int) (ln : xs.length = n) (hj0 : 0 ≤ j) (hj : j < ((n : Nat) : Int)) (hn : n ≤ 1048576) (w : World) (r : Rng w b 0 (fl xs)) : Cl Try.prog 117 #[.agg #[vS b 0 n c, vI j]] w fun v w' => ∃ (r0 : Nat), v = vI ((r0 : Nat) : Int) ∧ (QI n xs (j).toNat r0) ∧ (r0 ≤ n) ∧ Mod [] w w' := by
  obtain ⟨i, rfl⟩ := Int.eq_ofNat_of_zero_le hj0
  exact c_quiet n c b xs i ln (by omega) hn w r
theorem c_backJ (n : Nat) (c : Nat) (b : Nat) (xs : List Nat) (j : Int) (ln : xs.length = n) (hj0 : 0 ≤ j) (hj : j < ((n : Nat) : Int)) (hn : n ≤ 1048576) (w : World) (r : Rng w b 0 (fl xs)) : Cl Try.prog 119 #[.agg #[vS b 0 n c, vI j], vI 1] w fun v w' => v = vF (xs.getD (((j).toNat + n - 1) % n) 0) ∧ Mod [] w w' := by
  obtain ⟨i, rfl⟩ := Int.eq_ofNat_of_zero_le hj0
  exact c_back n c b xs i 1 ln (by omega) hn (by omega) w r

theorem c_silP1 (nR : Nat) (nL : Nat) (nS : Nat) (cR : Nat) (bR : Nat) (cL : Nat) (bL : Nat) (cS : Nat) (bS : Nat) (k : Int) (kc0 : Nat) (kc1 : Nat) (kc2 : Nat) (ks0 : Nat) (ks1 : Nat) (op : Bool) (lo : Nat) (re : Nat) (sl : Nat) (p : Nat) (w : World) (q : Rng w p 0 [vS bR 0 nR cR, vS bL 0 nL cL, vS bS 0 nS cS, vI k, vF kc0, vF kc1, vF kc2, vF ks0, vF ks1, .bool op, vF lo, vF re, vF sl]) : Cl Try.prog 66 #[vP p 0] w fun v w' => v = .bool (stillF ks0 ks1) ∧ Mod [] w w' := by
 refine Cl.of Try.func66 Try.ntmps66 rfl rfl (ρ := [(0, vP p 0)]) rfl ?_
 refine CE.seq (CE.region ?_)
 refine WL.det (op_assign rfl) rfl rfl rfl ?_
 refine WL.end (NE.code (CE.seq (CE.region ?_)))
 refine WL.det (op_fieldAddr (off' := 3) rfl Try.runUnderlying33 rfl rfl Try.sizeOf31 rfl) rfl rfl rfl ?_
 refine WL.det (op_loadA (i := 3) (cs := [vI k, vF kc0, vF kc1, vF kc2, vF ks0, vF ks1]) rfl Try.isAgg31 Try.sizeOf31 q rfl rfl rfl) rfl rfl rfl ?_
 refine WL.call (oc_call (vs := [.agg #[vI k, vF kc0, vF kc1, vF kc2, vF ks0, vF ks1]]) (cap := []) rfl rfl rfl Try.call67 (c_isStill k kc0 kc1 kc2 ks0 ks1 w)) rfl rfl (ltb rfl) ?_
 rintro _ w1 ⟨rfl, m1⟩
 refine WL.det (op_assign rfl) rfl rfl rfl ?_
 refine WL.end (NE.code (CE.ret' ?_))
 refine XE.leave1 Try.results66 rfl ?_
 refine ⟨?_, ((Mod.refl [] w).nt m1)⟩
 all_goals simp_all

theorem c_silP2 (nR : Nat) (GR : List RD) (nL : Nat) (GL : List RD) (nS : Nat) (xS : List Nat) (cR : Nat) (bR : Nat) (PR : List BC) (loR : Nat) (cL : Nat) (bL : Nat) (PL : List BC) (loL : Nat) (cS : Nat) (bS : Nat) (k : Int) (kc0 : Nat) (kc1 : Nat) (kc2 : Nat) (ks0 : Nat) (ks1 : Nat) (op : Bool) (lo : Nat) (re : Nat) (sl : Nat) (p : Nat) (zn : PipeSt) (lDR : GR.length = nR) (lDL : GL.length = nL) (lnS : xS.length = nS) (hzR : ∀ i, (GR.getD i RD.d).xs.length ≤ 1048576) (hzL : ∀ i, (GL.getD i RD.d).xs.length ≤ 1048576) (lPR : PR.length = nR) (lPL : PL.length = nL) (mR : nR ≤ 1048576) (mL : nL ≤ 1048576) (mS : nS ≤ 1048576) (hs : 1 ≤ nR ∧ nR ≤ 3 ∧ nL = nR ∧ nS + 1 = nR) (gR : GoodD GR nR) (gL : GoodD GL nL) (lks0 : ks0 < wid .f32) (lks1 : ks1 < wid .f32) (ezn : zn = pipeNext nR nS xS k kc0 kc1 kc2 op lo re sl (PipeSt.mk GR GL ks0 ks1) 0) (w : World) (q : Row w p 0 [vS bR 0 nR cR, vS bL 0 nL cL, vS bS 0 nS cS, vI k, vF kc0, vF kc1, vF kc2, vF ks0, vF ks1, .bool op, vF lo, vF re, vF sl]) (rR : Row w bR 0 (olc GR PR)) (rL : Row w bL 0 (olc GL PL)) (rS : Rng w bS 0 (fl xS)) (n1 : p ≠ bR) (n2 : p ≠ bL) (n3 : p ≠ bS) (n4 : bR ≠ bL) (n5 : bR ≠ bS) (n6 : bL ≠ bS)  (FR : OF loR w GR PR) (gRp : (∀ i, i < nR → (PR.getD i BC.d).b ≠ p)) (gRR : (∀ i, i < nR → (PR.getD i BC.d).b ≠ bR)) (gRL : (∀ i, i < nR → (PR.getD i BC.d).b ≠ bL)) (gRS : (∀ i, i < nR → (PR.getD i BC.d).b ≠ bS)) (gPP : (∀ i j, i < nR → j < nL → (PR.getD i BC.d).b ≠ (PL.getD j BC.d).b)) (FL : OF loL w GL PL) (gLp : (∀ i, i < nL → (PL.getD i BC.d).b ≠ p)) (gLR : (∀ i, i < nL → (PL.getD i BC.d).b ≠ bR)) (gLL : (∀ i, i < nL → (PL.getD i BC.d).b ≠ bL)) (gLS : (∀ i, i < nL → (PL.getD i BC.d).b ≠ bS)) : Cl Try.prog 68 #[vP p 0] w fun v w' => v = .tuple #[] ∧ (zn.s0 < wid .f32) ∧ (zn.s1 < wid .f32) ∧ (GoodD zn.R nR) ∧ (GoodD zn.L nL) ∧ (zn.R.length = nR) ∧ (zn.L.length = nL) ∧ Row w' p 0 [vS bR 0 nR cR, vS bL 0 nL cL, vS bS 0 nS cS, vI k, vF kc0, vF kc1, vF kc2, vF zn.s0, vF zn.s1, .bool op, vF lo, vF re, vF sl] ∧ Row w' bR 0 (olc zn.R PR) ∧ Row w' bL 0 (olc zn.L PL) ∧ OF loR w' zn.R PR ∧ OF loL w' zn.L PL ∧ Mod (p :: bR :: bL :: (PR.map BC.b ++ (PL.map BC.b ++ []))) w w' := by
 refine Cl.of Try.func68 Try.ntmps68 rfl rfl (ρ := [(0, vP p 0)]) rfl ?_
 refine CE.region ?_
 refine WL.call (oc_call (vs := [vP p 0, vF 0]) (cap := []) rfl rfl rfl Try.call69 (c_pipeStep nR GR nL GL nS xS cR bR PR loR cL bL PL loL cS bS k kc0 kc1 kc2 ks0 ks1 op lo re sl p 0 0 lDR lDL lnS (by first | assumption | exact rd_small (by assumption) (by assumption) | exact markD_small (by first | assumption | exact rd_small (by assumption) (by assumption)) _) (by first | assumption | exact rd_small (by assumption) (by assumption) | exact markD_small (by first | assumption | exact rd_small (by assumption) (by assumption)) _) lPR lPL (by first | assumption | omega) (by first | assumption | omega) (by first | assumption | omega) (by first | assumption | omega) (by assumption) (by assumption) lks0 lks1 rfl (by decide +kernel) w q rR rL rS n1 n2 n3 n4 n5 n6 FR (fun j hj => (gRp j hj)) (fun j hj => (gRR j hj)) (fun j hj => (gRL j hj)) (fun j hj => (gRS j hj)) (fun j q hj hq => (gPP j q hj hq)) FL (fun j hj => (gLp j hj)) (fun j hj => (gLR j hj)) (fun j hj => (gLL j hj)) (fun j hj => (gLS j hj)))) rfl rfl (ltb rfl) ?_
 rintro _ w1 ⟨y1, rfl, h1, h2, h3, h4, h5, h6, r1, r2, r3, fm1, fm2, m1⟩
 refine WL.end ?_
 refine NE.leave0 Try.results68 ?_
 refine ⟨rfl, ?_, ?_, ?_, ?_, ?_, ?_, (Row.congr r1 ?_), (Row.congr r2 ?_), (Row.congr r3 ?_), (OF.congr fm1 (by rw [ezn]; rfl)), (OF.congr fm2 (by rw [ezn]; rfl)), ((Mod.refl (p :: bR :: bL :: (PR.map BC.b ++ (PL.map BC.b ++ []))) w).then m1 ((aC (.inl (by simp)) (aC (.inl (by simp)) (aC (.inl (by simp)) (aI (fun x hx => by simp only [List.mem_cons, List.mem_append, hx, true_or, or_true]) (aI (fun x hx => by simp only [List.mem_cons, List.mem_append, hx, true_or, or_true]) aN)))))))⟩
 all_goals subst ezn
 all_goals first | assumption | rfl | exact stR_len lDR _ | exact endL_len lDL

theorem c_stepsP1 (GR : List RD) (GL : List RD) (xS : List Nat) (cR : Nat) (bR : Nat) (PR : List BC) (loR : Nat) (cL : Nat) (bL : Nat) (PL : List BC) (loL : Nat) (cS : Nat) (bS : Nat) (k : Int) (kc0 : Nat) (kc1 : Nat) (kc2 : Nat) (ks0 : Nat) (ks1 : Nat) (op : Bool) (lo : Nat) (re : Nat) (sl : Nat) (p : Nat) (e : Nat) (ce : Nat) (most : Nat) (rv : Int × Int) (lDR : GR.length = 1) (lDL : GL.length = 1) (lnS : xS.length = 0) (hzR : ∀ i, (GR.getD i RD.d).xs.length ≤ 1048576) (hzL : ∀ i, (GL.getD i RD.d).xs.length ≤ 1048576) (lPR : PR.length = 1) (lPL : PL.length = 1) (gR : GoodD GR 1) (gL : GoodD GL 1) (lks0 : ks0 < wid .f32) (lks1 : ks1 < wid .f32) (hm : most ≤ 100000) (erv : rv = silG (fun ii => pipeSil 1 1 (pipeAt 1 0 xS k kc0 kc1 kc2 op lo re sl (PipeSt.mk GR GL ks0 ks1) (fun _ => 0) ii)) (most + 1) 0) (w : World) (q : Row w p 0 [vS bR 0 1 cR, vS bL 0 1 cL, vS bS 0 0 cS, vI k, vF kc0, vF kc1, vF kc2, vF ks0, vF ks1, .bool op, vF lo, vF re, vF sl]) (rR : Row w bR 0 (olc GR PR)) (rL : Row w bL 0 (olc GL PL)) (rS : Rng w bS 0 (fl xS)) (rE : Rng w e 0 [vP bR 0, vP bL 0]) (n1 : p ≠ bR) (n2 : p ≠ bL) (n3 : p ≠ bS) (n4 : bR ≠ bL) (n5 : bR ≠ bS) (n6 : bL ≠ bS) (n7 : e ≠ p) (n8 : e ≠ bR) (n9 : e ≠ bL) (n10 : e ≠ bS)  (FR : OF loR w GR PR) (gRp : (∀ i, i < 1 → (PR.getD i BC.d).b ≠ p)) (gRR : (∀ i, i < 1 → (PR.getD i BC.d).b ≠ bR)) (gRL : (∀ i, i < 1 → (PR.getD i BC.d).b ≠ bL)) (gRS : (∀ i, i < 1 → (PR.getD i BC.d).b ≠ bS)) (gRe : (∀ i, i < 1 → (PR.getD i BC.d).b ≠ e)) (gPP : (∀ i j, i < 1 → j < 1 → (PR.getD i BC.d).b ≠ (PL.getD j BC.d).b)) (FL : OF loL w GL PL) (gLp : (∀ i, i < 1 → (PL.getD i BC.d).b ≠ p)) (gLR : (∀ i, i < 1 → (PL.getD i BC.d).b ≠ bR)) (gLL : (∀ i, i < 1 → (PL.getD i BC.d).b ≠ bL)) (gLS : (∀ i, i < 1 → (PL.getD i BC.d).b ≠ bS)) (gLe : (∀ i, i < 1 → (PL.getD i BC.d).b ≠ e)) : Cl Try.prog 64 #[vI ((most : Nat) : Int), vS e 0 2 ce, .func (.func 66) #[] #[vP p 0], .func (.func 68) #[] #[vP p 0]] w fun v w' => v = .tuple #[vI rv.1, vI rv.2] ∧ Mod (p :: bR :: bL :: (PR.map BC.b ++ (PL.map BC.b ++ []))) w w' := by
 refine Cl.of Try.func64 Try.ntmps64 rfl rfl (ρ := [(0, vI ((most : Nat) : Int)), (1, vS e 0 2 ce), (2, .func (.func 66) #[] #[vP p 0]), (3, .func (.func 68) #[] #[vP p 0])]) rfl ?_
 refine CE.seq (CE.region ?_)
 iterate 2 refine WL.det (op_assign rfl) rfl rfl rfl ?_
 refine WL.end (NE.code (CE.seq (CE.region ?_)))
 refine WL.det (op_move rfl) rfl rfl rfl ?_
 refine WL.det (op_len rfl Try.runUnderlying97) rfl rfl rfl ?_
 refine WL.op (op_makeI (i := Try.t2) (m := 2) rfl rfl rfl rfl Try.underlying36 rfl rfl rfl rfl (by omega)) rfl rfl (ltb rfl) ?_
 rintro _ w1 ⟨rfl, r1, m1, z1⟩
 refine WL.det (op_assign rfl) rfl rfl rfl ?_
 refine WL.end (NE.code (CE.seq (CE.seq (CE.region ?_))))
 refine WL.det (op_move rfl) rfl rfl rfl ?_
 refine WL.det (op_len rfl Try.runUnderlying97) rfl rfl rfl ?_
 refine WL.det (op_move rfl) rfl rfl rfl ?_
 refine WL.end (NE.code (CE.block ?_))
 refine CE.rounds 3 ?_
 refine RN.one (CE.seq (CE.region ?_))
 refine WL.det (op_lti rfl rfl) rfl rfl rfl ?_
 refine WL.end (NE.code (CE.seq ?_))
 refine CE.cond_t rfl rfl ?_
 refine CE.skip' (NE.code (CE.seq (CE.block (CE.seq (CE.region ?_)))))
 refine WL.det (op_move rfl) rfl rfl rfl ?_
 refine WL.det (op_indexSl (off' := 0) rfl rfl rfl Try.runUnderlying97 Try.sizeOf112 (by omega) (by omega) rfl) rfl rfl rfl ?_
 refine WL.det (op_load1 (i := 0) rfl Try.isAgg112 (rE.ext m1) rfl rfl) rfl rfl rfl ?_
 iterate 2 refine WL.det (op_assign rfl) rfl rfl rfl ?_
 refine WL.end (NE.code (CE.region ?_))
 iterate 3 refine WL.det (op_move rfl) rfl rfl rfl ?_
 refine WL.det (op_nilCheck rfl) rfl rfl rfl ?_
 refine WL.det (op_loadA (i := 0 * 2) (cs := [vS ((PR.getD 0 BC.d).b) 0 ((GR.getD 0 RD.d).xs.length) ((PR.getD 0 BC.d).c), vI ((GR.getD 0 RD.d).at_)]) rfl Try.isAgg60 Try.sizeOf60 (rR.ext m1).rng rfl (olc_at lDR lPR (show 0 < 1 by omega)) rfl) rfl rfl rfl ?_
 refine WL.call (oc_call (vs := [.agg #[vS ((PR.getD 0 BC.d).b) 0 ((GR.getD 0 RD.d).xs.length) ((PR.getD 0 BC.d).c), vI ((GR.getD 0 RD.d).at_)]]) (cap := []) rfl rfl rfl Try.call117 (c_quietJ ((GR.getD 0 RD.d).xs.length) ((PR.getD 0 BC.d).c) ((PR.getD 0 BC.d).b) ((GR.getD 0 RD.d).xs) ((GR.getD 0 RD.d).at_) rfl (by first | omega | exact GoodD.ge (by assumption) _ (by omega)) (by first | omega | exact GoodD.lt (by assumption) _ (by omega)) (by first | omega | exact Nat.le_trans (Nat.le_of_eq (stR_lens _ _)) (by first | omega | exact z1 _) | exact Nat.le_trans (Nat.le_of_eq (endL_lens _)) (by first | omega | exact z2 _) | exact zn1 _ | exact zn2 _ | exact hzR _ | exact hzL _) w1 ((OF.row FR 0 (Nat.lt_of_lt_of_eq (show 0 < 1 by omega) lDR.symm)).ext m1).rng)) rfl rfl (ltb rfl) ?_
 rintro _ w2 ⟨r2, rfl, h1, h2, m2⟩
 refine WL.det (op_indexSl (off' := 0) rfl rfl rfl Try.runUnderlying36 Try.sizeOf2 (by omega) (by omega) rfl) rfl rfl rfl ?_
 refine WL.op0 (op_store (i := 0) (cs := [vI ((r2 : Nat) : Int)]) rfl rfl rfl Try.sizeOf2 rfl (r1.ext m2) rfl (lB rfl) rfl) rfl rfl ?_
 rintro _ w3 ⟨r3, m3, z2⟩
 have r4 : Row w3 w.heap.size 0 [vI ((r2 : Nat) : Int), vI 0] := Row.congr r3 rfl
 refine WL.end (NE.blk (NE.code (CE.region ?_)))
 refine WL.det (op_add (r := 1) rfl rfl (by decide)) rfl rfl rfl ?_
 refine WL.det (op_move rfl) rfl rfl rfl ?_
 refine WL.end (NE.round (RN.one (CE.seq (CE.region ?_))))
 refine WL.det (op_lti rfl rfl) rfl rfl rfl ?_
 refine WL.end (NE.code (CE.seq ?_))
 refine CE.cond_t rfl rfl ?_
 refine CE.skip' (NE.code (CE.seq (CE.block (CE.seq (CE.region ?_)))))
 refine WL.det (op_move rfl) rfl rfl rfl ?_
 refine WL.det (op_indexSl (off' := 1) rfl rfl rfl Try.runUnderlying97 Try.sizeOf112 (by omega) (by omega) rfl) rfl rfl rfl ?_
 have r5 := (Rng.youngS rE ((rE.ext m1).ext m2) m3 (allge_cons lR allge_nil))
 refine WL.det (op_load1 (i := 1) rfl Try.isAgg112 r5 rfl rfl) rfl rfl rfl ?_
 iterate 2 refine WL.det (op_assign rfl) rfl rfl rfl ?_
 refine WL.end (NE.code (CE.region ?_))
 iterate 3 refine WL.det (op_move rfl) rfl rfl rfl ?_
 refine WL.det (op_nilCheck rfl) rfl rfl rfl ?_
 have r6 := (((rL.ext m1).ext m2).mod m3 (nC (lE (lL rL.lt lR)) nN))
 refine WL.det (op_loadA (i := 0 * 2) (cs := [vS ((PL.getD 0 BC.d).b) 0 ((GL.getD 0 RD.d).xs.length) ((PL.getD 0 BC.d).c), vI ((GL.getD 0 RD.d).at_)]) rfl Try.isAgg60 Try.sizeOf60 r6.rng rfl (olc_at lDL lPL (show 0 < 1 by omega)) rfl) rfl rfl rfl ?_
 have fm1 : OF loL w3 GL PL := (((FL.ext m1).ext m2).mod m3 (fun j hj => (nC (lE (lL (OF.lt FL (Nat.lt_of_lt_of_eq (Nat.lt_of_lt_of_eq hj lDL) lDL.symm)) lR)) nN)))
 refine WL.call (oc_call (vs := [.agg #[vS ((PL.getD 0 BC.d).b) 0 ((GL.getD 0 RD.d).xs.length) ((PL.getD 0 BC.d).c), vI ((GL.getD 0 RD.d).at_)]]) (cap := []) rfl rfl rfl Try.call117 (c_quietJ ((GL.getD 0 RD.d).xs.length) ((PL.getD 0 BC.d).c) ((PL.getD 0 BC.d).b) ((GL.getD 0 RD.d).xs) ((GL.getD 0 RD.d).at_) rfl (by first | omega | exact GoodD.ge (by assumption) _ (by omega)) (by first | omega | exact GoodD.lt (by assumption) _ (by omega)) (by first | omega | exact Nat.le_trans (Nat.le_of_eq (stR_lens _ _)) (by first | omega | exact z1 _) | exact Nat.le_trans (Nat.le_of_eq (endL_lens _)) (by first | omega | exact z2 _) | exact zn1 _ | exact zn2 _ | exact hzR _ | exact hzL _) w3 (OF.row fm1 0 (Nat.lt_of_lt_of_eq (show 0 < 1 by omega) lDL.symm)).rng)) rfl rfl (ltb rfl) ?_
 rintro _ w4 ⟨r7, rfl, h3, h4, m4⟩
 refine WL.det (op_indexSl (off' := 1) rfl rfl rfl Try.runUnderlying36 Try.sizeOf2 (by omega) (by omega) rfl) rfl rfl rfl ?_
 refine WL.op0 (op_store (i := 1) (cs := [vI ((r7 : Nat) : Int)]) rfl rfl rfl Try.sizeOf2 rfl (r4.ext m4) rfl (lB rfl) rfl) rfl rfl ?_
 rintro _ w5 ⟨r8, m5, z3⟩
 have r9 : Row w5 w.heap.size 0 [vI ((r2 : Nat) : Int), vI ((r7 : Nat) : Int)] := Row.congr r8 rfl
 refine WL.end (NE.blk (NE.code (CE.region ?_)))
 refine WL.det (op_add (r := 2) rfl rfl (by decide)) rfl rfl rfl ?_
 refine WL.det (op_move rfl) rfl rfl rfl ?_
 refine WL.end (NE.round (RN.one (CE.seq (CE.region ?_))))
 refine WL.det (op_lti rfl rfl) rfl rfl rfl ?_
 refine WL.end (NE.code (CE.seq ?_))
 refine CE.cond_f rfl rfl ?_
 refine CE.exit' (XE.exit_then (XE.exit_then (XE.exit_here (NE.code (CE.seq (CE.seq (CE.region ?_)))))))
 refine WL.det (op_assign rfl) rfl rfl rfl ?_
 refine WL.end (NE.code (CE.block ?_))
 have r10 := (((((q.ext m1).ext m2).mod m3 (nC (lE (lL q.lt lR)) nN)).ext m4).mod m5 (nC (lE (lL q.lt lR)) nN))
 have r11 := (((((rR.ext m1).ext m2).mod m3 (nC (lE (lL rR.lt lR)) nN)).ext m4).mod m5 (nC (lE (lL rR.lt lR)) nN))
 refine CE.loop (fun (z : Nat × Nat × Nat) => [(13, vI ((z.1 : Nat) : Int)), (0, vI ((most : Nat) : Int)), (1, vS e 0 2 ce), (2, .func (.func 66) #[] #[vP p 0]), (3, .func (.func 68) #[] #[vP p 0]), (8, vI 0), (9, vI 0), (10, vS w.heap.size 0 2 2)]) (fun (z : Nat × Nat × Nat) => fun W => (z.1 ≤ most + 1) ∧ (GoodD (pipeAt 1 0 xS k kc0 kc1 kc2 op lo re sl (PipeSt.mk GR GL ks0 ks1) (fun _ => 0) z.1).R 1) ∧ (GoodD (pipeAt 1 0 xS k kc0 kc1 kc2 op lo re sl (PipeSt.mk GR GL ks0 ks1) (fun _ => 0) z.1).L 1) ∧ ((pipeAt 1 0 xS k kc0 kc1 kc2 op lo re sl (PipeSt.mk GR GL ks0 ks1) (fun _ => 0) z.1).R.length = 1) ∧ ((pipeAt 1 0 xS k kc0 kc1 kc2 op lo re sl (PipeSt.mk GR GL ks0 ks1) (fun _ => 0) z.1).L.length = 1) ∧ (∀ j, ((pipeAt 1 0 xS k kc0 kc1 kc2 op lo re sl (PipeSt.mk GR GL ks0 ks1) (fun _ => 0) z.1).R.getD j RD.d).xs.length ≤ 1048576) ∧ (∀ j, ((pipeAt 1 0 xS k kc0 kc1 kc2 op lo re sl (PipeSt.mk GR GL ks0 ks1) (fun _ => 0) z.1).L.getD j RD.d).xs.length ≤ 1048576) ∧ ((pipeAt 1 0 xS k kc0 kc1 kc2 op lo re sl (PipeSt.mk GR GL ks0 ks1) (fun _ => 0) z.1).s0 < wid .f32) ∧ ((pipeAt 1 0 xS k kc0 kc1 kc2 op lo re sl (PipeSt.mk GR GL ks0 ks1) (fun _ => 0) z.1).s1 < wid .f32) ∧ (QD (pipeAt 1 0 xS k kc0 kc1 kc2 op lo re sl (PipeSt.mk GR GL ks0 ks1) (fun _ => 0) z.1).R 0 z.2.1) ∧ (z.2.1 ≤ 1048576 + z.1) ∧ (QD (pipeAt 1 0 xS k kc0 kc1 kc2 op lo re sl (PipeSt.mk GR GL ks0 ks1) (fun _ => 0) z.1).L 0 z.2.2) ∧ (z.2.2 ≤ 1048576 + z.1) ∧ (silG (fun ii => pipeSil 1 1 (pipeAt 1 0 xS k kc0 kc1 kc2 op lo re sl (PipeSt.mk GR GL ks0 ks1) (fun _ => 0) ii)) (most + 1 - z.1) z.1 = rv) ∧ Row W p 0 [vS bR 0 1 cR, vS bL 0 1 cL, vS bS 0 0 cS, vI k, vF kc0, vF kc1, vF kc2, vF ((pipeAt 1 0 xS k kc0 kc1 kc2 op lo re sl (PipeSt.mk GR GL ks0 ks1) (fun _ => 0) z.1).s0), vF ((pipeAt 1 0 xS k kc0 kc1 kc2 op lo re sl (PipeSt.mk GR GL ks0 ks1) (fun _ => 0) z.1).s1), .bool op, vF lo, vF re, vF sl] ∧ Row W bR 0 (olc ((pipeAt 1 0 xS k kc0 kc1 kc2 op lo re sl (PipeSt.mk GR GL ks0 ks1) (fun _ => 0) z.1).R) PR) ∧ Row W bL 0 (olc ((pipeAt 1 0 xS k kc0 kc1 kc2 op lo re sl (PipeSt.mk GR GL ks0 ks1) (fun _ => 0) z.1).L) PL) ∧ Row W w.heap.size 0 [vI ((z.2.1 : Nat) : Int), vI ((z.2.2 : Nat) : Int)] ∧ OF loR W ((pipeAt 1 0 xS k kc0 kc1 kc2 op lo re sl (PipeSt.mk GR GL ks0 ks1) (fun _ => 0) z.1).R) PR ∧ OF loL W ((pipeAt 1 0 xS k kc0 kc1 kc2 op lo re sl (PipeSt.mk GR GL ks0 ks1) (fun _ => 0) z.1).L) PL ∧ Mod (p :: bR :: bL :: w.heap.size :: (PR.map BC.b ++ (PL.map BC.b ++ []))) w5 W) (fun (z : Nat × Nat × Nat) => most + 1 - z.1) (0, r2, r7) (⟨rfl, rfl, rfl, rfl, rfl, rfl, rfl, rfl, trivial⟩) ⟨(by omega), (by rw [pipeAt_zero]; exact gR), (by rw [pipeAt_zero]; exact gL), (by rw [pipeAt_zero]; exact lDR), (by rw [pipeAt_zero]; exact lDL), (by exact fun j => Nat.le_trans (Nat.le_of_eq (pipeAt_lens j _).1) (hzR j)), (by exact fun j => Nat.le_trans (Nat.le_of_eq (pipeAt_lens j _).2) (hzL j)), (by rw [pipeAt_zero]; assumption), (by rw [pipeAt_zero]; assumption), (by rw [pipeAt_zero]; assumption), (by first | omega | exact Nat.le_trans (by assumption) (hzR _)), (by rw [pipeAt_zero]; assumption), (by first | omega | exact Nat.le_trans (by assumption) (hzL _)), (by exact erv.symm), (Row.congr r10 (by rw [pipeAt_zero])), (Row.congr r11 (by rw [pipeAt_zero])), (Row.congr ((r6.ext m4).mod m5 (nC (lE (lL rL.lt lR)) nN)) (by rw [pipeAt_zero])), (Row.congr r9 rfl), (OF.congr (((((FR.ext m1).ext m2).mod m3 (fun j hj => (nC (lE (lL (OF.lt FR (Nat.lt_of_lt_of_eq (Nat.lt_of_lt_of_eq hj lDR) lDR.symm)) lR)) nN))).ext m4).mod m5 (fun j hj => (nC (lE (lL (OF.lt FR (Nat.lt_of_lt_of_eq (Nat.lt_of_lt_of_eq hj lDR) lDR.symm)) lR)) nN))) (by rw [pipeAt_zero])), (OF.congr ((fm1.ext m4).mod m5 (fun j hj => (nC (lE (lL (OF.lt FL (Nat.lt_of_lt_of_eq (Nat.lt_of_lt_of_eq hj lDL) lDL.symm)) lR)) nN))) (by rw [pipeAt_zero])), Mod.refl _ _⟩ ?_
 rintro ⟨i, u0, u1⟩ w6 ⟨hi, g1, g2, l1, l2, z1, z2, b0, b1, q0, hu0, q1, hu1, he, r12, r13, r14, r15, fm2, fm3, m6⟩
 replace hi : i ≤ most + 1 := hi
 replace g1 : GoodD (pipeAt 1 0 xS k kc0 kc1 kc2 op lo re sl (PipeSt.mk GR GL ks0 ks1) (fun _ => 0) i).R 1 := g1
 replace g2 : GoodD (pipeAt 1 0 xS k kc0 kc1 kc2 op lo re sl (PipeSt.mk GR GL ks0 ks1) (fun _ => 0) i).L 1 := g2
 replace l1 : (pipeAt 1 0 xS k kc0 kc1 kc2 op lo re sl (PipeSt.mk GR GL ks0 ks1) (fun _ => 0) i).R.length = 1 := l1
 replace l2 : (pipeAt 1 0 xS k kc0 kc1 kc2 op lo re sl (PipeSt.mk GR GL ks0 ks1) (fun _ => 0) i).L.length = 1 := l2
 replace z1 : ∀ j, ((pipeAt 1 0 xS k kc0 kc1 kc2 op lo re sl (PipeSt.mk GR GL ks0 ks1) (fun _ => 0) i).R.getD j RD.d).xs.length ≤ 1048576 := z1
 replace z2 : ∀ j, ((pipeAt 1 0 xS k kc0 kc1 kc2 op lo re sl (PipeSt.mk GR GL ks0 ks1) (fun _ => 0) i).L.getD j RD.d).xs.length ≤ 1048576 := z2
 replace b0 : (pipeAt 1 0 xS k kc0 kc1 kc2 op lo re sl (PipeSt.mk GR GL ks0 ks1) (fun _ => 0) i).s0 < wid .f32 := b0
 replace b1 : (pipeAt 1 0 xS k kc0 kc1 kc2 op lo re sl (PipeSt.mk GR GL ks0 ks1) (fun _ => 0) i).s1 < wid .f32 := b1
 replace q0 : QD (pipeAt 1 0 xS k kc0 kc1 kc2 op lo re sl (PipeSt.mk GR GL ks0 ks1) (fun _ => 0) i).R 0 u0 := q0
 replace hu0 : u0 ≤ 1048576 + i := hu0
 replace q1 : QD (pipeAt 1 0 xS k kc0 kc1 kc2 op lo re sl (PipeSt.mk GR GL ks0 ks1) (fun _ => 0) i).L 0 u1 := q1
 replace hu1 : u1 ≤ 1048576 + i := hu1
 replace he : silG (fun ii => pipeSil 1 1 (pipeAt 1 0 xS k kc0 kc1 kc2 op lo re sl (PipeSt.mk GR GL ks0 ks1) (fun _ => 0) ii)) (most + 1 - i) i = rv := he
 replace r12 : Row w6 p 0 [vS bR 0 1 cR, vS bL 0 1 cL, vS bS 0 0 cS, vI k, vF kc0, vF kc1, vF kc2, vF ((pipeAt 1 0 xS k kc0 kc1 kc2 op lo re sl (PipeSt.mk GR GL ks0 ks1) (fun _ => 0) i).s0), vF ((pipeAt 1 0 xS k kc0 kc1 kc2 op lo re sl (PipeSt.mk GR GL ks0 ks1) (fun _ => 0) i).s1), .bool op, vF lo, vF re, vF sl] := r12
 replace r13 : Row w6 bR 0 (olc ((pipeAt 1 0 xS k kc0 kc1 kc2 op lo re sl (PipeSt.mk GR GL ks0 ks1) (fun _ => 0) i).R) PR) := r13
 replace r14 : Row w6 bL 0 (olc ((pipeAt 1 0 xS k kc0 kc1 kc2 op lo re sl (PipeSt.mk GR GL ks0 ks1) (fun _ => 0) i).L) PL) := r14
 replace r15 : Row w6 w.heap.size 0 [vI ((u0 : Nat) : Int), vI ((u1 : Nat) : Int)] := r15
 replace fm2 : OF loR w6 ((pipeAt 1 0 xS k kc0 kc1 kc2 op lo re sl (PipeSt.mk GR GL ks0 ks1) (fun _ => 0) i).R) PR := fm2
 replace fm3 : OF loL w6 ((pipeAt 1 0 xS k kc0 kc1 kc2 op lo re sl (PipeSt.mk GR GL ks0 ks1) (fun _ => 0) i).L) PL := fm3
 obtain ⟨z, hz⟩ : ∃ z, z = (pipeAt 1 0 xS k kc0 kc1 kc2 op lo re sl (PipeSt.mk GR GL ks0 ks1) (fun _ => 0) i) := ⟨_, rfl⟩
 replace g1 : GoodD z.R 1 := by rw [hz]; exact g1
 replace g2 : GoodD z.L 1 := by rw [hz]; exact g2
 replace l1 : z.R.length = 1 := by rw [hz]; exact l1
 replace l2 : z.L.length = 1 := by rw [hz]; exact l2
 replace z1 : ∀ j, (z.R.getD j RD.d).xs.length ≤ 1048576 := by rw [hz]; exact z1
 replace z2 : ∀ j, (z.L.getD j RD.d).xs.length ≤ 1048576 := by rw [hz]; exact z2
 replace b0 : z.s0 < wid .f32 := by rw [hz]; exact b0
 replace b1 : z.s1 < wid .f32 := by rw [hz]; exact b1
 replace q0 : QD z.R 0 u0 := by rw [hz]; exact q0
 replace q1 : QD z.L 0 u1 := by rw [hz]; exact q1
 replace r12 : Row w6 p 0 [vS bR 0 1 cR, vS bL 0 1 cL, vS bS 0 0 cS, vI k, vF kc0, vF kc1, vF kc2, vF (z.s0), vF (z.s1), .bool op, vF lo, vF re, vF sl] := by rw [hz]; exact r12
 replace r13 : Row w6 bR 0 (olc z.R PR) := by rw [hz]; exact r13
 replace r14 : Row w6 bL 0 (olc z.L PL) := by rw [hz]; exact r14
 replace fm2 : OF loR w6 z.R PR := by rw [hz]; exact fm2
 replace fm3 : OF loL w6 z.L PL := by rw [hz]; exact fm3
 obtain ⟨zn, hzn⟩ : ∃ zn, zn = pipeNext 1 0 xS k kc0 kc1 kc2 op lo re sl z 0 := ⟨_, rfl⟩
 have hzs : (pipeAt 1 0 xS k kc0 kc1 kc2 op lo re sl (PipeSt.mk GR GL ks0 ks1) (fun _ => 0) (i + 1)) = zn := by rw [pipeAt_succ, ← hz, hzn]
 have zn1 : ∀ j, (zn.R.getD j RD.d).xs.length ≤ 1048576 := fun j => by rw [← hzs]; exact Nat.le_trans (Nat.le_of_eq (pipeAt_lens j _).1) (hzR j)
 have zn2 : ∀ j, (zn.L.getD j RD.d).xs.length ≤ 1048576 := fun j => by rw [← hzs]; exact Nat.le_trans (Nat.le_of_eq (pipeAt_lens j _).2) (hzL j)
 have hzE : ∀ b, pipeSil 1 1 z = b → (fun ii => pipeSil 1 1 (pipeAt 1 0 xS k kc0 kc1 kc2 op lo re sl (PipeSt.mk GR GL ks0 ks1) (fun _ => 0) ii)) i = b := fun b h => by rw [hz] at h; exact h
 show CE _ _ _ _ [(13, vI ((i : Nat) : Int)), (0, vI ((most : Nat) : Int)), (1, vS e 0 2 ce), (2, .func (.func 66) #[] #[vP p 0]), (3, .func (.func 68) #[] #[vP p 0]), (8, vI 0), (9, vI 0), (10, vS w.heap.size 0 2 2)] _
 refine CE.seq (CE.seq (CE.region ?_))
 iterate 2 refine WL.det (op_move rfl) rfl rfl rfl ?_
 refine WL.det (op_lei rfl rfl) rfl rfl rfl ?_
 refine WL.end (NE.code ?_)
 rcases Bool.eq_false_or_eq_true (decide (((i : Nat) : Int) ≤ ((most : Nat) : Int))) with hb1 | hb1
 ·have hp1 := of_decide_eq_true hb1
  refine CE.cond_t rfl hb1 ?_
  refine CE.skip' (NE.code (CE.seq (CE.block (CE.seq (CE.region ?_)))))
  refine WL.det (op_move rfl) rfl rfl rfl ?_
  refine WL.call (oc_call (vs := []) (cap := [vP p 0]) rfl rfl rfl Try.call66 (c_silP1 1 1 0 cR bR cL bL cS bS k kc0 kc1 kc2 (z.s0) (z.s1) op lo re sl p w6 r12.rng)) rfl rfl (ltb rfl) ?_
  rintro _ w7 ⟨rfl, m7⟩
  refine WL.det (op_assign rfl) rfl rfl rfl ?_
  refine WL.end (NE.code (CE.seq (CE.seq (CE.region ?_))))
  refine WL.det (op_move rfl) rfl rfl rfl ?_
  refine WL.det (op_len rfl Try.runUnderlying97) rfl rfl rfl ?_
  refine WL.det (op_move rfl) rfl rfl rfl ?_
  refine WL.end (NE.code (CE.block ?_))
  refine CE.rounds 3 ?_
  refine RN.one (CE.seq (CE.region ?_))
  refine WL.det (op_lti rfl rfl) rfl rfl rfl ?_
  refine WL.end (NE.code (CE.seq ?_))
  refine CE.cond_t rfl rfl ?_
  refine CE.skip' (NE.code (CE.seq ?_))
  refine CE.cut (fun ρ W => ρ = [(14, .bool ((stillF (z.s0) (z.s1)) && decide ((((z.R.getD 0 RD.d).xs.length : Nat) : Int) ≤ ((u0 : Nat) : Int)))), (13, vI ((i : Nat) : Int)), (0, vI ((most : Nat) : Int)), (1, vS e 0 2 ce), (2, .func (.func 66) #[] #[vP p 0]), (3, .func (.func 68) #[] #[vP p 0]), (8, vI 0), (9, vI 0), (10, vS w.heap.size 0 2 2), (44, vS e 0 2 ce), (45, vI 2), (46, vI 0)] ∧ Mod [] w7 W) ?_ ?_
  ·refine CE.block (CE.seq (CE.region ?_))
   refine WL.det (op_move rfl) rfl rfl rfl ?_
   refine WL.det (op_indexSl (off' := 0) rfl rfl rfl Try.runUnderlying97 Try.sizeOf112 (by omega) (by omega) rfl) rfl rfl rfl ?_
   have r16 := (((Rng.youngS rE (r5.ext m4) m5 (allge_cons lR allge_nil)).mod m6 (nC n7 (nC n8 (nC n9 (nC (lE (lL (rE.lt (Nat.succ_pos _)) lR)) (nA lPR (fun j hj => (gRe j hj)) (nA lPL (fun j hj => (gLe j hj)) nN))))))).ext m7)
   refine WL.det (op_load1 (i := 0) rfl Try.isAgg112 r16 rfl rfl) rfl rfl rfl ?_
   iterate 2 refine WL.det (op_assign rfl) rfl rfl rfl ?_
   refine WL.end (NE.code ?_)
   rcases Bool.eq_false_or_eq_true ((stillF (z.s0) (z.s1))) with hb2 | hb2
   ·refine CE.draw (fun | 10 => some (fun _ wA uA wB => uA = vI ((((z.R.getD 0 RD.d).xs.length) : Nat) : Int) ∧ wA = wB) | _ => none) [0, 1, 2, 3, 4, 5, 6, 7, 8, 9, 10] [11, 12, 13] [] (by kernel_rfl) (by kernel_rfl) ?_
    have md1 : Mod [] w7 w7.drew := (Mod.refl _ _).drew
    generalize w7.drew = w8 at md1 ⊢
    refine DR.det (i := 0) rfl rfl (by kernel_rfl) (.free rfl) rfl rfl (fun wD mD => op_move rfl) ?_
    refine DR.det (i := 1) rfl rfl (by kernel_rfl) (.free rfl) rfl rfl (fun wD mD => op_move rfl) ?_
    refine DR.det (i := 2) rfl rfl (by kernel_rfl) (.yes rfl rfl rfl (ltb rfl) rfl hb2) rfl rfl (fun wD mD => op_move rfl) ?_
    refine DR.det (i := 3) rfl rfl (by kernel_rfl) (.yes rfl rfl rfl (ltb rfl) rfl hb2) rfl rfl (fun wD mD => op_move rfl) ?_
    refine DR.det (i := 4) rfl rfl (by kernel_rfl) (.yes rfl rfl rfl (ltb rfl) rfl hb2) rfl rfl (fun wD mD => op_indexSl (off' := 0) rfl rfl rfl Try.runUnderlying36 Try.sizeOf2 (by omega) (by omega) rfl) ?_
    refine DR.det (i := 5) rfl rfl (by kernel_rfl) (.yes rfl rfl rfl (ltb rfl) rfl hb2) rfl rfl (fun wD mD => op_load1 (i := 0) rfl Try.isAgg2 (((r15.ext m7).ext md1).ext mD).rng rfl rfl) ?_
    refine DR.det (i := 6) rfl rfl (by kernel_rfl) (.yes rfl rfl rfl (ltb rfl) rfl hb2) rfl rfl (fun wD mD => op_move rfl) ?_
    refine DR.det (i := 7) rfl rfl (by kernel_rfl) (.yes rfl rfl rfl (ltb rfl) rfl hb2) rfl rfl (fun wD mD => op_nilCheck rfl) ?_
    refine DR.det (i := 8) rfl rfl (by kernel_rfl) (.yes rfl rfl rfl (ltb rfl) rfl hb2) rfl rfl (fun wD mD => op_fieldAddr (off' := 0) rfl Try.runUnderlying60 rfl rfl Try.sizeOf26 rfl) ?_
    refine DR.det (i := 9) rfl rfl (by kernel_rfl) (.yes rfl rfl rfl (ltb rfl) rfl hb2) rfl rfl (fun wD mD => op_load1 (i := 0 * 2) rfl Try.isAgg26 (((r13.ext m7).ext md1).ext mD).rng rfl (olc_get0 l1 lPR (show 0 < 1 by omega))) ?_
    refine DR.call (i := 10) (fun uA => uA = vI ((((z.R.getD 0 RD.d).xs.length) : Nat) : Int)) rfl rfl (by kernel_rfl) (.yes rfl rfl rfl (ltb rfl) rfl hb2) rfl (ltb rfl) ⟨_, rfl⟩ (vs := [.func (.func 118) #[] #[], vS ((PR.getD 0 BC.d).b) 0 ((z.R.getD 0 RD.d).xs.length) ((PR.getD 0 BC.d).c)]) rfl (fun wD mD => oc_call (vs := [vS ((PR.getD 0 BC.d).b) 0 ((z.R.getD 0 RD.d).xs.length) ((PR.getD 0 BC.d).c)]) (cap := []) rfl rfl rfl Try.call118 (c_length32 ((z.R.getD 0 RD.d).xs.length) ((PR.getD 0 BC.d).c) (some ⟨(PR.getD 0 BC.d).b, 0, none⟩) wD)) ?_ ?_
    ·rintro w1 _ _ m1 ⟨rfl, rfl⟩; exact ⟨rfl, Mod.refl _ _⟩
    rintro _ rfl
    refine DR.done rfl ?_
    intro w9 m8
    refine WO.det (op_gei rfl rfl) rfl (.yes rfl rfl rfl (ltb rfl) rfl hb2) rfl rfl ?_
    refine WO.det (op_pick_t rfl hb2 rfl) rfl (.free rfl) rfl rfl ?_
    refine WO.det (op_assign rfl) rfl (.free rfl) rfl rfl ?_
    refine WO.end (NE.blk ?_)
    exact NE.cutend [(14, .bool ((stillF (z.s0) (z.s1)) && decide ((((z.R.getD 0 RD.d).xs.length : Nat) : Int) ≤ ((u0 : Nat) : Int)))), (13, vI ((i : Nat) : Int)), (0, vI ((most : Nat) : Int)), (1, vS e 0 2 ce), (2, .func (.func 66) #[] #[vP p 0]), (3, .func (.func 68) #[] #[vP p 0]), (8, vI 0), (9, vI 0), (10, vS w.heap.size 0 2 2), (44, vS e 0 2 ce), (45, vI 2), (46, vI 0)] ⟨(lk_bool (by simp only [hb2, Bool.true_and, Bool.false_and])), rfl, rfl, rfl, rfl, rfl, rfl, rfl, rfl, rfl, rfl, rfl, trivial⟩ ⟨rfl, (((Mod.refl [] w7).nt md1).nt m8)⟩
   ·refine CE.draw (fun _ => none) [0, 1, 2, 3, 4, 5, 6, 7, 8, 9, 10] [11, 12, 13] [] (by kernel_rfl) (by kernel_rfl) ?_
    have md2 : Mod [] w7 w7.drew := (Mod.refl _ _).drew
    generalize w7.drew = w10 at md2 ⊢
    refine DR.det (i := 0) rfl rfl (by kernel_rfl) (.free rfl) rfl rfl (fun wD mD => op_move rfl) ?_
    refine DR.det (i := 1) rfl rfl (by kernel_rfl) (.free rfl) rfl rfl (fun wD mD => op_move rfl) ?_
    refine DR.skip (i := 2) rfl (by kernel_rfl) (.no rfl rfl rfl (ltb rfl) rfl hb2) rfl (ltb rfl) ?_
    refine DR.skip (i := 3) rfl (by kernel_rfl) (.no rfl rfl rfl (ltb rfl) rfl hb2) rfl (ltb rfl) ?_
    refine DR.skip (i := 4) rfl (by kernel_rfl) (.no rfl rfl rfl (ltb rfl) rfl hb2) rfl (ltb rfl) ?_
    refine DR.skip (i := 5) rfl (by kernel_rfl) (.no rfl rfl rfl (ltb rfl) rfl hb2) rfl (ltb rfl) ?_
    refine DR.skip (i := 6) rfl (by kernel_rfl) (.no rfl rfl rfl (ltb rfl) rfl hb2) rfl (ltb rfl) ?_
    refine DR.skip (i := 7) rfl (by kernel_rfl) (.no rfl rfl rfl (ltb rfl) rfl hb2) rfl (ltb rfl) ?_
    refine DR.skip (i := 8) rfl (by kernel_rfl) (.no rfl rfl rfl (ltb rfl) rfl hb2) rfl (ltb rfl) ?_
    refine DR.skip (i := 9) rfl (by kernel_rfl) (.no rfl rfl rfl (ltb rfl) rfl hb2) rfl (ltb rfl) ?_
    refine DR.skip (i := 10) rfl (by kernel_rfl) (.no rfl rfl rfl (ltb rfl) rfl hb2) rfl (ltb rfl) ?_
    refine DR.done rfl ?_
    intro w11 m9
    refine WO.skip rfl (.no rfl rfl rfl (ltb rfl) rfl hb2) rfl (ltb rfl) ?_
    refine WO.det (op_pick_f rfl hb2 rfl) rfl (.free rfl) rfl rfl ?_
    refine WO.det (op_assign rfl) rfl (.free rfl) rfl rfl ?_
    refine WO.end (NE.blk ?_)
    exact NE.cutend [(14, .bool ((stillF (z.s0) (z.s1)) && decide ((((z.R.getD 0 RD.d).xs.length : Nat) : Int) ≤ ((u0 : Nat) : Int)))), (13, vI ((i : Nat) : Int)), (0, vI ((most : Nat) : Int)), (1, vS e 0 2 ce), (2, .func (.func 66) #[] #[vP p 0]), (3, .func (.func 68) #[] #[vP p 0]), (8, vI 0), (9, vI 0), (10, vS w.heap.size 0 2 2), (44, vS e 0 2 ce), (45, vI 2), (46, vI 0)] ⟨(lk_bool (by simp only [hb2, Bool.true_and, Bool.false_and])), rfl, rfl, rfl, rfl, rfl, rfl, rfl, rfl, rfl, rfl, rfl, trivial⟩ ⟨rfl, (((Mod.refl [] w7).nt md2).nt m9)⟩
  rintro _ w12 ⟨rfl, m10⟩
  refine NE.code (CE.region ?_)
  refine WL.det (op_add (r := 1) rfl rfl (by decide)) rfl rfl rfl ?_
  refine WL.det (op_move rfl) rfl rfl rfl ?_
  refine WL.end (NE.round (RN.one (CE.seq (CE.region ?_))))
  refine WL.det (op_lti rfl rfl) rfl rfl rfl ?_
  refine WL.end (NE.code (CE.seq ?_))
  refine CE.cond_t rfl rfl ?_
  refine CE.skip' (NE.code (CE.seq ?_))
  refine CE.cut (fun ρ W => ρ = [(14, .bool (((stillF (z.s0) (z.s1)) && decide ((((z.R.getD 0 RD.d).xs.length : Nat) : Int) ≤ ((u0 : Nat) : Int))) && decide ((((z.L.getD 0 RD.d).xs.length : Nat) : Int) ≤ ((u1 : Nat) : Int)))), (13, vI ((i : Nat) : Int)), (0, vI ((most : Nat) : Int)), (1, vS e 0 2 ce), (2, .func (.func 66) #[] #[vP p 0]), (3, .func (.func 68) #[] #[vP p 0]), (8, vI 0), (9, vI 0), (10, vS w.heap.size 0 2 2), (44, vS e 0 2 ce), (45, vI 2), (46, vI 1)] ∧ Mod [] w12 W) ?_ ?_
  ·refine CE.block (CE.seq (CE.region ?_))
   refine WL.det (op_move rfl) rfl rfl rfl ?_
   refine WL.det (op_indexSl (off' := 1) rfl rfl rfl Try.runUnderlying97 Try.sizeOf112 (by omega) (by omega) rfl) rfl rfl rfl ?_
   have r17 := ((((Rng.youngS rE (r5.ext m4) m5 (allge_cons lR allge_nil)).mod m6 (nC n7 (nC n8 (nC n9 (nC (lE (lL (rE.lt (Nat.succ_pos _)) lR)) (nA lPR (fun j hj => (gRe j hj)) (nA lPL (fun j hj => (gLe j hj)) nN))))))).ext m7).ext m10)
   refine WL.det (op_load1 (i := 1) rfl Try.isAgg112 r17 rfl rfl) rfl rfl rfl ?_
   iterate 2 refine WL.det (op_assign rfl) rfl rfl rfl ?_
   refine WL.end (NE.code ?_)
   rcases Bool.eq_false_or_eq_true ((stillF (z.s0) (z.s1)) && decide ((((z.R.getD 0 RD.d).xs.length : Nat) : Int) ≤ ((u0 : Nat) : Int))) with hb3 | hb3
   ·have hp3 := hb3; try simp only [Bool.and_eq_true, Bool.or_eq_true, Bool.not_eq_true', Bool.not_eq_false', Bool.and_eq_false_iff, Bool.or_eq_false_iff, decide_eq_true_eq, decide_eq_false_iff_not, beq_iff_eq, bne_iff_ne, beq_eq_false_iff_ne, bne_eq_false_iff_eq, ne_eq, Bool.false_eq_true, not_false_eq_true, not_true_eq_false, vIn_t, vIn_f] at hp3
    refine CE.draw (fun | 10 => some (fun _ wA uA wB => uA = vI ((((z.L.getD 0 RD.d).xs.length) : Nat) : Int) ∧ wA = wB) | _ => none) [0, 1, 2, 3, 4, 5, 6, 7, 8, 9, 10] [11, 12, 13] [] (by kernel_rfl) (by kernel_rfl) ?_
    have md3 : Mod [] w12 w12.drew := (Mod.refl _ _).drew
    generalize w12.drew = w13 at md3 ⊢
    refine DR.det (i := 0) rfl rfl (by kernel_rfl) (.free rfl) rfl rfl (fun wD mD => op_move rfl) ?_
    refine DR.det (i := 1) rfl rfl (by kernel_rfl) (.free rfl) rfl rfl (fun wD mD => op_move rfl) ?_
    refine DR.det (i := 2) rfl rfl (by kernel_rfl) (.yes rfl rfl rfl (ltb rfl) rfl hb3) rfl rfl (fun wD mD => op_move rfl) ?_
    refine DR.det (i := 3) rfl rfl (by kernel_rfl) (.yes rfl rfl rfl (ltb rfl) rfl hb3) rfl rfl (fun wD mD => op_move rfl) ?_
    refine DR.det (i := 4) rfl rfl (by kernel_rfl) (.yes rfl rfl rfl (ltb rfl) rfl hb3) rfl rfl (fun wD mD => op_indexSl (off' := 1) rfl rfl rfl Try.runUnderlying36 Try.sizeOf2 (by omega) (by omega) rfl) ?_
    refine DR.det (i := 5) rfl rfl (by kernel_rfl) (.yes rfl rfl rfl (ltb rfl) rfl hb3) rfl rfl (fun wD mD => op_load1 (i := 1) rfl Try.isAgg2 ((((r15.ext m7).ext m10).ext md3).ext mD).rng rfl rfl) ?_
    refine DR.det (i := 6) rfl rfl (by kernel_rfl) (.yes rfl rfl rfl (ltb rfl) rfl hb3) rfl rfl (fun wD mD => op_move rfl) ?_
    refine DR.det (i := 7) rfl rfl (by kernel_rfl) (.yes rfl rfl rfl (ltb rfl) rfl hb3) rfl rfl (fun wD mD => op_nilCheck rfl) ?_
    refine DR.det (i := 8) rfl rfl (by kernel_rfl) (.yes rfl rfl rfl (ltb rfl) rfl hb3) rfl rfl (fun wD mD => op_fieldAddr (off' := 0) rfl Try.runUnderlying60 rfl rfl Try.sizeOf26 rfl) ?_
    refine DR.det (i := 9) rfl rfl (by kernel_rfl) (.yes rfl rfl rfl (ltb rfl) rfl hb3) rfl rfl (fun wD mD => op_load1 (i := 0 * 2) rfl Try.isAgg26 ((((r14.ext m7).ext m10).ext md3).ext mD).rng rfl (olc_get0 l2 lPL (show 0 < 1 by omega))) ?_
    refine DR.call (i := 10) (fun uA => uA = vI ((((z.L.getD 0 RD.d).xs.length) : Nat) : Int)) rfl rfl (by kernel_rfl) (.yes rfl rfl rfl (ltb rfl) rfl hb3) rfl (ltb rfl) ⟨_, rfl⟩ (vs := [.func (.func 118) #[] #[], vS ((PL.getD 0 BC.d).b) 0 ((z.L.getD 0 RD.d).xs.length) ((PL.getD 0 BC.d).c)]) rfl (fun wD mD => oc_call (vs := [vS ((PL.getD 0 BC.d).b) 0 ((z.L.getD 0 RD.d).xs.length) ((PL.getD 0 BC.d).c)]) (cap := []) rfl rfl rfl Try.call118 (c_length32 ((z.L.getD 0 RD.d).xs.length) ((PL.getD 0 BC.d).c) (some ⟨(PL.getD 0 BC.d).b, 0, none⟩) wD)) ?_ ?_
    ·rintro w1 _ _ m1 ⟨rfl, rfl⟩; exact ⟨rfl, Mod.refl _ _⟩
    rintro _ rfl
    refine DR.done rfl ?_
    intro w14 m11
    refine WO.det (op_gei rfl rfl) rfl (.yes rfl rfl rfl (ltb rfl) rfl hb3) rfl rfl ?_
    refine WO.det (op_pick_t rfl hb3 rfl) rfl (.free rfl) rfl rfl ?_
    refine WO.det (op_assign rfl) rfl (.free rfl) rfl rfl ?_
    refine WO.end (NE.blk ?_)
    exact NE.cutend [(14, .bool (((stillF (z.s0) (z.s1)) && decide ((((z.R.getD 0 RD.d).xs.length : Nat) : Int) ≤ ((u0 : Nat) : Int))) && decide ((((z.L.getD 0 RD.d).xs.length : Nat) : Int) ≤ ((u1 : Nat) : Int)))), (13, vI ((i : Nat) : Int)), (0, vI ((most : Nat) : Int)), (1, vS e 0 2 ce), (2, .func (.func 66) #[] #[vP p 0]), (3, .func (.func 68) #[] #[vP p 0]), (8, vI 0), (9, vI 0), (10, vS w.heap.size 0 2 2), (44, vS e 0 2 ce), (45, vI 2), (46, vI 1)] ⟨(lk_bool (by simp only [hb3, Bool.true_and, Bool.false_and])), rfl, rfl, rfl, rfl, rfl, rfl, rfl, rfl, rfl, rfl, rfl, trivial⟩ ⟨rfl, (((Mod.refl [] w12).nt md3).nt m11)⟩
   ·have hp3 := hb3; try simp only [Bool.and_eq_true, Bool.or_eq_true, Bool.not_eq_true', Bool.not_eq_false', Bool.and_eq_false_iff, Bool.or_eq_false_iff, decide_eq_true_eq, decide_eq_false_iff_not, beq_iff_eq, bne_iff_ne, beq_eq_false_iff_ne, bne_eq_false_iff_eq, ne_eq, Bool.false_eq_true, not_false_eq_true, not_true_eq_false, vIn_t, vIn_f] at hp3
    refine CE.draw (fun _ => none) [0, 1, 2, 3, 4, 5, 6, 7, 8, 9, 10] [11, 12, 13] [] (by kernel_rfl) (by kernel_rfl) ?_
    have md4 : Mod [] w12 w12.drew := (Mod.refl _ _).drew
    generalize w12.drew = w15 at md4 ⊢
    refine DR.det (i := 0) rfl rfl (by kernel_rfl) (.free rfl) rfl rfl (fun wD mD => op_move rfl) ?_
    refine DR.det (i := 1) rfl rfl (by kernel_rfl) (.free rfl) rfl rfl (fun wD mD => op_move rfl) ?_
    refine DR.skip (i := 2) rfl (by kernel_rfl) (.no rfl rfl rfl (ltb rfl) rfl hb3) rfl (ltb rfl) ?_
    refine DR.skip (i := 3) rfl (by kernel_rfl) (.no rfl rfl rfl (ltb rfl) rfl hb3) rfl (ltb rfl) ?_
    refine DR.skip (i := 4) rfl (by kernel_rfl) (.no rfl rfl rfl (ltb rfl) rfl hb3) rfl (ltb rfl) ?_
    refine DR.skip (i := 5) rfl (by kernel_rfl) (.no rfl rfl rfl (ltb rfl) rfl hb3) rfl (ltb rfl) ?_
    refine DR.skip (i := 6) rfl (by kernel_rfl) (.no rfl rfl rfl (ltb rfl) rfl hb3) rfl (ltb rfl) ?_
    refine DR.skip (i := 7) rfl (by kernel_rfl) (.no rfl rfl rfl (ltb rfl) rfl hb3) rfl (ltb rfl) ?_
    refine DR.skip (i := 8) rfl (by kernel_rfl) (.no rfl rfl rfl (ltb rfl) rfl hb3) rfl (ltb rfl) ?_
    refine DR.skip (i := 9) rfl (by kernel_rfl) (.no rfl rfl rfl (ltb rfl) rfl hb3) rfl (ltb rfl) ?_
    refine DR.skip (i := 10) rfl (by kernel_rfl) (.no rfl rfl rfl (ltb rfl) rfl hb3) rfl (ltb rfl) ?_
    refine DR.done rfl ?_
    intro w16 m12
    refine WO.skip rfl (.no rfl rfl rfl (ltb rfl) rfl hb3) rfl (ltb rfl) ?_
    refine WO.det (op_pick_f rfl hb3 rfl) rfl (.free rfl) rfl rfl ?_
    refine WO.det (op_assign rfl) rfl (.free rfl) rfl rfl ?_
    refine WO.end (NE.blk ?_)
    exact NE.cutend [(14, .bool (((stillF (z.s0) (z.s1)) && decide ((((z.R.getD 0 RD.d).xs.length : Nat) : Int) ≤ ((u0 : Nat) : Int))) && decide ((((z.L.getD 0 RD.d).xs.length : Nat) : Int) ≤ ((u1 : Nat) : Int)))), (13, vI ((i : Nat) : Int)), (0, vI ((most : Nat) : Int)), (1, vS e 0 2 ce), (2, .func (.func 66) #[] #[vP p 0]), (3, .func (.func 68) #[] #[vP p 0]), (8, vI 0), (9, vI 0), (10, vS w.heap.size 0 2 2), (44, vS e 0 2 ce), (45, vI 2), (46, vI 1)] ⟨(lk_bool (by simp only [hb3, Bool.true_and, Bool.false_and])), rfl, rfl, rfl, rfl, rfl, rfl, rfl, rfl, rfl, rfl, rfl, trivial⟩ ⟨rfl, (((Mod.refl [] w12).nt md4).nt m12)⟩
  rintro _ w17 ⟨rfl, m13⟩
  have hE := sil1 g1 g2 q0 q1
  refine NE.code (CE.region ?_)
  refine WL.det (op_add (r := 2) rfl rfl (by decide)) rfl rfl rfl ?_
  refine WL.det (op_move rfl) rfl rfl rfl ?_
  refine WL.end (NE.round (RN.one (CE.seq (CE.region ?_))))
  refine WL.det (op_lti rfl rfl) rfl rfl rfl ?_
  refine WL.end (NE.code (CE.seq ?_))
  refine CE.cond_f rfl rfl ?_
  refine CE.exit' (XE.exit_then (XE.exit_then (XE.exit_here (NE.code (CE.seq (CE.seq (CE.region ?_)))))))
  refine WL.det (op_move rfl) rfl rfl rfl ?_
  refine WL.end (NE.code ?_)
  rcases Bool.eq_false_or_eq_true (((stillF (z.s0) (z.s1)) && decide ((((z.R.getD 0 RD.d).xs.length : Nat) : Int) ≤ ((u0 : Nat) : Int))) && decide ((((z.L.getD 0 RD.d).xs.length : Nat) : Int) ≤ ((u1 : Nat) : Int))) with hbE | hbE
  ·have hpE := hbE; try simp only [Bool.and_eq_true, Bool.or_eq_true, Bool.not_eq_true', Bool.not_eq_false', Bool.and_eq_false_iff, Bool.or_eq_false_iff, decide_eq_true_eq, decide_eq_false_iff_not, beq_iff_eq, bne_iff_ne, beq_eq_false_iff_ne, bne_eq_false_iff_eq, ne_eq, Bool.false_eq_true, not_false_eq_true, not_true_eq_false, vIn_t, vIn_f] at hpE
   refine CE.cond_t rfl hbE ?_
   refine CE.seq (CE.region ?_)
   refine WL.det (op_move rfl) rfl rfl rfl ?_
   iterate 2 refine WL.det (op_assign rfl) rfl rfl rfl ?_
   refine WL.end (NE.code (CE.ret' (XE.ret_then (XE.ret_blk (XE.ret_then (XE.ret_then (XE.ret_blk (XE.ret_then ?_))))))))
   refine XE.leaveT Try.results64 (res_tmp rfl (res_tmp rfl res_nil)) ?_
   refine ⟨?_, ((((((((((Mod.refl (p :: bR :: bL :: (PR.map BC.b ++ (PL.map BC.b ++ []))) w).nt m1).nt m2).then m3 ((aC (.inr lR) aN))).nt m4).then m5 ((aC (.inr lR) aN))).then m6 ((aC (.inl (by simp)) (aC (.inl (by simp)) (aC (.inl (by simp)) (aC (.inr lR) (aI (fun x hx => by simp only [List.mem_cons, List.mem_append, hx, true_or, or_true]) (aI (fun x hx => by simp only [List.mem_cons, List.mem_append, hx, true_or, or_true]) aN)))))))).nt m7).nt m10).nt m13)⟩
   all_goals first | (rw [← he, silG_yes (hzE _ (hE.symm.trans hbE)) (by omega)]; done) | (rw [← he, silG_no (by omega)]; done)
  ·have hpE := hbE; try simp only [Bool.and_eq_true, Bool.or_eq_true, Bool.not_eq_true', Bool.not_eq_false', Bool.and_eq_false_iff, Bool.or_eq_false_iff, decide_eq_true_eq, decide_eq_false_iff_not, beq_iff_eq, bne_iff_ne, beq_eq_false_iff_ne, bne_eq_false_iff_eq, ne_eq, Bool.false_eq_true, not_false_eq_true, not_true_eq_false, vIn_t, vIn_f] at hpE
   refine CE.cond_f rfl hbE ?_
   refine CE.skip' (NE.code (CE.seq (CE.region ?_)))
   refine WL.det (op_move rfl) rfl rfl rfl ?_
   have r18 := (((r12.ext m7).ext m10).ext m13)
   have r19 := (((r13.ext m7).ext m10).ext m13)
   have r20 := (((r14.ext m7).ext m10).ext m13)
   refine WL.call (oc_call (vs := []) (cap := [vP p 0]) rfl rfl rfl Try.call68 (c_silP2 1 z.R 1 z.L 0 xS cR bR PR loR cL bL PL loL cS bS k kc0 kc1 kc2 (z.s0) (z.s1) op lo re sl p zn l1 l2 lnS (by first | assumption | exact rd_small (by assumption) (by assumption) | exact markD_small (by first | assumption | exact rd_small (by assumption) (by assumption)) _) (by first | assumption | exact rd_small (by assumption) (by assumption) | exact markD_small (by first | assumption | exact rd_small (by assumption) (by assumption)) _) lPR lPL (by first | assumption | omega) (by first | assumption | omega) (by first | assumption | omega) (by first | assumption | omega) (by assumption) (by assumption) b0 b1 (by exact hzn) w17 r18 r19 r20 (rng_len0 lnS) n1 n2 n3 n4 n5 n6 (((fm2.ext m7).ext m10).ext m13) (fun j hj => (gRp j hj)) (fun j hj => (gRR j hj)) (fun j hj => (gRL j hj)) (fun j hj => (gRS j hj)) (fun j q hj hq => (gPP j q hj hq)) (((fm3.ext m7).ext m10).ext m13) (fun j hj => (gLp j hj)) (fun j hj => (gLR j hj)) (fun j hj => (gLL j hj)) (fun j hj => (gLS j hj)))) rfl rfl (ltb rfl) ?_
   rintro _ w18 ⟨rfl, h5, h6, h7, h8, h9, h10, r21, r22, r23, fm4, fm5, m14⟩
   refine WL.end (NE.code (CE.seq (CE.region ?_)))
   refine WL.det (op_move rfl) rfl rfl rfl ?_
   refine WL.det (op_len rfl Try.runUnderlying97) rfl rfl rfl ?_
   refine WL.det (op_move rfl) rfl rfl rfl ?_
   refine WL.end (NE.code (CE.block ?_))
   refine CE.rounds 3 ?_
   refine RN.one (CE.seq (CE.region ?_))
   refine WL.det (op_lti rfl rfl) rfl rfl rfl ?_
   refine WL.end (NE.code (CE.seq ?_))
   refine CE.cond_t rfl rfl ?_
   refine CE.skip' (NE.code (CE.seq (CE.block (CE.seq (CE.region ?_)))))
   refine WL.det (op_move rfl) rfl rfl rfl ?_
   refine WL.det (op_indexSl (off' := 0) rfl rfl rfl Try.runUnderlying97 Try.sizeOf112 (by omega) (by omega) rfl) rfl rfl rfl ?_
   have r24 := ((((((Rng.youngS rE (r5.ext m4) m5 (allge_cons lR allge_nil)).mod m6 (nC n7 (nC n8 (nC n9 (nC (lE (lL (rE.lt (Nat.succ_pos _)) lR)) (nA lPR (fun j hj => (gRe j hj)) (nA lPL (fun j hj => (gLe j hj)) nN))))))).ext m7).ext m10).ext m13).mod m14 (nC n7 (nC n8 (nC n9 (nA lPR (fun j hj => (gRe j hj)) (nA lPL (fun j hj => (gLe j hj)) nN))))))
   refine WL.det (op_load1 (i := 0) rfl Try.isAgg112 r24 rfl rfl) rfl rfl rfl ?_
   iterate 2 refine WL.det (op_assign rfl) rfl rfl rfl ?_
   refine WL.end (NE.code (CE.seq (CE.region ?_)))
   iterate 2 refine WL.det (op_move rfl) rfl rfl rfl ?_
   refine WL.det (op_indexSl (off' := 0) rfl rfl rfl Try.runUnderlying36 Try.sizeOf2 (by omega) (by omega) rfl) rfl rfl rfl ?_
   have r25 := ((((r15.ext m7).ext m10).ext m13).mod m14 (nC (lG (lL q.lt lR)) (nC (lG (lL rR.lt lR)) (nC (lG (lL rL.lt lR)) (nA lPR (fun j hj => (lE (lL (OF.lt FR (Nat.lt_of_lt_of_eq hj lDR.symm)) lR))) (nA lPL (fun j hj => (lE (lL (OF.lt FL (Nat.lt_of_lt_of_eq hj lDL.symm)) lR))) nN))))))
   refine WL.det (op_load1 (i := 0) rfl Try.isAgg2 r25.rng rfl rfl) rfl rfl rfl ?_
   refine WL.det (op_add (r := ((u0 + 1 : Nat) : Int)) rfl rfl (w_i64 (by omega) (by omega))) rfl rfl rfl ?_
   refine WL.det (op_indexSl (off' := 0) rfl rfl rfl Try.runUnderlying36 Try.sizeOf2 (by omega) (by omega) rfl) rfl rfl rfl ?_
   refine WL.op0 (op_store (i := 0) (cs := [vI ((u0 + 1 : Nat) : Int)]) rfl rfl rfl Try.sizeOf2 rfl r25 rfl (lB rfl) rfl) rfl rfl ?_
   rintro _ w19 ⟨r26, m15, z4⟩
   have r27 : Row w19 w.heap.size 0 [vI ((u0 + 1 : Nat) : Int), vI ((u1 : Nat) : Int)] := Row.congr r26 rfl
   refine WL.end (NE.code (CE.seq (CE.region ?_)))
   refine WL.det (op_move rfl) rfl rfl rfl ?_
   refine WL.det (op_nilCheck rfl) rfl rfl rfl ?_
   refine WL.det (op_loadA (i := 0 * 2) (cs := [vS ((PR.getD 0 BC.d).b) 0 ((zn.R.getD 0 RD.d).xs.length) ((PR.getD 0 BC.d).c), vI ((zn.R.getD 0 RD.d).at_)]) rfl Try.isAgg60 Try.sizeOf60 (r22.mod m15 (nC (lE (lL rR.lt lR)) nN)).rng rfl (olc_at h9 lPR (show 0 < 1 by omega)) rfl) rfl rfl rfl ?_
   refine WL.call (oc_call (vs := [.agg #[vS ((PR.getD 0 BC.d).b) 0 ((zn.R.getD 0 RD.d).xs.length) ((PR.getD 0 BC.d).c), vI ((zn.R.getD 0 RD.d).at_)], vI 1]) (cap := []) rfl rfl rfl Try.call119 (c_backJ ((zn.R.getD 0 RD.d).xs.length) ((PR.getD 0 BC.d).c) ((PR.getD 0 BC.d).b) ((zn.R.getD 0 RD.d).xs) ((zn.R.getD 0 RD.d).at_) rfl (by first | omega | exact GoodD.ge (by assumption) _ (by omega)) (by first | omega | exact GoodD.lt (by assumption) _ (by omega)) (by first | omega | exact Nat.le_trans (Nat.le_of_eq (stR_lens _ _)) (by first | omega | exact z1 _) | exact Nat.le_trans (Nat.le_of_eq (endL_lens _)) (by first | omega | exact z2 _) | exact zn1 _ | exact zn2 _ | exact hzR _ | exact hzL _) w19 ((OF.row fm4 0 (Nat.lt_of_lt_of_eq (show 0 < 1 by omega) h9.symm)).mod m15 (nC (lE (lL (OF.lt FR (Nat.lt_of_lt_of_eq (show 0 < 1 by omega) lDR.symm)) lR)) nN)).rng)) rfl rfl (ltb rfl) ?_
   rintro _ w20 ⟨rfl, m16⟩
   refine WL.det (op_fne (c := !(fEq .f32 (((zn.R.getD 0 RD.d).xs).getD (((((zn.R.getD 0 RD.d).at_)).toNat + ((zn.R.getD 0 RD.d).xs.length) - 1) % ((zn.R.getD 0 RD.d).xs.length)) 0) 0)) rfl rfl rfl rfl rfl) rfl rfl rfl ?_
   refine WL.end (NE.code ?_)
   refine CE.cut (fun ρ W => ρ = [(13, vI ((i : Nat) : Int)), (0, vI ((most : Nat) : Int)), (1, vS e 0 2 ce), (2, .func (.func 66) #[] #[vP p 0]), (3, .func (.func 68) #[] #[vP p 0]), (8, vI 0), (9, vI 0), (10, vS w.heap.size 0 2 2), (69, vS e 0 2 ce), (70, vI 2), (71, vI 0)] ∧ Row W w.heap.size 0 [vI (((runF (fEq .f32 (((zn.R.getD 0 RD.d).xs).getD (((((zn.R.getD 0 RD.d).at_)).toNat + ((zn.R.getD 0 RD.d).xs.length) - 1) % ((zn.R.getD 0 RD.d).xs.length)) 0) 0) u0) : Nat) : Int), vI ((u1 : Nat) : Int)] ∧ Mod [w.heap.size] w20 W) ?_ ?_
   ·rcases Bool.eq_false_or_eq_true (fEq .f32 (((zn.R.getD 0 RD.d).xs).getD (((((zn.R.getD 0 RD.d).at_)).toNat + ((zn.R.getD 0 RD.d).xs.length) - 1) % ((zn.R.getD 0 RD.d).xs.length)) 0) 0) with hb4 | hb4
    ·refine CE.cond_f rfl (bnot_t hb4) ?_
     refine CE.skip' ?_
     exact NE.cutend [(13, vI ((i : Nat) : Int)), (0, vI ((most : Nat) : Int)), (1, vS e 0 2 ce), (2, .func (.func 66) #[] #[vP p 0]), (3, .func (.func 68) #[] #[vP p 0]), (8, vI 0), (9, vI 0), (10, vS w.heap.size 0 2 2), (69, vS e 0 2 ce), (70, vI 2), (71, vI 0)] ⟨rfl, rfl, rfl, rfl, rfl, rfl, rfl, rfl, rfl, rfl, rfl, trivial⟩ ⟨rfl, (Row.congr (r27.ext m16) (congrArg (fun t : Nat => ([vI ((t : Nat) : Int), vI ((u1 : Nat) : Int)] : List Value)) (runF_t hb4 u0).symm)), (Mod.refl [w.heap.size] w20)⟩
    ·refine CE.cond_t rfl (bnot_f hb4) ?_
     refine CE.region ?_
     iterate 2 refine WL.det (op_move rfl) rfl rfl rfl ?_
     refine WL.det (op_indexSl (off' := 0) rfl rfl rfl Try.runUnderlying36 Try.sizeOf2 (by omega) (by omega) rfl) rfl rfl rfl ?_
     refine WL.op0 (op_store (i := 0) (cs := [vI 0]) rfl rfl rfl Try.sizeOf2 rfl (r27.ext m16) rfl (lB rfl) rfl) rfl rfl ?_
     rintro _ w21 ⟨r28, m17, z5⟩
     have r29 : Row w21 w.heap.size 0 [vI 0, vI ((u1 : Nat) : Int)] := Row.congr r28 rfl
     refine WL.end ?_
     exact NE.cutend [(13, vI ((i : Nat) : Int)), (0, vI ((most : Nat) : Int)), (1, vS e 0 2 ce), (2, .func (.func 66) #[] #[vP p 0]), (3, .func (.func 68) #[] #[vP p 0]), (8, vI 0), (9, vI 0), (10, vS w.heap.size 0 2 2), (69, vS e 0 2 ce), (70, vI 2), (71, vI 0)] ⟨rfl, rfl, rfl, rfl, rfl, rfl, rfl, rfl, rfl, rfl, rfl, trivial⟩ ⟨rfl, (Row.congr r29 (congrArg (fun t : Nat => ([vI ((t : Nat) : Int), vI ((u1 : Nat) : Int)] : List Value)) (runF_f hb4 u0).symm)), ((Mod.refl [w.heap.size] w20).then m17 ((aC (.inl (by simp)) aN)))⟩
   rintro _ w22 ⟨rfl, r30, m18⟩
   refine NE.blk (NE.code (CE.region ?_))
   refine WL.det (op_add (r := 1) rfl rfl (by decide)) rfl rfl rfl ?_
   refine WL.det (op_move rfl) rfl rfl rfl ?_
   refine WL.end (NE.round (RN.one (CE.seq (CE.region ?_))))
   refine WL.det (op_lti rfl rfl) rfl rfl rfl ?_
   refine WL.end (NE.code (CE.seq ?_))
   refine CE.cond_t rfl rfl ?_
   refine CE.skip' (NE.code (CE.seq (CE.block (CE.seq (CE.region ?_)))))
   refine WL.det (op_move rfl) rfl rfl rfl ?_
   refine WL.det (op_indexSl (off' := 1) rfl rfl rfl Try.runUnderlying97 Try.sizeOf112 (by omega) (by omega) rfl) rfl rfl rfl ?_
   have r31 := (Rng.youngS rE ((Rng.youngS rE r24 m15 (allge_cons lR allge_nil)).ext m16) m18 (allge_cons lR allge_nil))
   refine WL.det (op_load1 (i := 1) rfl Try.isAgg112 r31 rfl rfl) rfl rfl rfl ?_
   iterate 2 refine WL.det (op_assign rfl) rfl rfl rfl ?_
   refine WL.end (NE.code (CE.seq (CE.region ?_)))
   iterate 2 refine WL.det (op_move rfl) rfl rfl rfl ?_
   refine WL.det (op_indexSl (off' := 1) rfl rfl rfl Try.runUnderlying36 Try.sizeOf2 (by omega) (by omega) rfl) rfl rfl rfl ?_
   refine WL.det (op_load1 (i := 1) rfl Try.isAgg2 r30.rng rfl rfl) rfl rfl rfl ?_
   refine WL.det (op_add (r := ((u1 + 1 : Nat) : Int)) rfl rfl (w_i64 (by omega) (by omega))) rfl rfl rfl ?_
   refine WL.det (op_indexSl (off' := 1) rfl rfl rfl Try.runUnderlying36 Try.sizeOf2 (by omega) (by omega) rfl) rfl rfl rfl ?_
   refine WL.op0 (op_store (i := 1) (cs := [vI ((u1 + 1 : Nat) : Int)]) rfl rfl rfl Try.sizeOf2 rfl r30 rfl (lB rfl) rfl) rfl rfl ?_
   rintro _ w23 ⟨r32, m19, z6⟩
   have r33 : Row w23 w.heap.size 0 [vI (((runF (fEq .f32 (((zn.R.getD 0 RD.d).xs).getD (((((zn.R.getD 0 RD.d).at_)).toNat + ((zn.R.getD 0 RD.d).xs.length) - 1) % ((zn.R.getD 0 RD.d).xs.length)) 0) 0) u0) : Nat) : Int), vI ((u1 + 1 : Nat) : Int)] := Row.congr r32 rfl
   refine WL.end (NE.code (CE.seq (CE.region ?_)))
   refine WL.det (op_move rfl) rfl rfl rfl ?_
   refine WL.det (op_nilCheck rfl) rfl rfl rfl ?_
   have r34 := ((((r23.mod m15 (nC (lE (lL rL.lt lR)) nN)).ext m16).mod m18 (nC (lE (lL rL.lt lR)) nN)).mod m19 (nC (lE (lL rL.lt lR)) nN))
   refine WL.det (op_loadA (i := 0 * 2) (cs := [vS ((PL.getD 0 BC.d).b) 0 ((zn.L.getD 0 RD.d).xs.length) ((PL.getD 0 BC.d).c), vI ((zn.L.getD 0 RD.d).at_)]) rfl Try.isAgg60 Try.sizeOf60 r34.rng rfl (olc_at h10 lPL (show 0 < 1 by omega)) rfl) rfl rfl rfl ?_
   have fm6 : OF loL w23 zn.L PL := ((((fm5.mod m15 (fun j hj => (nC (lE (lL (OF.lt FL (Nat.lt_of_lt_of_eq (Nat.lt_of_lt_of_eq hj h10) lDL.symm)) lR)) nN))).ext m16).mod m18 (fun j hj => (nC (lE (lL (OF.lt FL (Nat.lt_of_lt_of_eq (Nat.lt_of_lt_of_eq hj h10) lDL.symm)) lR)) nN))).mod m19 (fun j hj => (nC (lE (lL (OF.lt FL (Nat.lt_of_lt_of_eq (Nat.lt_of_lt_of_eq hj h10) lDL.symm)) lR)) nN)))
   refine WL.call (oc_call (vs := [.agg #[vS ((PL.getD 0 BC.d).b) 0 ((zn.L.getD 0 RD.d).xs.length) ((PL.getD 0 BC.d).c), vI ((zn.L.getD 0 RD.d).at_)], vI 1]) (cap := []) rfl rfl rfl Try.call119 (c_backJ ((zn.L.getD 0 RD.d).xs.length) ((PL.getD 0 BC.d).c) ((PL.getD 0 BC.d).b) ((zn.L.getD 0 RD.d).xs) ((zn.L.getD 0 RD.d).at_) rfl (by first | omega | exact GoodD.ge (by assumption) _ (by omega)) (by first | omega | exact GoodD.lt (by assumption) _ (by omega)) (by first | omega | exact Nat.le_trans (Nat.le_of_eq (stR_lens _ _)) (by first | omega | exact z1 _) | exact Nat.le_trans (Nat.le_of_eq (endL_lens _)) (by first | omega | exact z2 _) | exact zn1 _ | exact zn2 _ | exact hzR _ | exact hzL _) w23 (OF.row fm6 0 (Nat.lt_of_lt_of_eq (show 0 < 1 by omega) h10.symm)).rng)) rfl rfl (ltb rfl) ?_
   rintro _ w24 ⟨rfl, m20⟩
   refine WL.det (op_fne (c := !(fEq .f32 (((zn.L.getD 0 RD.d).xs).getD (((((zn.L.getD 0 RD.d).at_)).toNat + ((zn.L.getD 0 RD.d).xs.length) - 1) % ((zn.L.getD 0 RD.d).xs.length)) 0) 0)) rfl rfl rfl rfl rfl) rfl rfl rfl ?_
   refine WL.end (NE.code ?_)
   refine CE.cut (fun ρ W => ρ = [(13, vI ((i : Nat) : Int)), (0, vI ((most : Nat) : Int)), (1, vS e 0 2 ce), (2, .func (.func 66) #[] #[vP p 0]), (3, .func (.func 68) #[] #[vP p 0]), (8, vI 0), (9, vI 0), (10, vS w.heap.size 0 2 2), (69, vS e 0 2 ce), (70, vI 2), (71, vI 1)] ∧ Row W w.heap.size 0 [vI (((runF (fEq .f32 (((zn.R.getD 0 RD.d).xs).getD (((((zn.R.getD 0 RD.d).at_)).toNat + ((zn.R.getD 0 RD.d).xs.length) - 1) % ((zn.R.getD 0 RD.d).xs.length)) 0) 0) u0) : Nat) : Int), vI (((runF (fEq .f32 (((zn.L.getD 0 RD.d).xs).getD (((((zn.L.getD 0 RD.d).at_)).toNat + ((zn.L.getD 0 RD.d).xs.length) - 1) % ((zn.L.getD 0 RD.d).xs.length)) 0) 0) u1) : Nat) : Int)] ∧ Mod [w.heap.size] w24 W) ?_ ?_
   ·rcases Bool.eq_false_or_eq_true (fEq .f32 (((zn.L.getD 0 RD.d).xs).getD (((((zn.L.getD 0 RD.d).at_)).toNat + ((zn.L.getD 0 RD.d).xs.length) - 1) % ((zn.L.getD 0 RD.d).xs.length)) 0) 0) with hb5 | hb5
    ·refine CE.cond_f rfl (bnot_t hb5) ?_
     refine CE.skip' ?_
     exact NE.cutend [(13, vI ((i : Nat) : Int)), (0, vI ((most : Nat) : Int)), (1, vS e 0 2 ce), (2, .func (.func 66) #[] #[vP p 0]), (3, .func (.func 68) #[] #[vP p 0]), (8, vI 0), (9, vI 0), (10, vS w.heap.size 0 2 2), (69, vS e 0 2 ce), (70, vI 2), (71, vI 1)] ⟨rfl, rfl, rfl, rfl, rfl, rfl, rfl, rfl, rfl, rfl, rfl, trivial⟩ ⟨rfl, (Row.congr (r33.ext m20) (congrArg (fun t : Nat => ([vI (((runF (fEq .f32 (((zn.R.getD 0 RD.d).xs).getD (((((zn.R.getD 0 RD.d).at_)).toNat + ((zn.R.getD 0 RD.d).xs.length) - 1) % ((zn.R.getD 0 RD.d).xs.length)) 0) 0) u0) : Nat) : Int), vI ((t : Nat) : Int)] : List Value)) (runF_t hb5 u1).symm)), (Mod.refl [w.heap.size] w24)⟩
    ·refine CE.cond_t rfl (bnot_f hb5) ?_
     refine CE.region ?_
     iterate 2 refine WL.det (op_move rfl) rfl rfl rfl ?_
     refine WL.det (op_indexSl (off' := 1) rfl rfl rfl Try.runUnderlying36 Try.sizeOf2 (by omega) (by omega) rfl) rfl rfl rfl ?_
     refine WL.op0 (op_store (i := 1) (cs := [vI 0]) rfl rfl rfl Try.sizeOf2 rfl (r33.ext m20) rfl (lB rfl) rfl) rfl rfl ?_
     rintro _ w25 ⟨r35, m21, z7⟩
     have r36 : Row w25 w.heap.size 0 [vI (((runF (fEq .f32 (((zn.R.getD 0 RD.d).xs).getD (((((zn.R.getD 0 RD.d).at_)).toNat + ((zn.R.getD 0 RD.d).xs.length) - 1) % ((zn.R.getD 0 RD.d).xs.length)) 0) 0) u0) : Nat) : Int), vI 0] := Row.congr r35 rfl
     refine WL.end ?_
     exact NE.cutend [(13, vI ((i : Nat) : Int)), (0, vI ((most : Nat) : Int)), (1, vS e 0 2 ce), (2, .func (.func 66) #[] #[vP p 0]), (3, .func (.func 68) #[] #[vP p 0]), (8, vI 0), (9, vI 0), (10, vS w.heap.size 0 2 2), (69, vS e 0 2 ce), (70, vI 2), (71, vI 1)] ⟨rfl, rfl, rfl, rfl, rfl, rfl, rfl, rfl, rfl, rfl, rfl, trivial⟩ ⟨rfl, (Row.congr r36 (congrArg (fun t : Nat => ([vI (((runF (fEq .f32 (((zn.R.getD 0 RD.d).xs).getD (((((zn.R.getD 0 RD.d).at_)).toNat + ((zn.R.getD 0 RD.d).xs.length) - 1) % ((zn.R.getD 0 RD.d).xs.length)) 0) 0) u0) : Nat) : Int), vI ((t : Nat) : Int)] : List Value)) (runF_f hb5 u1).symm)), ((Mod.refl [w.heap.size] w24).then m21 ((aC (.inl (by simp)) aN)))⟩
   rintro _ w26 ⟨rfl, r37, m22⟩
   refine NE.blk (NE.code (CE.region ?_))
   refine WL.det (op_add (r := 2) rfl rfl (by decide)) rfl rfl rfl ?_
   refine WL.det (op_move rfl) rfl rfl rfl ?_
   refine WL.end (NE.round (RN.one (CE.seq (CE.region ?_))))
   refine WL.det (op_lti rfl rfl) rfl rfl rfl ?_
   refine WL.end (NE.code (CE.seq ?_))
   refine CE.cond_f rfl rfl ?_
   refine CE.exit' (XE.exit_then (XE.exit_then (XE.exit_here (NE.blk (NE.code (CE.region ?_))))))
   refine WL.det (op_move rfl) rfl rfl rfl ?_
   refine WL.det (op_add (r := ((i + 1 : Nat) : Int)) rfl rfl (w_i64 (by omega) (by omega))) rfl rfl rfl ?_
   refine WL.det (op_assign rfl) rfl rfl rfl ?_
   refine WL.end ?_
   have r38 := ((((((r21.mod m15 (nC (lE (lL q.lt lR)) nN)).ext m16).mod m18 (nC (lE (lL q.lt lR)) nN)).mod m19 (nC (lE (lL q.lt lR)) nN)).ext m20).mod m22 (nC (lE (lL q.lt lR)) nN))
   have r39 := ((((((r22.mod m15 (nC (lE (lL rR.lt lR)) nN)).ext m16).mod m18 (nC (lE (lL rR.lt lR)) nN)).mod m19 (nC (lE (lL rR.lt lR)) nN)).ext m20).mod m22 (nC (lE (lL rR.lt lR)) nN))
   exact NE.again ((i + 1), (runF (fEq .f32 (((zn.R.getD 0 RD.d).xs).getD (((((zn.R.getD 0 RD.d).at_)).toNat + ((zn.R.getD 0 RD.d).xs.length) - 1) % ((zn.R.getD 0 RD.d).xs.length)) 0) 0) u0), (runF (fEq .f32 (((zn.L.getD 0 RD.d).xs).getD (((((zn.L.getD 0 RD.d).at_)).toNat + ((zn.L.getD 0 RD.d).xs.length) - 1) % ((zn.L.getD 0 RD.d).xs.length)) 0) 0) u1)) (⟨rfl, rfl, rfl, rfl, rfl, rfl, rfl, rfl, trivial⟩) ⟨(by omega), (by rw [hzs]; assumption), (by rw [hzs]; assumption), (by rw [hzs]; exact (by assumption)), (by rw [hzs]; exact (by assumption)), (by exact fun j => Nat.le_trans (Nat.le_of_eq (pipeAt_lens j _).1) (hzR j)), (by exact fun j => Nat.le_trans (Nat.le_of_eq (pipeAt_lens j _).2) (hzL j)), (by rw [hzs]; assumption), (by rw [hzs]; assumption), (by rw [hzs]; exact QD.run q0 g1 (by decide) (by rw [hzn]; exact stR_pushed l1 (by decide) (by decide))), (by exact Nat.le_trans (runF_le _ _) (by omega)), (by rw [hzs]; exact QD.run q1 g2 (by decide) (by rw [hzn]; exact endL_pushed l2 (by decide) (by decide))), (by exact Nat.le_trans (runF_le _ _) (by omega)), (by exact silG_next he (hzE _ (hE.symm.trans hbE)) (by omega) (by omega)), (Row.congr r38 (by rw [hzs])), (Row.congr r39 (by rw [hzs])), (Row.congr ((r34.ext m20).mod m22 (nC (lE (lL rL.lt lR)) nN)) (by rw [hzs])), (Row.congr r37 rfl), (OF.congr ((((((fm4.mod m15 (fun j hj => (nC (lE (lL (OF.lt FR (Nat.lt_of_lt_of_eq (Nat.lt_of_lt_of_eq hj h9) lDR.symm)) lR)) nN))).ext m16).mod m18 (fun j hj => (nC (lE (lL (OF.lt FR (Nat.lt_of_lt_of_eq (Nat.lt_of_lt_of_eq hj h9) lDR.symm)) lR)) nN))).mod m19 (fun j hj => (nC (lE (lL (OF.lt FR (Nat.lt_of_lt_of_eq (Nat.lt_of_lt_of_eq hj h9) lDR.symm)) lR)) nN))).ext m20).mod m22 (fun j hj => (nC (lE (lL (OF.lt FR (Nat.lt_of_lt_of_eq (Nat.lt_of_lt_of_eq hj h9) lDR.symm)) lR)) nN))) (by rw [hzs])), (OF.congr ((fm6.ext m20).mod m22 (fun j hj => (nC (lE (lL (OF.lt FL (Nat.lt_of_lt_of_eq (Nat.lt_of_lt_of_eq hj h10) lDL.symm)) lR)) nN))) (by rw [hzs])), ((((((((((m6.nt m7).nt m10).nt m13).then m14 ((aC (.inl (by simp)) (aC (.inl (by simp)) (aC (.inl (by simp)) (aI (fun x hx => by simp only [List.mem_cons, List.mem_append, hx, true_or, or_true]) (aI (fun x hx => by simp only [List.mem_cons, List.mem_append, hx, true_or, or_true]) aN))))))).then m15 ((aC (.inl (by simp)) aN))).nt m16).then m18 ((aC (.inl (by simp)) aN))).then m19 ((aC (.inl (by simp)) aN))).nt m20).then m22 ((aC (.inl (by simp)) aN)))⟩ (by first | (dsimp only; omega) | omega)
 ·have hp1 := of_decide_eq_false hb1
  refine CE.cond_f rfl hb1 ?_
  refine CE.exit' (XE.exit_then (XE.exit_then (XE.exit_here (NE.code (CE.seq (CE.region ?_))))))
  iterate 2 refine WL.det (op_assign rfl) rfl rfl rfl ?_
  refine WL.end (NE.code (CE.ret' ?_))
  refine XE.leaveT Try.results64 (res_tmp rfl (res_tmp rfl res_nil)) ?_
  refine ⟨?_, (((((((Mod.refl (p :: bR :: bL :: (PR.map BC.b ++ (PL.map BC.b ++ []))) w).nt m1).nt m2).then m3 ((aC (.inr lR) aN))).nt m4).then m5 ((aC (.inr lR) aN))).then m6 ((aC (.inl (by simp)) (aC (.inl (by simp)) (aC (.inl (by simp)) (aC (.inr lR) (aI (fun x hx => by simp only [List.mem_cons, List.mem_append, hx, true_or, or_true]) (aI (fun x hx => by simp only [List.mem_cons, List.mem_append, hx, true_or, or_true]) aN))))))))⟩
  all_goals first | (rw [← he, silG_yes (hzE _ (hE.symm.trans hbE)) (by omega)]; done) | (rw [← he, silG_no (by omega)]; done)

theorem c_iSilP1 (GR : List RD) (GL : List RD) (xS : List Nat) (cR : Nat) (bR : Nat) (PR : List BC) (loR : Nat) (cL : Nat) (bL : Nat) (PL : List BC) (loL : Nat) (cS : Nat) (bS : Nat) (k : Int) (kc0 : Nat) (kc1 : Nat) (kc2 : Nat) (ks0 : Nat) (ks1 : Nat) (op : Bool) (lo : Nat) (re : Nat) (sl : Nat) (most : Nat) (rv : Int × Int) (lDR : GR.length = 1) (lDL : GL.length = 1) (lnS : xS.length = 0) (hzR : ∀ i, (GR.getD i RD.d).xs.length ≤ 1048576) (hzL : ∀ i, (GL.getD i RD.d).xs.length ≤ 1048576) (lPR : PR.length = 1) (lPL : PL.length = 1) (hpR : ∀ i, i < 1 → 0 < (GR.getD i RD.d).xs.length) (hpL : ∀ i, i < 1 → 0 < (GL.getD i RD.d).xs.length) (gR : GoodD GR 1) (gL : GoodD GL 1) (lks0 : ks0 < wid .f32) (lks1 : ks1 < wid .f32) (hm : most ≤ 100000) (hv : vPipe 1 1 0 GR GL xS k kc0 kc1 kc2 ks0 ks1 lo re sl = true) (erv : rv = silG (fun ii => pipeSil 1 1 (pipeAt 1 0 xS k kc0 kc1 kc2 op lo re sl (PipeSt.mk GR GL ks0 ks1) (fun _ => 0) ii)) (most + 1) 0) (w : World) (rR : Rng w bR 0 (olc GR PR)) (rL : Rng w bL 0 (olc GL PL)) (rS : Rng w bS 0 (fl xS))  (FR : OF loR w GR PR) (FL : OF loL w GL PL) : Cl Try.prog 19 #[.agg #[vS bR 0 1 cR, vS bL 0 1 cL, vS bS 0 0 cS, vI k, vF kc0, vF kc1, vF kc2, vF ks0, vF ks1, .bool op, vF lo, vF re, vF sl], vI ((most : Nat) : Int)] w fun v w' => v = .tuple #[vI rv.1, vI rv.2] ∧ Mod [] w w' := by
 have hs : 1 ≤ 1 ∧ 1 ≤ 3 ∧ 1 = 1 ∧ 0 + 1 = 1 := by omega
 refine Cl.of Try.func19 Try.ntmps19 rfl rfl (ρ := [(0, .agg #[vS bR 0 1 cR, vS bL 0 1 cL, vS bS 0 0 cS, vI k, vF kc0, vF kc1, vF kc2, vF ks0, vF ks1, .bool op, vF lo, vF re, vF sl]), (1, vI ((most : Nat) : Int))]) rfl ?_
 refine CE.seq (CE.region ?_)
 refine WL.op (op_box (cs := [vS bR 0 1 cR, vS bL 0 1 cL, vS bS 0 0 cS, vI k, vF kc0, vF kc1, vF kc2, vF ks0, vF ks1, .bool op, vF lo, vF re, vF sl]) rfl rfl) rfl rfl (ltb rfl) ?_
 rintro _ w1 ⟨rfl, r1, m1, z1⟩
 iterate 2 refine WL.det (op_assign rfl) rfl rfl rfl ?_
 refine WL.end (NE.code (CE.seq (CE.block (CE.seq (CE.region ?_)))))
 refine WL.det (op_loadA (i := 0) (cs := [vS bR 0 1 cR, vS bL 0 1 cL, vS bS 0 0 cS, vI k, vF kc0, vF kc1, vF kc2, vF ks0, vF ks1, .bool op, vF lo, vF re, vF sl]) rfl Try.isAgg33 Try.sizeOf33 r1.rng rfl rfl rfl) rfl rfl rfl ?_
 refine WL.call (oc_call (vs := [.agg #[vS bR 0 1 cR, vS bL 0 1 cL, vS bS 0 0 cS, vI k, vF kc0, vF kc1, vF kc2, vF ks0, vF ks1, .bool op, vF lo, vF re, vF sl]]) (cap := []) rfl rfl rfl Try.call44 (c_ValidPipeS 1 GR 1 GL 0 xS cR bR PR loR cL bL PL loL cS bS k kc0 kc1 kc2 ks0 ks1 op lo re sl lDR lDL lnS (by first | assumption | exact rd_small (by assumption) (by assumption) | exact markD_small (by first | assumption | exact rd_small (by assumption) (by assumption)) _) (by first | assumption | exact rd_small (by assumption) (by assumption) | exact markD_small (by first | assumption | exact rd_small (by assumption) (by assumption)) _) lPR lPL (by first | assumption | omega) (by first | assumption | omega) (by first | assumption | omega) (by omega) w1 (rR.ext m1) (rL.ext m1) (rS.ext m1) (FR.ext m1) (FL.ext m1))) rfl rfl (ltb rfl) ?_
 rintro _ w2 ⟨rfl, m2⟩
 refine WL.det (op_not rfl) rfl rfl rfl ?_
 refine WL.det (op_assign rfl) rfl rfl rfl ?_
 refine WL.end (NE.code ?_)
 refine CE.cond_f rfl (bnot_t hv) ?_
 refine CE.seq (CE.region ?_)
 refine WL.det (op_move rfl) rfl rfl rfl ?_
 refine WL.call (oc_call (vs := [vI ((most : Nat) : Int), vI 0, vI 100000]) (cap := []) rfl rfl rfl Try.call62 (c_within ((most : Nat) : Int) (0 : Int) (100000 : Int) w2)) rfl rfl (ltb rfl) ?_
 rintro _ _ ⟨rfl, rfl⟩
 refine WL.det (op_not rfl) rfl rfl rfl ?_
 refine WL.det (op_assign rfl) rfl rfl rfl ?_
 refine WL.end (NE.code ?_)
 refine CE.cond_f rfl (bnot_t ((vIn_t _ _ _).2 ⟨by omega, by omega⟩)) ?_
 refine CE.skip' (NE.blk (NE.code (CE.seq (CE.region ?_))))
 refine WL.det (op_loadA (i := 0) (cs := [vS bR 0 1 cR, vS bL 0 1 cL, vS bS 0 0 cS, vI k, vF kc0, vF kc1, vF kc2, vF ks0, vF ks1, .bool op, vF lo, vF re, vF sl]) rfl Try.isAgg33 Try.sizeOf33 (r1.ext m2).rng rfl rfl rfl) rfl rfl rfl ?_
 refine WL.call (oc_call (vs := [.agg #[vS bR 0 1 cR, vS bL 0 1 cL, vS bS 0 0 cS, vI k, vF kc0, vF kc1, vF kc2, vF ks0, vF ks1, .bool op, vF lo, vF re, vF sl]]) (cap := []) rfl rfl rfl Try.call63 (c_clonePipeS0 1 GR 1 GL xS cR bR PR loR cL bL PL loL cS bS k kc0 kc1 kc2 ks0 ks1 op lo re sl lDR lDL lnS (by first | assumption | exact rd_small (by assumption) (by assumption) | exact markD_small (by first | assumption | exact rd_small (by assumption) (by assumption)) _) (by first | assumption | exact rd_small (by assumption) (by assumption) | exact markD_small (by first | assumption | exact rd_small (by assumption) (by assumption)) _) lPR lPL (by first | assumption | omega) (by first | assumption | omega) (by omega) (by omega) (by first | assumption | exact vRings_pos (by assumption)) (by first | assumption | exact vRings_pos (by assumption)) w2 ((rR.ext m1).ext m2) ((rL.ext m1).ext m2) ((rS.ext m1).ext m2) ((FR.ext m1).ext m2) ((FL.ext m1).ext m2))) rfl rfl (ltb rfl) ?_
 rintro _ w3 ⟨bR'1, cR'1, PR'1, bL'1, cL'1, PL'1, bS'1, cS'1, rfl, h1, h2, r2, r3, r4, ge1, ge2, ge3, ne1, ne2, ne3, fm1, fn1, fn2, fn3, fn4, fm2, fn5, fn6, fn7, m3⟩
 refine WL.op0 (op_store (i := 0) (cs := [vS bR'1 0 1 cR'1, vS bL'1 0 1 cL'1, vS bS'1 0 0 cS'1, vI k, vF kc0, vF kc1, vF kc2, vF ks0, vF ks1, .bool op, vF lo, vF re, vF sl]) rfl rfl rfl Try.sizeOf33 rfl ((r1.ext m2).ext m3) rfl (lB rfl) rfl) rfl rfl ?_
 rintro _ w4 ⟨r5, m4, z2⟩
 have r6 : Row w4 w.heap.size 0 [vS bR'1 0 1 cR'1, vS bL'1 0 1 cL'1, vS bS'1 0 0 cS'1, vI k, vF kc0, vF kc1, vF kc2, vF ks0, vF ks1, .bool op, vF lo, vF re, vF sl] := Row.congr r5 rfl
 refine WL.end (NE.code (CE.seq (CE.region ?_)))
 refine WL.det (op_move rfl) rfl rfl rfl ?_
 refine WL.call (oc_call (vs := [vP w.heap.size 0]) (cap := []) rfl rfl rfl Try.call65 (c_rings1 cR'1 bR'1 cL'1 bL'1 cS'1 bS'1 k kc0 kc1 kc2 ks0 ks1 op lo re sl w.heap.size w4 r6.rng)) rfl rfl (ltb rfl) ?_
 rintro _ w5 ⟨b'1, c'1, rfl, r7, ge4, m5⟩
 iterate 2 refine WL.det (op_makeFunc (vs := []) (us := [vP w.heap.size 0]) rfl rfl) rfl rfl rfl ?_
 have r8 := ((r2.mod m4 (nC (lG (lL (lL r1.lt m2.size) ge1)) nN)).ext m5)
 have r9 := ((r3.mod m4 (nC (lG (lL (lL r1.lt m2.size) ge2)) nN)).ext m5)
 have r10 := ((r4.mod m4 (nC (lG (lL (lL r1.lt m2.size) ge3)) nN)).ext m5)
 have sz1 := (lT (lT m2.size m3.size) m4.size)
 refine WL.call (oc_call (vs := [vI ((most : Nat) : Int), vS b'1 0 2 c'1, .func (.func 66) #[] #[vP w.heap.size 0], .func (.func 68) #[] #[vP w.heap.size 0]]) (cap := []) rfl rfl rfl Try.call64 (c_stepsP1 GR GL xS cR'1 bR'1 PR'1 w2.heap.size cL'1 bL'1 PL'1 w2.heap.size cS'1 bS'1 k kc0 kc1 kc2 ks0 ks1 op lo re sl w.heap.size b'1 c'1 most rv lDR lDL lnS (by first | assumption | exact rd_small (by assumption) (by assumption) | exact markD_small (by first | assumption | exact rd_small (by assumption) (by assumption)) _) (by first | assumption | exact rd_small (by assumption) (by assumption) | exact markD_small (by first | assumption | exact rd_small (by assumption) (by assumption)) _) h1 h2 (by assumption) (by assumption) lks0 lks1 (by omega) (by assumption) w5 (r6.ext m5) r8 r9 r10.rng r7.rng (lE (lL (lL r1.lt m2.size) ge1)) (lE (lL (lL r1.lt m2.size) ge2)) (lE (lL (lL r1.lt m2.size) ge3)) ne1 ne2 ne3 (lG (lL (lL r1.lt sz1) ge4)) (lG (lL (lL r2.lt m4.size) ge4)) (lG (lL (lL r3.lt m4.size) ge4)) (lG (lL (lL r4.lt m4.size) ge4)) ((fm1.mod m4 (fun j hj => (nC (lG (lL (lL r1.lt m2.size) (fm1.ge j (Nat.lt_of_lt_of_eq (Nat.lt_of_lt_of_eq hj lDR) lDR.symm)))) nN))).ext m5) (fun j hj => (lG (lL (lL r1.lt m2.size) (fm1.ge j (Nat.lt_of_lt_of_eq hj lDR.symm))))) (fun j hj => (fn1 j hj)) (fun j hj => (fn2 j hj)) (fun j hj => (fn3 j hj)) (fun j hj => (lE (lL (OF.lt fm1 (Nat.lt_of_lt_of_eq hj lDR.symm)) (lT m4.size ge4)))) (fun j q hj hq => (fn4 j q hj hq)) ((fm2.mod m4 (fun j hj => (nC (lG (lL (lL r1.lt m2.size) (fm2.ge j (Nat.lt_of_lt_of_eq (Nat.lt_of_lt_of_eq hj lDL) lDL.symm)))) nN))).ext m5) (fun j hj => (lG (lL (lL r1.lt m2.size) (fm2.ge j (Nat.lt_of_lt_of_eq hj lDL.symm))))) (fun j hj => (fn5 j hj)) (fun j hj => (fn6 j hj)) (fun j hj => (fn7 j hj)) (fun j hj => (lE (lL (OF.lt fm2 (Nat.lt_of_lt_of_eq hj lDL.symm)) (lT m4.size ge4)))))) rfl rfl (ltb rfl) ?_
 rintro _ w6 ⟨rfl, m6⟩
 iterate 2 refine WL.det (op_extract rfl rfl) rfl rfl rfl ?_
 iterate 2 refine WL.det (op_assign rfl) rfl rfl rfl ?_
 refine WL.end (NE.code (CE.ret' ?_))
 refine XE.leaveT Try.results19 (res_tmp rfl (res_tmp rfl res_nil)) ?_
 refine ⟨rfl, (((((((Mod.refl [] w).nt m1).nt m2).nt m3).then m4 ((aC (.inr lR) aN))).nt m5).then m6 ((aC (.inr lR) (aC (.inr (lT (lT m1.size m2.size) ge1)) (aC (.inr (lT (lT m1.size m2.size) ge2)) (aA h1 (fun j hj => (lT (lT m1.size m2.size) (fm1.ge j (Nat.lt_of_lt_of_eq hj lDR.symm)))) (aA h2 (fun j hj => (lT (lT m1.size m2.size) (fm2.ge j (Nat.lt_of_lt_of_eq hj lDL.symm)))) aN)))))))⟩

end Go.Proofs.Ytnahhdnkbbdceaa
