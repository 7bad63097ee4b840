/- What is drawn of bytes. -/
import Derived.Test.YtnahhdnkbbdceaaB2
import Derived.Test.YtnahhdnkbbdceaaE14
set_option linter.unusedVariables false
set_option linter.unusedSimpArgs false
namespace Go.Proofs.Ytnahhdnkbbdceaa

set_option maxRecDepth 100000 in
set_option maxHeartbeats 2000000 in
theorem c_l00From (n : Nat) (c : Nat) (A : Option Addr) (b : Nat) (o : Nat) (hA : 0 < n → A = some ⟨b, o, none⟩) (w : World) : Cl Try.prog 53 #[.slice A n c] w fun v w' => ∃ (p' : Nat), v = vP p' 0 ∧ Row w' p' 0 [.slice A n c, vI 0, .int .u64 0] ∧ w.heap.size ≤ p' ∧ Mod [] w w' := by
  refine Cl.of Try.func53 Try.ntmps53 rfl rfl (ρ := [(0, .slice A n c)]) rfl ?_
  refine CE.seq ?_
  refine CE.region ?_
  refine WD (op_assign rfl) rfl ?_
  refine WL.end ?_
  refine NE.code ?_
  refine CE.seq ?_
  refine CE.region ?_
  refine WD (op_move rfl) rfl ?_
  refine WD (op_build (qs := [(0, .slice A n c)]) (cells := #[.slice A n c, vI 0, .int .u64 0]) rfl (by kernel_rfl)) rfl ?_
  refine WL.op (op_box (cs := [.slice A n c, vI 0, .int .u64 0]) rfl rfl) rfl rfl (ltb rfl) ?_
  rintro _ w1 ⟨rfl, r1, m1, z1⟩
  refine WD (op_assign rfl) rfl ?_
  refine WL.end ?_
  refine NE.code ?_
  refine CE.ret' ?_
  refine XE.leave1 Try.results53 rfl ?_
  refine ⟨w.heap.size, rfl, r1, lR, ((Mod.refl [] w).nt m1)⟩

set_option maxRecDepth 100000 in
set_option maxHeartbeats 2000000 in
theorem c_next (n : Nat) (c : Nat) (A : Option Addr) (b : Nat) (o : Nat) (xs : List Nat) (at_ : Nat) (s : Nat) (p : Nat) (ln : xs.length = n) (hA : 0 < n → A = some ⟨b, o, none⟩) (hB : ∀ i, xs.getD i 0 < 256) (hn : n ≤ 4611686018427387904) (ha : at_ ≤ 4611686018427387904) (hs : s < 18446744073709551616) (w : World) (q : Row w p 0 [.slice A n c, vI ((at_ : Nat) : Int), .int .u64 ((s : Nat) : Int)]) (r : Rng w b o (bys xs)) : Cl Try.prog 107 #[vP p 0] w fun v w' => ∃ (vv : Nat) (s2 : Nat), v = vI ((vv : Nat) : Int) ∧ (vv ≤ 255) ∧ (s2 < 18446744073709551616) ∧ Row w' p 0 [.slice A n c, vI ((at_ + 1 : Nat) : Int), .int .u64 ((s2 : Nat) : Int)] ∧ Mod [p] w w' := by
  refine Cl.of Try.func107 Try.ntmps107 rfl rfl (ρ := [(0, vP p 0)]) rfl ?_
  refine CE.seq ?_
  refine CE.region ?_
  refine WD (op_assign rfl) rfl ?_
  refine WL.end ?_
  refine NE.code ?_
  refine CE.seq ?_
  refine CE.region ?_
  refine WD (op_assign rfl) rfl ?_
  refine WL.end ?_
  refine NE.code ?_
  refine CE.seq ?_
  refine CE.seq ?_
  refine CE.draw (fun _ => none) [0, 1, 2, 3, 4, 5, 6, 7, 8] [9] [] (by kernel_rfl) (by kernel_rfl) ?_
  have md1 : Mod [] w w.drew := (Mod.refl _ _).drew
  generalize w.drew = w1 at md1 ⊢
  refine DD 0 rfl (by kernel_rfl) rfl (fun wD mD => op_move rfl) ?_
  refine DD 1 rfl (by kernel_rfl) rfl (fun wD mD => op_nilCheck rfl) ?_
  refine DD 2 rfl (by kernel_rfl) rfl (fun wD mD => op_fieldAddr (off' := 1) rfl Try.runUnderlying127 rfl rfl Try.sizeOf3 rfl) ?_
  refine DD 3 rfl (by kernel_rfl) rfl (fun wD mD => op_load1 (i := 1) rfl Try.isAgg3 ((q.ext md1).ext mD).rng rfl rfl) ?_
  refine DD 4 rfl (by kernel_rfl) rfl (fun wD mD => op_move rfl) ?_
  refine DD 5 rfl (by kernel_rfl) rfl (fun wD mD => op_nilCheck rfl) ?_
  refine DD 6 rfl (by kernel_rfl) rfl (fun wD mD => op_fieldAddr (off' := 0) rfl Try.runUnderlying127 rfl rfl Try.sizeOf22 rfl) ?_
  refine DD 7 rfl (by kernel_rfl) rfl (fun wD mD => op_load1 (i := 0) rfl Try.isAgg22 ((q.ext md1).ext mD).rng rfl rfl) ?_
  refine DD 8 rfl (by kernel_rfl) rfl (fun wD mD => op_len rfl Try.runUnderlying22) ?_
  refine DR.done rfl ?_
  intro w2 m1
  refine WO.det (op_lti rfl rfl) rfl (.free rfl) rfl rfl ?_
  refine WO.end ?_
  refine NE.code ?_
  rcases Bool.eq_false_or_eq_true (decide (((at_ : Nat) : Int) < ((n : Nat) : Int))) with hb1 | hb1
  · have hp1 := hb1; try simp only [Bool.and_eq_true, Bool.or_eq_true, Bool.not_eq_true', Bool.not_eq_false', Bool.and_eq_false_iff, Bool.or_eq_false_iff, decide_eq_true_eq, decide_eq_false_iff_not, beq_iff_eq, bne_iff_ne, beq_eq_false_iff_ne, bne_eq_false_iff_eq, ne_eq, Bool.false_eq_true, not_false_eq_true, not_true_eq_false, vIn_t, vIn_f] at hp1
    refine CE.cond_t rfl hb1 ?_
    refine CE.draw (fun _ => none) [0, 1, 2, 3, 4, 5, 6, 7] [8, 9, 10, 11] [] (by kernel_rfl) (by kernel_rfl) ?_
    have md2 : Mod [] w2 w2.drew := (Mod.refl _ _).drew
    generalize w2.drew = w3 at md2 ⊢
    refine DD 0 rfl (by kernel_rfl) rfl (fun wD mD => op_move rfl) ?_
    refine DD 1 rfl (by kernel_rfl) rfl (fun wD mD => op_nilCheck rfl) ?_
    refine DD 2 rfl (by kernel_rfl) rfl (fun wD mD => op_fieldAddr (off' := 0) rfl Try.runUnderlying127 rfl rfl Try.sizeOf22 rfl) ?_
    refine DD 3 rfl (by kernel_rfl) rfl (fun wD mD => op_load1 (i := 0) rfl Try.isAgg22 ((((q.ext md1).ext m1).ext md2).ext mD).rng rfl rfl) ?_
    refine DD 4 rfl (by kernel_rfl) rfl (fun wD mD => op_move rfl) ?_
    refine DD 5 rfl (by kernel_rfl) rfl (fun wD mD => op_nilCheck rfl) ?_
    refine DD 6 rfl (by kernel_rfl) rfl (fun wD mD => op_fieldAddr (off' := 1) rfl Try.runUnderlying127 rfl rfl Try.sizeOf3 rfl) ?_
    refine DD 7 rfl (by kernel_rfl) rfl (fun wD mD => op_load1 (i := 1) rfl Try.isAgg3 ((((q.ext md1).ext m1).ext md2).ext mD).rng rfl rfl) ?_
    refine DR.done rfl ?_
    intro w4 m2
    refine WO.det (op_indexSl (off' := o + at_) rfl (hA (by omega)) rfl Try.runUnderlying22 Try.sizeOf5 (by omega) (by omega) (by omega)) rfl (.free rfl) rfl rfl ?_
    have hy1 := hB at_
    refine WO.det (op_load1 (i := at_) rfl Try.isAgg5 ((((r.ext md1).ext m1).ext md2).ext m2) rfl (bys_get (by have eL : List.length xs = n := ln; omega))) rfl (.free rfl) rfl rfl ?_
    refine WO.det (op_cvt_ii (r := ((xs.getD at_ 0 : Nat) : Int)) rfl Try.runUnderlying5 Try.runUnderlying3 (w_i64 (by omega) (by omega))) rfl (.free rfl) rfl rfl ?_
    refine WO.det (op_assign rfl) rfl (.free rfl) rfl rfl ?_
    refine WO.end ?_
    refine NE.code ?_
    refine CE.seq ?_
    refine CE.region ?_
    refine WD (op_move rfl) rfl ?_
    refine WD (op_nilCheck rfl) rfl ?_
    refine WD (op_fieldAddr (off' := 1) rfl Try.runUnderlying127 rfl rfl Try.sizeOf3 rfl) rfl ?_
    refine WD (op_load1 (i := 1) rfl Try.isAgg3 ((((q.ext md1).ext m1).ext md2).ext m2).rng rfl rfl) rfl ?_
    refine WD (op_add (r := ((at_ + 1 : Nat) : Int)) rfl rfl (w_i64 (by omega) (by omega))) rfl ?_
    refine WD (op_nilCheck rfl) rfl ?_
    refine WD (op_fieldAddr (off' := 1) rfl Try.runUnderlying127 rfl rfl Try.sizeOf3 rfl) rfl ?_
    refine WL.op0 (op_store (i := 1) (cs := [vI ((at_ + 1 : Nat) : Int)]) rfl rfl rfl Try.sizeOf3 rfl ((((q.ext md1).ext m1).ext md2).ext m2) rfl (lB rfl) rfl) rfl rfl ?_
    rintro _ w5 ⟨r1, m3, z1⟩
    have r2 : Row w5 p 0 [.slice A n c, vI ((at_ + 1 : Nat) : Int), .int .u64 ((s : Nat) : Int)] := Row.congr r1 rfl
    refine WL.end ?_
    refine NE.code ?_
    refine CE.seq ?_
    refine CE.region ?_
    refine WD (op_move rfl) rfl ?_
    refine WD (op_move rfl) rfl ?_
    refine WD (op_nilCheck rfl) rfl ?_
    refine WD (op_fieldAddr (off' := 2) rfl Try.runUnderlying127 rfl rfl Try.sizeOf125 rfl) rfl ?_
    refine WD (op_load1 (i := 2) rfl Try.isAgg125 r2.rng rfl rfl) rfl ?_
    refine WD (op_mul (r := ((mulL s : Nat) : Int)) rfl rfl (wrapL1 _)) rfl ?_
    refine WD (op_move rfl) rfl ?_
    refine WD (op_cvt_ii (r := ((xs.getD at_ 0 : Nat) : Int)) rfl Try.runUnderlying3 Try.runUnderlying125 (w_u64 (by omega) (by omega))) rfl ?_
    refine WD (op_add (r := ((addL s (xs.getD at_ 0) : Nat) : Int)) rfl rfl (wrapL2 _ _)) rfl ?_
    refine WD (op_add (r := ((sdL s (xs.getD at_ 0) : Nat) : Int)) rfl rfl (wrapL3 _ _)) rfl ?_
    refine WD (op_nilCheck rfl) rfl ?_
    refine WD (op_fieldAddr (off' := 2) rfl Try.runUnderlying127 rfl rfl Try.sizeOf125 rfl) rfl ?_
    refine WL.op0 (op_store (i := 2) (cs := [.int .u64 ((sdL s (xs.getD at_ 0) : Nat) : Int)]) rfl rfl rfl Try.sizeOf125 rfl r2 rfl (lB rfl) rfl) rfl rfl ?_
    rintro _ w6 ⟨r3, m4, z2⟩
    have r4 : Row w6 p 0 [.slice A n c, vI ((at_ + 1 : Nat) : Int), .int .u64 ((sdL s (xs.getD at_ 0) : Nat) : Int)] := Row.congr r3 rfl
    refine WL.end ?_
    refine NE.code ?_
    refine CE.seq ?_
    refine CE.seq ?_
    refine CE.draw (fun _ => none) [0, 1, 2, 3, 4, 5, 6, 7, 8] [9] [] (by kernel_rfl) (by kernel_rfl) ?_
    have md3 : Mod [] w6 w6.drew := (Mod.refl _ _).drew
    generalize w6.drew = w7 at md3 ⊢
    refine DD 0 rfl (by kernel_rfl) rfl (fun wD mD => op_move rfl) ?_
    refine DD 1 rfl (by kernel_rfl) rfl (fun wD mD => op_nilCheck rfl) ?_
    refine DD 2 rfl (by kernel_rfl) rfl (fun wD mD => op_fieldAddr (off' := 1) rfl Try.runUnderlying127 rfl rfl Try.sizeOf3 rfl) ?_
    refine DD 3 rfl (by kernel_rfl) rfl (fun wD mD => op_load1 (i := 1) rfl Try.isAgg3 ((r4.ext md3).ext mD).rng rfl rfl) ?_
    refine DD 4 rfl (by kernel_rfl) rfl (fun wD mD => op_move rfl) ?_
    refine DD 5 rfl (by kernel_rfl) rfl (fun wD mD => op_nilCheck rfl) ?_
    refine DD 6 rfl (by kernel_rfl) rfl (fun wD mD => op_fieldAddr (off' := 0) rfl Try.runUnderlying127 rfl rfl Try.sizeOf22 rfl) ?_
    refine DD 7 rfl (by kernel_rfl) rfl (fun wD mD => op_load1 (i := 0) rfl Try.isAgg22 ((r4.ext md3).ext mD).rng rfl rfl) ?_
    refine DD 8 rfl (by kernel_rfl) rfl (fun wD mD => op_len rfl Try.runUnderlying22) ?_
    refine DR.done rfl ?_
    intro w8 m5
    refine WO.det (op_lei rfl rfl) rfl (.free rfl) rfl rfl ?_
    refine WO.end ?_
    refine NE.code ?_
    rcases Bool.eq_false_or_eq_true (decide (((at_ + 1 : Nat) : Int) ≤ ((n : Nat) : Int))) with hb2 | hb2
    · have hp2 := hb2; try simp only [Bool.and_eq_true, Bool.or_eq_true, Bool.not_eq_true', Bool.not_eq_false', Bool.and_eq_false_iff, Bool.or_eq_false_iff, decide_eq_true_eq, decide_eq_false_iff_not, beq_iff_eq, bne_iff_ne, beq_eq_false_iff_ne, bne_eq_false_iff_eq, ne_eq, Bool.false_eq_true, not_false_eq_true, not_true_eq_false, vIn_t, vIn_f] at hp2
      refine CE.cond_t rfl hb2 ?_
      refine CE.seq ?_
      refine CE.region ?_
      refine WD (op_move rfl) rfl ?_
      refine WD (op_assign rfl) rfl ?_
      refine WL.end ?_
      refine NE.code ?_
      refine CE.ret' ?_
      refine XE.ret_then ?_
      refine XE.leave1 Try.results107 rfl ?_
      refine ⟨(xs.getD at_ 0), (sdL s (xs.getD at_ 0)), rfl, ?_, ?_, (Row.congr ((r4.ext md3).ext m5) ?_), (((((((((Mod.refl [p] w).nt md1).nt m1).nt md2).nt m2).then m3 ((aC (.inl (by simp)) aN))).then m4 ((aC (.inl (by simp)) aN))).nt md3).nt m5)⟩
      all_goals first | exact sdL_lt _ _ | omega | (have := hB at_; omega) | rfl
    · have hp2 := hb2; try simp only [Bool.and_eq_true, Bool.or_eq_true, Bool.not_eq_true', Bool.not_eq_false', Bool.and_eq_false_iff, Bool.or_eq_false_iff, decide_eq_true_eq, decide_eq_false_iff_not, beq_iff_eq, bne_iff_ne, beq_eq_false_iff_ne, bne_eq_false_iff_eq, ne_eq, Bool.false_eq_true, not_false_eq_true, not_true_eq_false, vIn_t, vIn_f] at hp2
      refine CE.cond_f rfl hb2 ?_
      refine CE.skip' ?_
      refine NE.code ?_
      refine CE.seq ?_
      refine CE.region ?_
      refine WD (op_move rfl) rfl ?_
      refine WD (op_nilCheck rfl) rfl ?_
      refine WD (op_fieldAddr (off' := 2) rfl Try.runUnderlying127 rfl rfl Try.sizeOf125 rfl) rfl ?_
      refine WD (op_load1 (i := 2) rfl Try.isAgg125 ((r4.ext md3).ext m5).rng rfl rfl) rfl ?_
      refine WD (op_shrN (a := sdL s (xs.getD at_ 0)) (c := 40) rfl rfl (by decide)) rfl ?_
      refine WD (op_and255 (a := (sdL s (xs.getD at_ 0)) / 2 ^ 40) rfl rfl (Nat.lt_of_le_of_lt (Nat.div_le_self _ _) (sdL_lt _ _))) rfl ?_
      refine WD (op_cvt_ii (r := ((((sdL s (xs.getD at_ 0)) / 2 ^ 40) % 256 : Nat) : Int)) rfl Try.runUnderlying125 Try.runUnderlying2 (w_i64 (by omega) (by omega))) rfl ?_
      refine WD (op_assign rfl) rfl ?_
      refine WL.end ?_
      refine NE.code ?_
      refine CE.ret' ?_
      refine XE.leave1 Try.results107 rfl ?_
      refine ⟨(((sdL s (xs.getD at_ 0)) / 2 ^ 40) % 256), (sdL s (xs.getD at_ 0)), rfl, ?_, ?_, (Row.congr ((r4.ext md3).ext m5) ?_), (((((((((Mod.refl [p] w).nt md1).nt m1).nt md2).nt m2).then m3 ((aC (.inl (by simp)) aN))).then m4 ((aC (.inl (by simp)) aN))).nt md3).nt m5)⟩
      all_goals first | exact sdL_lt _ _ | omega | (have := hB at_; omega) | rfl
  · have hp1 := hb1; try simp only [Bool.and_eq_true, Bool.or_eq_true, Bool.not_eq_true', Bool.not_eq_false', Bool.and_eq_false_iff, Bool.or_eq_false_iff, decide_eq_true_eq, decide_eq_false_iff_not, beq_iff_eq, bne_iff_ne, beq_eq_false_iff_ne, bne_eq_false_iff_eq, ne_eq, Bool.false_eq_true, not_false_eq_true, not_true_eq_false, vIn_t, vIn_f] at hp1
    refine CE.cond_f rfl hb1 ?_
    refine CE.skip' ?_
    refine NE.code ?_
    refine CE.seq ?_
    refine CE.region ?_
    refine WD (op_move rfl) rfl ?_
    refine WD (op_nilCheck rfl) rfl ?_
    refine WD (op_fieldAddr (off' := 1) rfl Try.runUnderlying127 rfl rfl Try.sizeOf3 rfl) rfl ?_
    refine WD (op_load1 (i := 1) rfl Try.isAgg3 ((q.ext md1).ext m1).rng rfl rfl) rfl ?_
    refine WD (op_add (r := ((at_ + 1 : Nat) : Int)) rfl rfl (w_i64 (by omega) (by omega))) rfl ?_
    refine WD (op_nilCheck rfl) rfl ?_
    refine WD (op_fieldAddr (off' := 1) rfl Try.runUnderlying127 rfl rfl Try.sizeOf3 rfl) rfl ?_
    refine WL.op0 (op_store (i := 1) (cs := [vI ((at_ + 1 : Nat) : Int)]) rfl rfl rfl Try.sizeOf3 rfl ((q.ext md1).ext m1) rfl (lB rfl) rfl) rfl rfl ?_
    rintro _ w9 ⟨r5, m6, z3⟩
    have r6 : Row w9 p 0 [.slice A n c, vI ((at_ + 1 : Nat) : Int), .int .u64 ((s : Nat) : Int)] := Row.congr r5 rfl
    refine WL.end ?_
    refine NE.code ?_
    refine CE.seq ?_
    refine CE.region ?_
    refine WD (op_move rfl) rfl ?_
    refine WD (op_move rfl) rfl ?_
    refine WD (op_nilCheck rfl) rfl ?_
    refine WD (op_fieldAddr (off' := 2) rfl Try.runUnderlying127 rfl rfl Try.sizeOf125 rfl) rfl ?_
    refine WD (op_load1 (i := 2) rfl Try.isAgg125 r6.rng rfl rfl) rfl ?_
    refine WD (op_mul (r := ((mulL s : Nat) : Int)) rfl rfl (wrapL1 _)) rfl ?_
    refine WD (op_move rfl) rfl ?_
    refine WD (op_cvt_ii (r := 0) rfl Try.runUnderlying3 Try.runUnderlying125 (by decide)) rfl ?_
    refine WD (op_add (r := ((addL s 0 : Nat) : Int)) rfl rfl (wrapL2 _ 0)) rfl ?_
    refine WD (op_add (r := ((sdL s 0 : Nat) : Int)) rfl rfl (wrapL3 _ _)) rfl ?_
    refine WD (op_nilCheck rfl) rfl ?_
    refine WD (op_fieldAddr (off' := 2) rfl Try.runUnderlying127 rfl rfl Try.sizeOf125 rfl) rfl ?_
    refine WL.op0 (op_store (i := 2) (cs := [.int .u64 ((sdL s 0 : Nat) : Int)]) rfl rfl rfl Try.sizeOf125 rfl r6 rfl (lB rfl) rfl) rfl rfl ?_
    rintro _ w10 ⟨r7, m7, z4⟩
    have r8 : Row w10 p 0 [.slice A n c, vI ((at_ + 1 : Nat) : Int), .int .u64 ((sdL s 0 : Nat) : Int)] := Row.congr r7 rfl
    refine WL.end ?_
    refine NE.code ?_
    refine CE.seq ?_
    refine CE.seq ?_
    refine CE.draw (fun _ => none) [0, 1, 2, 3, 4, 5, 6, 7, 8] [9] [] (by kernel_rfl) (by kernel_rfl) ?_
    have md4 : Mod [] w10 w10.drew := (Mod.refl _ _).drew
    generalize w10.drew = w11 at md4 ⊢
    refine DD 0 rfl (by kernel_rfl) rfl (fun wD mD => op_move rfl) ?_
    refine DD 1 rfl (by kernel_rfl) rfl (fun wD mD => op_nilCheck rfl) ?_
    refine DD 2 rfl (by kernel_rfl) rfl (fun wD mD => op_fieldAddr (off' := 1) rfl Try.runUnderlying127 rfl rfl Try.sizeOf3 rfl) ?_
    refine DD 3 rfl (by kernel_rfl) rfl (fun wD mD => op_load1 (i := 1) rfl Try.isAgg3 ((r8.ext md4).ext mD).rng rfl rfl) ?_
    refine DD 4 rfl (by kernel_rfl) rfl (fun wD mD => op_move rfl) ?_
    refine DD 5 rfl (by kernel_rfl) rfl (fun wD mD => op_nilCheck rfl) ?_
    refine DD 6 rfl (by kernel_rfl) rfl (fun wD mD => op_fieldAddr (off' := 0) rfl Try.runUnderlying127 rfl rfl Try.sizeOf22 rfl) ?_
    refine DD 7 rfl (by kernel_rfl) rfl (fun wD mD => op_load1 (i := 0) rfl Try.isAgg22 ((r8.ext md4).ext mD).rng rfl rfl) ?_
    refine DD 8 rfl (by kernel_rfl) rfl (fun wD mD => op_len rfl Try.runUnderlying22) ?_
    refine DR.done rfl ?_
    intro w12 m8
    refine WO.det (op_lei rfl rfl) rfl (.free rfl) rfl rfl ?_
    refine WO.end ?_
    refine NE.code ?_
    rcases Bool.eq_false_or_eq_true (decide (((at_ + 1 : Nat) : Int) ≤ ((n : Nat) : Int))) with hb3 | hb3
    · have hp3 := hb3; try simp only [Bool.and_eq_true, Bool.or_eq_true, Bool.not_eq_true', Bool.not_eq_false', Bool.and_eq_false_iff, Bool.or_eq_false_iff, decide_eq_true_eq, decide_eq_false_iff_not, beq_iff_eq, bne_iff_ne, beq_eq_false_iff_ne, bne_eq_false_iff_eq, ne_eq, Bool.false_eq_true, not_false_eq_true, not_true_eq_false, vIn_t, vIn_f] at hp3
      refine CE.cond_t rfl hb3 ?_
      refine CE.seq ?_
      refine CE.region ?_
      refine WD (op_move rfl) rfl ?_
      refine WD (op_assign rfl) rfl ?_
      refine WL.end ?_
      refine NE.code ?_
      refine CE.ret' ?_
      refine XE.ret_then ?_
      refine XE.leave1 Try.results107 rfl ?_
      refine ⟨0, (sdL s 0), rfl, ?_, ?_, (Row.congr ((r8.ext md4).ext m8) ?_), (((((((Mod.refl [p] w).nt md1).nt m1).then m6 ((aC (.inl (by simp)) aN))).then m7 ((aC (.inl (by simp)) aN))).nt md4).nt m8)⟩
      all_goals first | exact sdL_lt _ _ | omega | (have := hB at_; omega) | rfl
    · have hp3 := hb3; try simp only [Bool.and_eq_true, Bool.or_eq_true, Bool.not_eq_true', Bool.not_eq_false', Bool.and_eq_false_iff, Bool.or_eq_false_iff, decide_eq_true_eq, decide_eq_false_iff_not, beq_iff_eq, bne_iff_ne, beq_eq_false_iff_ne, bne_eq_false_iff_eq, ne_eq, Bool.false_eq_true, not_false_eq_true, not_true_eq_false, vIn_t, vIn_f] at hp3
      refine CE.cond_f rfl hb3 ?_
      refine CE.skip' ?_
      refine NE.code ?_
      refine CE.seq ?_
      refine CE.region ?_
      refine WD (op_move rfl) rfl ?_
      refine WD (op_nilCheck rfl) rfl ?_
      refine WD (op_fieldAddr (off' := 2) rfl Try.runUnderlying127 rfl rfl Try.sizeOf125 rfl) rfl ?_
      refine WD (op_load1 (i := 2) rfl Try.isAgg125 ((r8.ext md4).ext m8).rng rfl rfl) rfl ?_
      refine WD (op_shrN (a := sdL s 0) (c := 40) rfl rfl (by decide)) rfl ?_
      refine WD (op_and255 (a := (sdL s 0) / 2 ^ 40) rfl rfl (Nat.lt_of_le_of_lt (Nat.div_le_self _ _) (sdL_lt _ _))) rfl ?_
      refine WD (op_cvt_ii (r := ((((sdL s 0) / 2 ^ 40) % 256 : Nat) : Int)) rfl Try.runUnderlying125 Try.runUnderlying2 (w_i64 (by omega) (by omega))) rfl ?_
      refine WD (op_assign rfl) rfl ?_
      refine WL.end ?_
      refine NE.code ?_
      refine CE.ret' ?_
      refine XE.leave1 Try.results107 rfl ?_
      refine ⟨(((sdL s 0) / 2 ^ 40) % 256), (sdL s 0), rfl, ?_, ?_, (Row.congr ((r8.ext md4).ext m8) ?_), (((((((Mod.refl [p] w).nt md1).nt m1).then m6 ((aC (.inl (by simp)) aN))).then m7 ((aC (.inl (by simp)) aN))).nt md4).nt m8)⟩
      all_goals first | exact sdL_lt _ _ | omega | (have := hB at_; omega) | rfl

set_option maxRecDepth 100000 in
set_option maxHeartbeats 2000000 in
theorem c_pick (n : Nat) (c : Nat) (A : Option Addr) (b : Nat) (o : Nat) (xs : List Nat) (at_ : Nat) (s : Nat) (p : Nat) (top : Nat) (ln : xs.length = n) (hA : 0 < n → A = some ⟨b, o, none⟩) (hB : ∀ i, xs.getD i 0 < 256) (hn : n ≤ 4611686018427387904) (ha : at_ ≤ 4611686018427387904) (hs : s < 18446744073709551616) (ht : 2 ≤ top) (ht2 : top ≤ 200) (w : World) (q : Row w p 0 [.slice A n c, vI ((at_ : Nat) : Int), .int .u64 ((s : Nat) : Int)]) (r : Rng w b o (bys xs)) : Cl Try.prog 54 #[vP p 0, vI ((top : Nat) : Int)] w fun v w' => ∃ (u : Nat) (s2 : Nat), v = vI ((u : Nat) : Int) ∧ (u < top) ∧ (s2 < 18446744073709551616) ∧ Row w' p 0 [.slice A n c, vI ((at_ + 1 : Nat) : Int), .int .u64 ((s2 : Nat) : Int)] ∧ Mod [p] w w' := by
  refine Cl.of Try.func54 Try.ntmps54 rfl rfl (ρ := [(0, vP p 0), (1, vI ((top : Nat) : Int))]) rfl ?_
  refine CE.seq ?_
  refine CE.region ?_
  refine WD (op_assign rfl) rfl ?_
  refine WL.end ?_
  refine NE.code ?_
  refine CE.seq ?_
  refine CE.seq ?_
  refine CE.region ?_
  refine WD (op_move rfl) rfl ?_
  refine WD (op_lei rfl rfl) rfl ?_
  refine WL.end ?_
  refine NE.code ?_
  refine CE.cond_f rfl (decide_eq_false (by omega)) ?_
  refine CE.skip' ?_
  refine NE.code ?_
  refine CE.seq ?_
  refine CE.region ?_
  refine WD (op_move rfl) rfl ?_
  refine WL.call (oc_call (vs := [vP p 0]) (cap := []) rfl rfl rfl Try.call107 (c_next n c A b o xs at_ s p ln hA hB (by omega) (by omega) (by omega) w q r)) rfl rfl (ltb rfl) ?_
  rintro _ w1 ⟨vv1, s1, rfl, h1, h2, r1, m1⟩
  refine WD (op_assign rfl) rfl ?_
  refine WL.end ?_
  refine NE.code ?_
  refine CE.seq ?_
  refine CE.seq ?_
  refine CE.region ?_
  refine WD (op_move rfl) rfl ?_
  refine WD (op_gti rfl rfl) rfl ?_
  refine WL.end ?_
  refine NE.code ?_
  refine CE.cond_f rfl (decide_eq_false (by omega)) ?_
  refine CE.skip' ?_
  refine NE.code ?_
  refine CE.seq ?_
  refine CE.region ?_
  refine WD (op_move rfl) rfl ?_
  refine WD (op_move rfl) rfl ?_
  have hm1 : vv1 % top < top := Nat.mod_lt _ (by omega)
  refine WD (op_rem (r := ((vv1 % top : Nat) : Int)) rfl rfl (by omega) rfl) rfl ?_
  refine WD (op_assign rfl) rfl ?_
  refine WL.end ?_
  refine NE.code ?_
  refine CE.ret' ?_
  refine XE.leave1 Try.results54 rfl ?_
  refine ⟨(vv1 % top), s1, rfl, ?_, ?_, r1, ((Mod.refl [p] w).then m1 ((aC (.inl (by simp)) aN)))⟩
  all_goals first | assumption | omega | rfl

set_option maxRecDepth 100000 in
set_option maxHeartbeats 2000000 in
theorem c_f6big (n : Nat) (c : Nat) (A : Option Addr) (w : World) : Cl Try.prog 13 #[.slice A n c] w fun v w' => v = .bool (decide ((4096 : Int) < ((n : Nat) : Int))) ∧ w = w' := by
  refine Cl.of Try.func13 Try.ntmps13 rfl rfl (ρ := [(0, .slice A n c)]) rfl ?_
  refine CE.seq ?_
  refine CE.region ?_
  refine WD (op_assign rfl) rfl ?_
  refine WL.end ?_
  refine NE.code ?_
  refine CE.seq ?_
  refine CE.region ?_
  refine WD (op_move rfl) rfl ?_
  refine WD (op_len rfl Try.runUnderlying22) rfl ?_
  refine WD (op_gti rfl rfl) rfl ?_
  refine WD (op_assign rfl) rfl ?_
  refine WL.end ?_
  refine NE.code ?_
  refine CE.ret' ?_
  refine XE.leave1 Try.results13 rfl ?_
  refine ⟨rfl, rfl⟩

set_option maxRecDepth 100000 in
set_option maxHeartbeats 2000000 in
theorem c_SizeOf (a : Nat) (x : Nat) (ha : cn .f32 a = cn .f32 x) (la : a < wid .f32) (w : World) : Cl Try.prog 41 #[vF a] w fun v w' => v = vF (absF a) ∧ w = w' := by
  refine Cl.of Try.func41 Try.ntmps41 rfl rfl (ρ := [(0, vF a)]) rfl ?_
  refine CE.seq ?_
  refine CE.region ?_
  refine WD (op_assign rfl) rfl ?_
  refine WL.end ?_
  refine NE.code ?_
  refine CE.seq ?_
  refine CE.region ?_
  refine WD (op_move rfl) rfl ?_
  refine WL.call (oc_call (vs := [vF a]) (cap := []) rfl rfl rfl Try.call98 (c_l01Abs a x ha la w)) rfl rfl (ltb rfl) ?_
  rintro _ _ ⟨rfl, rfl⟩
  refine WD (op_assign rfl) rfl ?_
  refine WL.end ?_
  refine NE.code ?_
  refine CE.ret' ?_
  refine XE.leave1 Try.results41 rfl ?_
  refine ⟨rfl, rfl⟩

set_option maxRecDepth 100000 in
set_option maxHeartbeats 2000000 in
theorem c_f6near (a : Nat) (x : Nat) (b : Nat) (c : Nat) (ha : cn .f32 a = cn .f32 x) (w : World) : Cl Try.prog 40 #[vF a, vF b, vF c] w fun v w' => v = .bool (fLe .f32 (absF (fop .sub .f32 x b)) c) ∧ Mod [] w w' := by
  refine Cl.of Try.func40 Try.ntmps40 rfl rfl (ρ := [(0, vF a), (1, vF b), (2, vF c)]) rfl ?_
  refine CE.seq ?_
  refine CE.region ?_
  refine WD (op_assign rfl) rfl ?_
  refine WL.end ?_
  refine NE.code ?_
  refine CE.seq ?_
  refine CE.region ?_
  refine WD (op_move rfl) rfl ?_
  refine WD (op_move rfl) rfl ?_
  refine WL.op (op_farith (e := (fop .sub .f32 x b)) (.inr (.inl rfl)) rfl rfl ha rfl rfl) rfl rfl (ltb rfl) ?_
  rintro _ w1 ⟨⟨f1, rfl, hf1, lf1⟩, m1⟩
  refine WL.call (oc_call (vs := [vF f1]) (cap := []) rfl rfl rfl Try.call41 (c_SizeOf f1 (fop .sub .f32 x b) hf1 lf1 w1)) rfl rfl (ltb rfl) ?_
  rintro _ _ ⟨rfl, rfl⟩
  refine WD (op_move rfl) rfl ?_
  refine WD (op_fle (c := fLe .f32 (absF (fop .sub .f32 x b)) c) rfl rfl (absF_congr hf1) rfl rfl) rfl ?_
  refine WD (op_assign rfl) rfl ?_
  refine WL.end ?_
  refine NE.code ?_
  refine CE.ret' ?_
  refine XE.leave1 Try.results40 rfl ?_
  refine ⟨rfl, ((Mod.refl [] w).nt m1)⟩

end Go.Proofs.Ytnahhdnkbbdceaa
