/- Thirty samples that are drawn. -/
import Derived.Test.YtemnjphnhmbddaaU8
import Derived.Test.YtemnjphnhmbddaaE34
set_option linter.unusedVariables false
set_option linter.unusedSimpArgs false
namespace Go.Proofs.Ytemnjphnhmbddaa

theorem fl_snoc (ys : List Nat) (f : Nat) : fl ys ++ [Value.float .f32 f] = fl (ys ++ [f]) := by simp [fl]
theorem plq_snoc {ys : List Nat} {f i : Nat} (hl : ys.length = i) (h : ∀ j, j < i → PlQ (ys.getD j 0)) (hf : PlQ f) (j : Nat) (hj : j < i + 1) : PlQ ((ys ++ [f]).getD j 0) := by
  rw [List.getD_eq_getElem?_getD, List.getElem?_append]
  split
  · rw [← List.getD_eq_getElem?_getD]; exact h j (by omega)
  · rw [show j - ys.length = 0 by omega]; exact hf

set_option maxRecDepth 100000 in
set_option maxHeartbeats 2000000 in
theorem c_P6Plains30 (n : Nat) (c : Nat) (A : Option Addr) (b : Nat) (o : Nat) (xs : List Nat) (ln : xs.length = n) (hA : 0 < n → A = some ⟨b, o, none⟩) (hB : ∀ i, xs.getD i 0 < 256) (hn : n ≤ 4611686018427387904) (w : World) (r : Rng w b o (bys xs)) : Cl Try.prog 12 #[.slice A n c, vI 30] w fun v w' => ∃ (Lq : List Nat) (b' : Nat) (c' : Nat) (A' : Option Addr), v = .slice A' 30 c' ∧ (Lq.length = 30) ∧ (0 < 30 → A' = some ⟨b', 0, none⟩) ∧ (∀ j, j < 30 → PlQ (Lq.getD j 0)) ∧ Row w' b' 0 (fl Lq) ∧ w.heap.size ≤ b' ∧ Mod [] w w' := by
  refine Cl.of Try.func12 Try.ntmps12 rfl rfl (ρ := [(0, .slice A n c), (1, vI 30)]) rfl ?_
  refine CE.seq ?_
  refine CE.region ?_
  refine WL.det (op_assign rfl) rfl rfl rfl ?_
  refine WL.end ?_
  refine NE.code ?_
  refine CE.seq ?_
  refine CE.region ?_
  refine WL.det (op_move rfl) rfl rfl rfl ?_
  refine WL.call (oc_call (vs := [.slice A n c]) (cap := []) rfl rfl rfl Try.call16 (c_l00From n c A b o hA w)) rfl rfl (ltb rfl) ?_
  rintro _ w1 ⟨p'1, rfl, r1, ge1, m1⟩
  refine WL.det (op_assign rfl) rfl rfl rfl ?_
  refine WL.end ?_
  refine NE.code ?_
  refine CE.seq ?_
  refine CE.region ?_
  refine WL.op (op_emptySl rfl Try.runUnderlying29 Try.sizeOf24) rfl rfl (ltb rfl) ?_
  rintro _ w2 ⟨rfl, r2, m2, z1⟩
  refine WL.det (op_assign rfl) rfl rfl rfl ?_
  refine WL.end ?_
  refine NE.code ?_
  iterate 2 refine CE.seq ?_
  refine CE.region ?_
  refine WL.det (op_assign rfl) rfl rfl rfl ?_
  refine WL.end ?_
  refine NE.code ?_
  refine CE.block ?_
  refine CE.loop (fun (z : Nat × Nat × Nat × Option Addr × Nat × List Nat) => [(7, vI ((z.1 : Nat) : Int)), (6, .slice z.2.2.2.1 z.1 z.2.2.2.2.1), (1, vI 30), (4, .slice none 0 0), (5, vP p'1 0)]) (fun (z : Nat × Nat × Nat × Option Addr × Nat × List Nat) => fun W => (z.1 ≤ 30) ∧ (z.2.1 ≤ 8 * z.1) ∧ (z.2.2.1 < 18446744073709551616) ∧ (z.2.2.2.2.2.length = z.1) ∧ (∀ j, j < z.1 → PlQ (z.2.2.2.2.2.getD j 0)) ∧ Row W p'1 0 [.slice A n c, vI ((z.2.1 : Nat) : Int), .int .u64 ((z.2.2.1 : Nat) : Int)] ∧ Own 24 1 w2.heap.size W z.2.2.2.1 z.1 z.2.2.2.2.1 (fl z.2.2.2.2.2) ∧ Mod [p'1] w2 W) (fun (z : Nat × Nat × Nat × Option Addr × Nat × List Nat) => 30 - z.1) (0, 0, 0, (some ⟨w1.heap.size, 0, none⟩), 0, []) (⟨rfl, rfl, rfl, rfl, rfl, trivial⟩) ⟨(by omega), (by dsimp only; omega), (by dsimp only; omega), (by rfl), (by exact fun j hj => absurd hj (Nat.not_lt_zero j)), (Row.congr (r1.ext m2) rfl), (Own.congr Own.emp (rfl)), Mod.refl _ _⟩ ?_
  rintro ⟨i, at_, s, A2, cc, ys⟩ w3 ⟨hi, ha, hs, hly, hb9, r3, ow1, m3⟩
  replace hi : i ≤ 30 := hi
  replace ha : at_ ≤ 8 * i := ha
  replace hs : s < 18446744073709551616 := hs
  replace hly : ys.length = i := hly
  replace hb9 : ∀ j, j < i → PlQ (ys.getD j 0) := hb9
  replace r3 : Row w3 p'1 0 [.slice A n c, vI ((at_ : Nat) : Int), .int .u64 ((s : Nat) : Int)] := r3
  replace ow1 : Own 24 1 w2.heap.size w3 A2 i cc (fl ys) := ow1
  show CE _ _ _ _ [(7, vI ((i : Nat) : Int)), (6, .slice A2 i cc), (1, vI 30), (4, .slice none 0 0), (5, vP p'1 0)] _
  iterate 2 refine CE.seq ?_
  refine CE.region ?_
  iterate 2 refine WL.det (op_move rfl) rfl rfl rfl ?_
  refine WL.det (op_lti rfl rfl) rfl rfl rfl ?_
  refine WL.end ?_
  refine NE.code ?_
  rcases Bool.eq_false_or_eq_true (decide (((i : Nat) : Int) < (30 : Int))) with hb1 | hb1
  · have hp1 := of_decide_eq_true hb1
    refine CE.cond_t rfl hb1 ?_
    refine CE.skip' ?_
    refine NE.code ?_
    refine CE.seq ?_
    refine CE.block ?_
    refine CE.region ?_
    iterate 2 refine WL.det (op_move rfl) rfl rfl rfl ?_
    have r4 := (Rng.youngS r ((r.ext m1).ext m2) m3 (allge_cons ge1 allge_nil))
    refine WL.call (oc_call (vs := [vP p'1 0]) (cap := []) rfl rfl rfl Try.call17 (c_l01PlainQ n c A b o xs at_ s p'1 ln hA hB (by omega) (by omega) (by omega) (by first | assumption | (intro h0; have hlt := Rng.lt r (by rw [bys_len, ln]; exact h0); omega)) w3 r3 r4)) rfl rfl (ltb rfl) ?_
    rintro _ w4 ⟨r_1, a1, s1, rfl, h1, h2, h3, r5, m4⟩
    refine WL.op (op_buildSl (qs := [(0, vF r_1)]) (cells := #[vF r_1]) rfl Try.runUnderlying29 Try.sizeOf24 Try.zeroValue24 (by decide) (by decide) (by kernel_rfl)) rfl rfl (ltb rfl) ?_
    rintro _ w5 ⟨rfl, r6, m5, z2⟩
    have sz1 := (lT (lT m3.size m4.size) m5.size)
    refine WL.op (op_app (i := Try.t24) (m := 1) (bt := 4) (news := [vF r_1]) rfl rfl Try.underlying29 rfl rfl rfl rfl rfl (by decide) r6.rng rfl rfl ((ow1.mod m4 (altC (lL r1.lt m2.size) altN)).ext m5) sz1 (by omega) (by decide)) rfl rfl (ltb rfl) ?_
    rintro _ w6 ⟨A1, c1, b1, rfl, ow2, ge2, m6⟩
    refine WL.det (op_assign rfl) rfl rfl rfl ?_
    refine WL.end ?_
    refine NE.blk ?_
    refine NE.code ?_
    refine CE.region ?_
    refine WL.det (op_move rfl) rfl rfl rfl ?_
    refine WL.det (op_add (r := ((i + 1 : Nat) : Int)) rfl rfl (w_i64 (by omega) (by omega))) rfl rfl rfl ?_
    refine WL.det (op_assign rfl) rfl rfl rfl ?_
    refine WL.end ?_
    have r7 := ((r5.ext m5).mod m6 (nC (lE (lL (lL r1.lt m2.size) ge2)) nN))
    exact NE.again ((i + 1), a1, s1, A1, c1, (ys ++ [r_1])) (⟨rfl, rfl, rfl, rfl, rfl, trivial⟩) ⟨(by dsimp only; omega), (by dsimp only; omega), (by assumption), (by simp [hly]), (by exact plq_snoc hly hb9 (by assumption)), (Row.congr r7 rfl), (Own.congr ow2 (fl_snoc _ _)), (((m3.then m4 ((aC (.inl (by simp)) aN))).nt m5).then m6 ((aC (.inr ge2) aN)))⟩ (by first | (dsimp only; omega) | omega)
  · have hp1 := of_decide_eq_false hb1
    refine CE.cond_f rfl hb1 ?_
    refine CE.exit' ?_
    iterate 2 refine XE.exit_then ?_
    refine XE.exit_here ?_
    refine NE.code ?_
    refine CE.seq ?_
    refine CE.region ?_
    refine WL.det (op_move rfl) rfl rfl rfl ?_
    refine WL.det (op_assign rfl) rfl rfl rfl ?_
    refine WL.end ?_
    refine NE.code ?_
    refine CE.ret' ?_
    have ei : 30 = i := by omega
    subst ei
    obtain ⟨b2, hA1, r8, hq1⟩ := Own.out ow1 r3
    refine XE.leave1 Try.results12 rfl ?_
    refine ⟨ys, b2, cc, A2, rfl, ?_, hA1, ?_, r8, (own_ge hq1 ge1 (lT m1.size m2.size)), ((((Mod.refl [] w).nt m1).nt m2).then m3 ((aC (.inr ge1) aN)))⟩
    all_goals first | assumption | rfl | omega

theorem c_P6PlainsV (n : Nat) (c : Nat) (A : Option Addr) (b : Nat) (o : Nat) (xs : List Nat) (ln : xs.length = n) (hA : 0 < n → A = some ⟨b, o, none⟩) (hB : ∀ i, xs.getD i 0 < 256) (hn : n ≤ 4611686018427387904) (w : World) (r : Rng w b o (bys xs)) : Cl Try.prog 12 #[.slice A n c, vI 30] w fun v w' => ∃ (Lq : List Nat) (b' : Nat) (c' : Nat), v = vS b' 0 30 c' ∧ (Lq.length = 30) ∧ (∀ j, j < 30 → PlQ (Lq.getD j 0)) ∧ Row w' b' 0 (fl Lq) ∧ w.heap.size ≤ b' ∧ Mod [] w w' := by
  refine Cl.mono (c_P6Plains30 n c A b o xs ln hA hB hn w r) ?_
  rintro v w' ⟨Lq, b', c', A', hv, p0, p1, p2, hr⟩
  obtain rfl := p1 (by omega)
  exact ⟨Lq, b', c', hv, p0, p2, hr⟩
set_option maxRecDepth 100000 in
set_option maxHeartbeats 2000000 in
theorem c_P6PickB (n : Nat) (c : Nat) (A : Option Addr) (b : Nat) (o : Nat) (xs : List Nat) (ln : xs.length = n) (hA : 0 < n → A = some ⟨b, o, none⟩) (hB : ∀ i, xs.getD i 0 < 256) (hn : n ≤ 4611686018427387904) (w : World) (r : Rng w b o (bys xs)) : Cl Try.prog 11 #[.slice A n c, vI 5000] w fun v w' => ∃ (u : Nat), v = vI ((u : Nat) : Int) ∧ (u < 5000) ∧ Mod [] w w' := by
  refine Cl.of Try.func11 Try.ntmps11 rfl rfl (ρ := [(0, .slice A n c), (1, vI 5000)]) rfl ?_
  refine CE.seq ?_
  refine CE.region ?_
  refine WL.det (op_assign rfl) rfl rfl rfl ?_
  refine WL.end ?_
  refine NE.code ?_
  refine CE.seq ?_
  refine CE.region ?_
  refine WL.det (op_move rfl) rfl rfl rfl ?_
  refine WL.call (oc_call (vs := [.slice A n c]) (cap := []) rfl rfl rfl Try.call16 (c_l00From n c A b o hA w)) rfl rfl (ltb rfl) ?_
  rintro _ w1 ⟨p'1, rfl, r1, ge1, m1⟩
  refine WL.det (op_move rfl) rfl rfl rfl ?_
  refine WL.call (oc_call (vs := [vP p'1 0, vI 5000]) (cap := []) rfl rfl rfl Try.call25 (c_pickB n c A b o xs 0 0 p'1 5000 ln hA hB (by omega) (by omega) (by omega) (by omega) (by omega) (by first | assumption | (intro h0; have hlt := Rng.lt r (by rw [bys_len, ln]; exact h0); omega)) w1 r1 (r.ext m1))) rfl rfl (ltb rfl) ?_
  rintro _ w2 ⟨u1, s1, rfl, h1, h2, r2, m2⟩
  refine WL.det (op_assign rfl) rfl rfl rfl ?_
  refine WL.end ?_
  refine NE.code ?_
  refine CE.ret' ?_
  refine XE.leave1 Try.results11 rfl ?_
  refine ⟨u1, rfl, ?_, (((Mod.refl [] w).nt m1).then m2 ((aC (.inr ge1) aN)))⟩
  all_goals first | assumption | omega

end Go.Proofs.Ytemnjphnhmbddaa
