/- What is drawn of bytes: floats, digits. -/
import Derived.Test.YtnpkhjafnjpnmaaD1
set_option linter.unusedVariables false
set_option linter.unusedSimpArgs false
set_option maxRecDepth 100000
set_option maxHeartbeats 8000000
namespace Go.Proofs.Ytnpkhjafnjpnmaa

theorem w_u32 {i : Int} (h0 : 0 ≤ i) (h1 : i ≤ 4294967295) : IntKind.u32.wrap i = i := by
  have e : IntKind.u32.wrap i = i % 4294967296 := by rfl
  rw [e]; omega
theorem bys_len (xs : List Nat) : (bys xs).length = xs.length := by
  unfold bys; induction xs with
  | nil => rfl
  | cons x xs ih => simp [cat] at ih ⊢; omega
theorem rng0 {n b o p : Nat} {xs : List Nat} {w w' : World} (ln : xs.length = n) (hne : 0 < n → b ≠ p) (h : Rng w b o (bys xs)) (m : Mod [p] w w') : Rng w' b o (bys xs) := by
  intro i v hv
  by_cases h0 : 0 < n
  · exact h.mod m (by simp [hne h0]) i v hv
  · have e : xs = [] := List.length_eq_zero_iff.1 (by omega)
    subst e; simp [bys, cat] at hv

theorem c_pickB (n : Nat) (c : Nat) (A : Option Addr) (b : Nat) (o : Nat) (xs : List Nat) (at_ : Nat) (s : Nat) (p : Nat) (top : Nat) (ln : xs.length = n) (hA : 0 < n → A = some ⟨b, o, none⟩) (hB : ∀ i, xs.getD i 0 < 256) (hn : n ≤ 4611686018427387904) (ha : at_ ≤ 4611686018427387100) (hs : s < 18446744073709551616) (ht : 200 < top) (ht2 : top ≤ 2147483648) (nbp : 0 < n → b ≠ p) (w : World) (q : Row w p 0 [.slice A n c, vI ((at_ : Nat) : Int), .int .u64 ((s : Nat) : Int)]) (r : Rng w b o (bys xs)) : Cl Try.prog 58 #[vP p 0, vI ((top : Nat) : Int)] w fun v w' => ∃ (u : Nat) (s2 : Nat), v = vI ((u : Nat) : Int) ∧ (u < top) ∧ (s2 < 18446744073709551616) ∧ Row w' p 0 [.slice A n c, vI ((at_ + 1 + 1 : Nat) : Int), .int .u64 ((s2 : Nat) : Int)] ∧ Mod [p] w w' := by
 refine Cl.of Try.func58 Try.ntmps58 rfl rfl (ρ := [(0, vP p 0), (1, vI ((top : Nat) : Int))]) rfl ?_
 refine CE.seq (CE.region ?_)
 refine WL.det (op_assign rfl) rfl rfl rfl ?_
 refine WL.end (NE.code (CE.seq (CE.seq (CE.region ?_))))
 refine WL.det (op_move rfl) rfl rfl rfl ?_
 refine WL.det (op_lei rfl rfl) rfl rfl rfl ?_
 refine WL.end (NE.code ?_)
 refine CE.cond_f rfl (decide_eq_false (by omega)) ?_
 refine CE.skip' (NE.code (CE.seq (CE.region ?_)))
 refine WL.det (op_move rfl) rfl rfl rfl ?_
 refine WL.call (oc_call (vs := [vP p 0]) (cap := []) rfl rfl rfl Try.call93 (c_next n c A b o xs at_ s p ln hA hB (by omega) (by omega) (by omega) w q r)) rfl rfl (ltb rfl) ?_
 rintro _ w1 ⟨vv1, s1, rfl, h1, h2, r1, m1⟩
 refine WL.det (op_assign rfl) rfl rfl rfl ?_
 refine WL.end (NE.code (CE.seq (CE.seq (CE.region ?_))))
 refine WL.det (op_move rfl) rfl rfl rfl ?_
 refine WL.det (op_gti rfl rfl) rfl rfl rfl ?_
 refine WL.end (NE.code ?_)
 refine CE.cond_t rfl (decide_eq_true (by omega)) ?_
 refine CE.region ?_
 refine WL.det (op_move rfl) rfl rfl rfl ?_
 refine WL.det (op_mul (r := ((vv1 * 256 : Nat) : Int)) rfl rfl (w_i64 (by omega) (by omega))) rfl rfl rfl ?_
 refine WL.det (op_move rfl) rfl rfl rfl ?_
 refine WL.call (oc_call (vs := [vP p 0]) (cap := []) rfl rfl rfl Try.call93 (c_next n c A b o xs (at_ + 1) s1 p ln hA hB (by omega) (by omega) (by omega) w1 r1 (rng0 ln nbp r m1))) rfl rfl (ltb rfl) ?_
 rintro _ w2 ⟨vv2, s2, rfl, h3, h4, r2, m2⟩
 refine WL.det (op_add (r := ((vv1 * 256 + vv2 : Nat) : Int)) rfl rfl (w_i64 (by omega) (by omega))) rfl rfl rfl ?_
 refine WL.det (op_assign rfl) rfl rfl rfl ?_
 refine WL.end (NE.code (CE.seq (CE.region ?_)))
 iterate 2 refine WL.det (op_move rfl) rfl rfl rfl ?_
 have hm1 : (vv1 * 256 + vv2) % top < top := Nat.mod_lt _ (by omega)
 refine WL.det (op_rem (r := (((vv1 * 256 + vv2) % top : Nat) : Int)) rfl rfl (by omega) rfl) rfl rfl rfl ?_
 refine WL.det (op_assign rfl) rfl rfl rfl ?_
 refine WL.end (NE.code (CE.ret' ?_))
 refine XE.leave1 Try.results58 rfl ?_
 refine ⟨((vv1 * 256 + vv2) % top), s2, rfl, ?_, ?_, (Row.congr r2 ?_), (((Mod.refl [p] w).then m1 ((aC (.inl (by simp)) aN))).then m2 ((aC (.inl (by simp)) aN)))⟩
 all_goals first | assumption | omega | rfl

theorem c_l01Plain (n : Nat) (c : Nat) (A : Option Addr) (b : Nat) (o : Nat) (xs : List Nat) (at_ : Nat) (s : Nat) (p : Nat) (ln : xs.length = n) (hA : 0 < n → A = some ⟨b, o, none⟩) (hB : ∀ i, xs.getD i 0 < 256) (hn : n ≤ 4611686018427387904) (ha : at_ ≤ 4611686018427387000) (hs : s < 18446744073709551616) (nbp : 0 < n → b ≠ p) (w : World) (q : Row w p 0 [.slice A n c, vI ((at_ : Nat) : Int), .int .u64 ((s : Nat) : Int)]) (r : Rng w b o (bys xs)) : Cl Try.prog 49 #[vP p 0] w fun v w' => ∃ (r_ : Nat), v = vF r_ ∧ (r_ < wid .f32) ∧ Mod [p] w w' := by
 refine Cl.of Try.func49 Try.ntmps49 rfl rfl (ρ := [(0, vP p 0)]) rfl ?_
 refine CE.seq (CE.region ?_)
 refine WL.det (op_assign rfl) rfl rfl rfl ?_
 refine WL.end (NE.code (CE.seq (CE.region ?_)))
 refine WL.det (op_move rfl) rfl rfl rfl ?_
 refine WL.call (oc_call (vs := [vP p 0, vI 257]) (cap := []) rfl rfl rfl Try.call58 (c_pickB n c A b o xs at_ s p 257 ln hA hB (by omega) (by omega) (by omega) (by omega) (by omega) (by first | assumption | (intro h0; have hlt := Rng.lt r (by rw [bys_len, ln]; exact h0); omega)) w q r)) rfl rfl (ltb rfl) ?_
 rintro _ w1 ⟨u1, s1, rfl, h1, h2, r1, m1⟩
 refine WL.det (op_sub (r := (((u1 : Nat) : Int) - (128 : Int))) rfl rfl (w_i64 (by omega) (by omega))) rfl rfl rfl ?_
 refine WL.det (op_cvt_if rfl Try.runUnderlying2 Try.runUnderlying24) rfl rfl rfl ?_
 refine WL.op (op_farith (e := (fop .quo .f32 (FloatKind.f32.nearest (((u1 : Nat) : Int) - (128 : Int))) 1115684864)) (.inr (.inr (.inr rfl))) rfl rfl rfl rfl rfl) rfl rfl (ltb rfl) ?_
 rintro _ w2 ⟨⟨f1, rfl, hf1, lf1⟩, m2⟩
 refine WL.det (op_assign rfl) rfl rfl rfl ?_
 refine WL.end (NE.code (CE.ret' ?_))
 refine XE.leave1 Try.results49 rfl ?_
 refine ⟨f1, rfl, lf1, (((Mod.refl [p] w).then m1 ((aC (.inl (by simp)) aN))).nt m2)⟩

theorem c_A2Plain (n : Nat) (c : Nat) (A : Option Addr) (b : Nat) (o : Nat) (xs : List Nat) (ln : xs.length = n) (hA : 0 < n → A = some ⟨b, o, none⟩) (hB : ∀ i, xs.getD i 0 < 256) (hn : n ≤ 4611686018427387904) (w : World) (r : Rng w b o (bys xs)) : Cl Try.prog 11 #[.slice A n c] w fun v w' => ∃ (r_ : Nat), v = vF r_ ∧ (r_ < wid .f32) ∧ Mod [] w w' := by
 refine Cl.of Try.func11 Try.ntmps11 rfl rfl (ρ := [(0, .slice A n c)]) rfl ?_
 refine CE.seq (CE.region ?_)
 refine WL.det (op_assign rfl) rfl rfl rfl ?_
 refine WL.end (NE.code (CE.seq (CE.region ?_)))
 refine WL.det (op_move rfl) rfl rfl rfl ?_
 refine WL.call (oc_call (vs := [.slice A n c]) (cap := []) rfl rfl rfl Try.call50 (c_l00From n c A b o hA w)) rfl rfl (ltb rfl) ?_
 rintro _ w1 ⟨p'1, rfl, r1, ge1, m1⟩
 refine WL.call (oc_call (vs := [vP p'1 0]) (cap := []) rfl rfl rfl Try.call49 (c_l01Plain n c A b o xs 0 0 p'1 ln hA hB (by omega) (by omega) (by omega) (by first | assumption | (intro h0; have hlt := Rng.lt r (by rw [bys_len, ln]; exact h0); omega)) w1 r1 (r.ext m1))) rfl rfl (ltb rfl) ?_
 rintro _ w2 ⟨r_1, rfl, h1, m2⟩
 refine WL.det (op_assign rfl) rfl rfl rfl ?_
 refine WL.end (NE.code (CE.ret' ?_))
 refine XE.leave1 Try.results11 rfl ?_
 refine ⟨r_1, rfl, h1, (((Mod.refl [] w).nt m1).then m2 ((aC (.inr ge1) aN)))⟩

theorem c_mathNaN (w : World) : Cl Try.prog 90 #[] w fun v w' => v = .float .f64 9221120237041090561 ∧ w = w' := by
 refine Cl.of Try.func90 Try.ntmps90 rfl rfl (ρ := []) rfl ?_
 refine CE.seq (CE.region ?_)
 refine WL.det (op_assign rfl) rfl rfl rfl ?_
 refine WL.end (NE.code (CE.seq (CE.region ?_)))
 refine WL.det (op_extern (vs := [.int .u64 9221120237041090561]) Try.func122 rfl rfl x122n x122e rfl (fun _ => rfl)) rfl rfl rfl ?_
 refine WL.det (op_assign rfl) rfl rfl rfl ?_
 refine WL.end (NE.code (CE.ret' ?_))
 refine XE.leave1 Try.results90 rfl ?_
 refine ⟨rfl, rfl⟩

theorem c_mathInf1 (w : World) : Cl Try.prog 91 #[vI 1] w fun v w' => v = .float .f64 9218868437227405312 ∧ w = w' := by
 refine Cl.of Try.func91 Try.ntmps91 rfl rfl (ρ := [(0, vI 1)]) rfl ?_
 refine CE.seq (CE.region ?_)
 refine WL.det (op_assign rfl) rfl rfl rfl ?_
 refine WL.end (NE.code (CE.seq (CE.region ?_)))
 refine WL.det (op_assign rfl) rfl rfl rfl ?_
 refine WL.end (NE.code (CE.seq (CE.seq (CE.region ?_))))
 refine WL.det (op_move rfl) rfl rfl rfl ?_
 refine WL.det (op_gei rfl rfl) rfl rfl rfl ?_
 refine WL.end (NE.code ?_)
 refine CE.cond_t rfl rfl ?_
 refine CE.region ?_
 refine WL.det (op_assign rfl) rfl rfl rfl ?_
 refine WL.end (NE.code (CE.seq (CE.region ?_)))
 refine WL.det (op_move rfl) rfl rfl rfl ?_
 refine WL.det (op_extern (vs := [.int .u64 9218868437227405312]) Try.func122 rfl rfl x122n x122e rfl (fun _ => rfl)) rfl rfl rfl ?_
 refine WL.det (op_assign rfl) rfl rfl rfl ?_
 refine WL.end (NE.code (CE.ret' ?_))
 refine XE.leave1 Try.results91 rfl ?_
 refine ⟨rfl, rfl⟩

theorem c_mathInf2 (w : World) : Cl Try.prog 91 #[vI (-1)] w fun v w' => v = .float .f64 18442240474082181120 ∧ w = w' := by
 refine Cl.of Try.func91 Try.ntmps91 rfl rfl (ρ := [(0, vI (-1))]) rfl ?_
 refine CE.seq (CE.region ?_)
 refine WL.det (op_assign rfl) rfl rfl rfl ?_
 refine WL.end (NE.code (CE.seq (CE.region ?_)))
 refine WL.det (op_assign rfl) rfl rfl rfl ?_
 refine WL.end (NE.code (CE.seq (CE.seq (CE.region ?_))))
 refine WL.det (op_move rfl) rfl rfl rfl ?_
 refine WL.det (op_gei rfl rfl) rfl rfl rfl ?_
 refine WL.end (NE.code ?_)
 refine CE.cond_f rfl rfl ?_
 refine CE.region ?_
 refine WL.det (op_assign rfl) rfl rfl rfl ?_
 refine WL.end (NE.code (CE.seq (CE.region ?_)))
 refine WL.det (op_move rfl) rfl rfl rfl ?_
 refine WL.det (op_extern (vs := [.int .u64 18442240474082181120]) Try.func122 rfl rfl x122n x122e rfl (fun _ => rfl)) rfl rfl rfl ?_
 refine WL.det (op_assign rfl) rfl rfl rfl ?_
 refine WL.end (NE.code (CE.ret' ?_))
 refine XE.leave1 Try.results91 rfl ?_
 refine ⟨rfl, rfl⟩

theorem c_l01Any (n : Nat) (c : Nat) (A : Option Addr) (b : Nat) (o : Nat) (xs : List Nat) (at_ : Nat) (s : Nat) (p : Nat) (ln : xs.length = n) (hA : 0 < n → A = some ⟨b, o, none⟩) (hB : ∀ i, xs.getD i 0 < 256) (hn : n ≤ 4611686018427387904) (ha : at_ ≤ 4611686018427386000) (hs : s < 18446744073709551616) (nbp : 0 < n → b ≠ p) (w : World) (q : Row w p 0 [.slice A n c, vI ((at_ : Nat) : Int), .int .u64 ((s : Nat) : Int)]) (r : Rng w b o (bys xs)) : Cl Try.prog 57 #[vP p 0] w fun v w' => ∃ (r_ : Nat), v = vF r_ ∧ (r_ < wid .f32) ∧ Mod [p] w w' := by
 refine Cl.of Try.func57 Try.ntmps57 rfl rfl (ρ := [(0, vP p 0)]) rfl ?_
 refine CE.seq (CE.region ?_)
 refine WL.det (op_assign rfl) rfl rfl rfl ?_
 refine WL.end (NE.code (CE.seq (CE.seq (CE.region ?_))))
 refine WL.det (op_move rfl) rfl rfl rfl ?_
 refine WL.call (oc_call (vs := [vP p 0, vI 14]) (cap := []) rfl rfl rfl Try.call58 (c_pick n c A b o xs at_ s p 14 ln hA hB (by omega) (by omega) (by omega) (by omega) (by omega) w q r)) rfl rfl (ltb rfl) ?_
 rintro _ w1 ⟨u1, s1, rfl, h1, h2, r1, m1⟩
 refine WL.end (NE.code (CE.block (CE.seq (CE.region ?_))))
 refine WL.det (op_eqi rfl rfl) rfl rfl rfl ?_
 refine WL.det (op_assign rfl) rfl rfl rfl ?_
 refine WL.end (NE.code ?_)
 rcases Bool.eq_false_or_eq_true ((((u1 : Nat) : Int) == (0 : Int))) with hb1 | hb1
 ·have hp1 := eq_of_beq hb1
  refine CE.cond_t rfl hb1 ?_
  refine CE.seq (CE.region ?_)
  refine WL.call (oc_call (vs := []) (cap := []) rfl rfl rfl Try.call90 (c_mathNaN w1)) rfl rfl (ltb rfl) ?_
  rintro _ _ ⟨rfl, rfl⟩
  refine WL.op (op_narrow (e := 2143289344) rfl rfl Try.runUnderlying109 Try.runUnderlying24 (.inl ⟨by decide +kernel, by decide +kernel⟩)) rfl rfl (ltb rfl) ?_
  rintro _ w2 ⟨⟨f1, rfl, hf1, lf1⟩, m2⟩
  refine WL.det (op_assign rfl) rfl rfl rfl ?_
  refine WL.end (NE.code (CE.ret' (XE.ret_blk (XE.ret_then ?_))))
  refine XE.leave1 Try.results57 rfl ?_
  refine ⟨f1, rfl, lf1, (((Mod.refl [p] w).then m1 ((aC (.inl (by simp)) aN))).nt m2)⟩
 ·have hp1 := ne_of_beq_false hb1
  refine CE.cond_f rfl hb1 ?_
  refine CE.seq (CE.region ?_)
  refine WL.det (op_eqi rfl rfl) rfl rfl rfl ?_
  refine WL.det (op_assign rfl) rfl rfl rfl ?_
  refine WL.end (NE.code ?_)
  rcases Bool.eq_false_or_eq_true ((((u1 : Nat) : Int) == (1 : Int))) with hb2 | hb2
  ·have hp2 := eq_of_beq hb2
   refine CE.cond_t rfl hb2 ?_
   refine CE.seq (CE.region ?_)
   refine WL.call (oc_call (vs := [vI 1]) (cap := []) rfl rfl rfl Try.call91 (c_mathInf1 w1)) rfl rfl (ltb rfl) ?_
   rintro _ _ ⟨rfl, rfl⟩
   refine WL.op (op_narrow (e := 2139095040) rfl rfl Try.runUnderlying109 Try.runUnderlying24 (.inr (by decide +kernel))) rfl rfl (ltb rfl) ?_
   rintro _ w3 ⟨⟨f2, rfl, hf2, lf2⟩, m3⟩
   refine WL.det (op_assign rfl) rfl rfl rfl ?_
   refine WL.end (NE.code (CE.ret' (XE.ret_blk (XE.ret_then ?_))))
   refine XE.leave1 Try.results57 rfl ?_
   refine ⟨f2, rfl, lf2, (((Mod.refl [p] w).then m1 ((aC (.inl (by simp)) aN))).nt m3)⟩
  ·have hp2 := ne_of_beq_false hb2
   refine CE.cond_f rfl hb2 ?_
   refine CE.seq (CE.region ?_)
   refine WL.det (op_eqi rfl rfl) rfl rfl rfl ?_
   refine WL.det (op_assign rfl) rfl rfl rfl ?_
   refine WL.end (NE.code ?_)
   rcases Bool.eq_false_or_eq_true ((((u1 : Nat) : Int) == (2 : Int))) with hb3 | hb3
   ·have hp3 := eq_of_beq hb3
    refine CE.cond_t rfl hb3 ?_
    refine CE.seq (CE.region ?_)
    refine WL.call (oc_call (vs := [vI (-1)]) (cap := []) rfl rfl rfl Try.call91 (c_mathInf2 w1)) rfl rfl (ltb rfl) ?_
    rintro _ _ ⟨rfl, rfl⟩
    refine WL.op (op_narrow (e := 4286578688) rfl rfl Try.runUnderlying109 Try.runUnderlying24 (.inr (by decide +kernel))) rfl rfl (ltb rfl) ?_
    rintro _ w4 ⟨⟨f3, rfl, hf3, lf3⟩, m4⟩
    refine WL.det (op_assign rfl) rfl rfl rfl ?_
    refine WL.end (NE.code (CE.ret' (XE.ret_blk (XE.ret_then ?_))))
    refine XE.leave1 Try.results57 rfl ?_
    refine ⟨f3, rfl, lf3, (((Mod.refl [p] w).then m1 ((aC (.inl (by simp)) aN))).nt m4)⟩
   ·have hp3 := ne_of_beq_false hb3
    refine CE.cond_f rfl hb3 ?_
    refine CE.seq (CE.region ?_)
    refine WL.det (op_eqi rfl rfl) rfl rfl rfl ?_
    refine WL.det (op_assign rfl) rfl rfl rfl ?_
    refine WL.end (NE.code ?_)
    rcases Bool.eq_false_or_eq_true ((((u1 : Nat) : Int) == (3 : Int))) with hb4 | hb4
    ·have hp4 := eq_of_beq hb4
     refine CE.cond_t rfl hb4 ?_
     refine CE.seq (CE.region ?_)
     refine WL.det (op_extern (vs := [.int .u32 2147483648]) Try.func92 rfl rfl x92n x92e rfl (fun _ => rfl)) rfl rfl rfl ?_
     refine WL.det (op_assign rfl) rfl rfl rfl ?_
     refine WL.end (NE.code (CE.ret' (XE.ret_blk (XE.ret_then ?_))))
     refine XE.leave1 Try.results57 rfl ?_
     refine ⟨2147483648, rfl, (by decide +kernel), ((Mod.refl [p] w).then m1 ((aC (.inl (by simp)) aN)))⟩
    ·have hp4 := ne_of_beq_false hb4
     refine CE.cond_f rfl hb4 ?_
     refine CE.seq (CE.region ?_)
     refine WL.det (op_eqi rfl rfl) rfl rfl rfl ?_
     refine WL.det (op_assign rfl) rfl rfl rfl ?_
     refine WL.end (NE.code ?_)
     rcases Bool.eq_false_or_eq_true ((((u1 : Nat) : Int) == (4 : Int))) with hb5 | hb5
     ·have hp5 := eq_of_beq hb5
      refine CE.cond_t rfl hb5 ?_
      refine CE.seq (CE.region ?_)
      refine WL.det (op_move rfl) rfl rfl rfl ?_
      refine WL.call (oc_call (vs := [vP p 0, vI 16777220]) (cap := []) rfl rfl rfl Try.call58 (c_pickB n c A b o xs (at_ + 1) s1 p 16777220 ln hA hB (by omega) (by omega) (by omega) (by omega) (by omega) (by first | assumption | (intro h0; have hlt := Rng.lt r (by rw [bys_len, ln]; exact h0); omega)) w1 r1 (rng0 ln nbp r m1))) rfl rfl (ltb rfl) ?_
      rintro _ w5 ⟨u2, s2, rfl, h3, h4, r2, m5⟩
      refine WL.det (op_cvt_ii (r := ((u2 : Nat) : Int)) rfl Try.runUnderlying2 Try.runUnderlying99 (w_u32 (by omega) (by omega))) rfl rfl rfl ?_
      refine WL.det (op_extern (vs := [.int .u32 ((u2 : Nat) : Int)]) Try.func92 rfl rfl x92n x92e rfl (fun _ => rfl)) rfl rfl rfl ?_
      refine WL.det (op_assign rfl) rfl rfl rfl ?_
      refine WL.end (NE.code (CE.ret' (XE.ret_blk (XE.ret_then ?_))))
      refine XE.leave1 Try.results57 rfl ?_
      refine ⟨u2, rfl, ?_, (((Mod.refl [p] w).then m1 ((aC (.inl (by simp)) aN))).then m5 ((aC (.inl (by simp)) aN)))⟩
      all_goals first | assumption | (rw [wid32]; omega)
     ·have hp5 := ne_of_beq_false hb5
      refine CE.cond_f rfl hb5 ?_
      refine CE.seq (CE.region ?_)
      refine WL.det (op_eqi rfl rfl) rfl rfl rfl ?_
      refine WL.det (op_assign rfl) rfl rfl rfl ?_
      refine WL.end (NE.code ?_)
      rcases Bool.eq_false_or_eq_true ((((u1 : Nat) : Int) == (5 : Int))) with hb6 | hb6
      ·have hp6 := eq_of_beq hb6
       refine CE.cond_t rfl hb6 ?_
       refine CE.seq (CE.region ?_)
       refine WL.det (op_move rfl) rfl rfl rfl ?_
       refine WL.call (oc_call (vs := [vP p 0, vI 8388612]) (cap := []) rfl rfl rfl Try.call58 (c_pickB n c A b o xs (at_ + 1) s1 p 8388612 ln hA hB (by omega) (by omega) (by omega) (by omega) (by omega) (by first | assumption | (intro h0; have hlt := Rng.lt r (by rw [bys_len, ln]; exact h0); omega)) w1 r1 (rng0 ln nbp r m1))) rfl rfl (ltb rfl) ?_
       rintro _ w6 ⟨u3, s3, rfl, h5, h6, r3, m6⟩
       refine WL.det (op_cvt_ii (r := ((u3 : Nat) : Int)) rfl Try.runUnderlying2 Try.runUnderlying99 (w_u32 (by omega) (by omega))) rfl rfl rfl ?_
       refine WL.det (op_add (r := ((2147483648 + u3 : Nat) : Int)) rfl rfl (w_u32 (by omega) (by omega))) rfl rfl rfl ?_
       refine WL.det (op_extern (vs := [.int .u32 ((2147483648 + u3 : Nat) : Int)]) Try.func92 rfl rfl x92n x92e rfl (fun _ => rfl)) rfl rfl rfl ?_
       refine WL.det (op_assign rfl) rfl rfl rfl ?_
       refine WL.end (NE.code (CE.ret' (XE.ret_blk (XE.ret_then ?_))))
       refine XE.leave1 Try.results57 rfl ?_
       refine ⟨(2147483648 + u3), rfl, ?_, (((Mod.refl [p] w).then m1 ((aC (.inl (by simp)) aN))).then m6 ((aC (.inl (by simp)) aN)))⟩
       all_goals first | assumption | (rw [wid32]; omega)
      ·have hp6 := ne_of_beq_false hb6
       refine CE.cond_f rfl hb6 ?_
       refine CE.seq (CE.region ?_)
       refine WL.det (op_eqi rfl rfl) rfl rfl rfl ?_
       refine WL.det (op_assign rfl) rfl rfl rfl ?_
       refine WL.end (NE.code ?_)
       rcases Bool.eq_false_or_eq_true ((((u1 : Nat) : Int) == (6 : Int))) with hb7 | hb7
       ·have hp7 := eq_of_beq hb7
        refine CE.cond_t rfl hb7 ?_
        refine CE.seq (CE.region ?_)
        refine WL.det (op_move rfl) rfl rfl rfl ?_
        refine WL.call (oc_call (vs := [vP p 0, vI 1073741824]) (cap := []) rfl rfl rfl Try.call58 (c_pickB n c A b o xs (at_ + 1) s1 p 1073741824 ln hA hB (by omega) (by omega) (by omega) (by omega) (by omega) (by first | assumption | (intro h0; have hlt := Rng.lt r (by rw [bys_len, ln]; exact h0); omega)) w1 r1 (rng0 ln nbp r m1))) rfl rfl (ltb rfl) ?_
        rintro _ w7 ⟨u4, s4, rfl, h7, h8, r4, m7⟩
        refine WL.det (op_cvt_ii (r := ((u4 : Nat) : Int)) rfl Try.runUnderlying2 Try.runUnderlying99 (w_u32 (by omega) (by omega))) rfl rfl rfl ?_
        refine WL.det (op_mul (r := ((u4 * 4 : Nat) : Int)) rfl rfl (w_u32 (by omega) (by omega))) rfl rfl rfl ?_
        refine WL.det (op_move rfl) rfl rfl rfl ?_
        refine WL.call (oc_call (vs := [vP p 0, vI 4]) (cap := []) rfl rfl rfl Try.call58 (c_pick n c A b o xs ((at_ + 1) + 1 + 1) s4 p 4 ln hA hB (by omega) (by omega) (by omega) (by omega) (by omega) w7 r4 (rng0 ln nbp (rng0 ln nbp r m1) m7))) rfl rfl (ltb rfl) ?_
        rintro _ w8 ⟨u5, s5, rfl, h9, h10, r5, m8⟩
        refine WL.det (op_cvt_ii (r := ((u5 : Nat) : Int)) rfl Try.runUnderlying2 Try.runUnderlying99 (w_u32 (by omega) (by omega))) rfl rfl rfl ?_
        refine WL.det (op_add (r := ((u4 * 4 + u5 : Nat) : Int)) rfl rfl (w_u32 (by omega) (by omega))) rfl rfl rfl ?_
        refine WL.det (op_extern (vs := [.int .u32 ((u4 * 4 + u5 : Nat) : Int)]) Try.func92 rfl rfl x92n x92e rfl (fun _ => rfl)) rfl rfl rfl ?_
        refine WL.det (op_assign rfl) rfl rfl rfl ?_
        refine WL.end (NE.code (CE.ret' (XE.ret_blk (XE.ret_then ?_))))
        refine XE.leave1 Try.results57 rfl ?_
        refine ⟨(u4 * 4 + u5), rfl, ?_, ((((Mod.refl [p] w).then m1 ((aC (.inl (by simp)) aN))).then m7 ((aC (.inl (by simp)) aN))).then m8 ((aC (.inl (by simp)) aN)))⟩
        all_goals first | assumption | (rw [wid32]; omega)
       ·have hp7 := ne_of_beq_false hb7
        refine CE.cond_f rfl hb7 ?_
        refine CE.seq (CE.region ?_)
        refine WL.det (op_eqi rfl rfl) rfl rfl rfl ?_
        refine WL.det (op_assign rfl) rfl rfl rfl ?_
        refine WL.end (NE.code ?_)
        rcases Bool.eq_false_or_eq_true ((((u1 : Nat) : Int) == (7 : Int))) with hb8 | hb8
        ·have hp8 := eq_of_beq hb8
         refine CE.cond_t rfl hb8 ?_
         refine CE.seq (CE.region ?_)
         refine WL.det (op_move rfl) rfl rfl rfl ?_
         refine WL.call (oc_call (vs := [vP p 0, vI 2000000]) (cap := []) rfl rfl rfl Try.call58 (c_pickB n c A b o xs (at_ + 1) s1 p 2000000 ln hA hB (by omega) (by omega) (by omega) (by omega) (by omega) (by first | assumption | (intro h0; have hlt := Rng.lt r (by rw [bys_len, ln]; exact h0); omega)) w1 r1 (rng0 ln nbp r m1))) rfl rfl (ltb rfl) ?_
         rintro _ w9 ⟨u6, s6, rfl, h11, h12, r6, m9⟩
         refine WL.det (op_sub (r := (((u6 : Nat) : Int) - (1000000 : Int))) rfl rfl (w_i64 (by omega) (by omega))) rfl rfl rfl ?_
         refine WL.det (op_cvt_if rfl Try.runUnderlying2 Try.runUnderlying24) rfl rfl rfl ?_
         refine WL.op (op_farith (e := (fop .quo .f32 (FloatKind.f32.nearest (((u6 : Nat) : Int) - (1000000 : Int))) 1232348160)) (.inr (.inr (.inr rfl))) rfl rfl rfl rfl rfl) rfl rfl (ltb rfl) ?_
         rintro _ w10 ⟨⟨f4, rfl, hf4, lf4⟩, m10⟩
         refine WL.det (op_assign rfl) rfl rfl rfl ?_
         refine WL.end (NE.code (CE.ret' (XE.ret_blk (XE.ret_then ?_))))
         refine XE.leave1 Try.results57 rfl ?_
         refine ⟨f4, rfl, lf4, ((((Mod.refl [p] w).then m1 ((aC (.inl (by simp)) aN))).then m9 ((aC (.inl (by simp)) aN))).nt m10)⟩
        ·have hp8 := ne_of_beq_false hb8
         refine CE.cond_f rfl hb8 ?_
         refine CE.seq (CE.region ?_)
         refine WL.det (op_eqi rfl rfl) rfl rfl rfl ?_
         refine WL.det (op_assign rfl) rfl rfl rfl ?_
         refine WL.end (NE.code ?_)
         rcases Bool.eq_false_or_eq_true ((((u1 : Nat) : Int) == (8 : Int))) with hb9 | hb9
         ·have hp9 := eq_of_beq hb9
          refine CE.cond_t rfl hb9 ?_
          refine CE.seq (CE.region ?_)
          refine WL.det (op_move rfl) rfl rfl rfl ?_
          refine WL.call (oc_call (vs := [vP p 0, vI 65538]) (cap := []) rfl rfl rfl Try.call58 (c_pickB n c A b o xs (at_ + 1) s1 p 65538 ln hA hB (by omega) (by omega) (by omega) (by omega) (by omega) (by first | assumption | (intro h0; have hlt := Rng.lt r (by rw [bys_len, ln]; exact h0); omega)) w1 r1 (rng0 ln nbp r m1))) rfl rfl (ltb rfl) ?_
          rintro _ w11 ⟨u7, s7, rfl, h13, h14, r7, m11⟩
          refine WL.det (op_sub (r := (((u7 : Nat) : Int) - (32769 : Int))) rfl rfl (w_i64 (by omega) (by omega))) rfl rfl rfl ?_
          refine WL.det (op_cvt_if rfl Try.runUnderlying2 Try.runUnderlying24) rfl rfl rfl ?_
          refine WL.op (op_farith (e := (fop .add .f32 (FloatKind.f32.nearest (((u7 : Nat) : Int) - (32769 : Int))) 1056964608)) (.inl rfl) rfl rfl rfl rfl rfl) rfl rfl (ltb rfl) ?_
          rintro _ w12 ⟨⟨f5, rfl, hf5, lf5⟩, m12⟩
          refine WL.op (op_farith (e := (fop .quo .f32 (fop .add .f32 (FloatKind.f32.nearest (((u7 : Nat) : Int) - (32769 : Int))) 1056964608) 1191182336)) (.inr (.inr (.inr rfl))) rfl rfl hf5 rfl rfl) rfl rfl (ltb rfl) ?_
          rintro _ w13 ⟨⟨f6, rfl, hf6, lf6⟩, m13⟩
          refine WL.det (op_assign rfl) rfl rfl rfl ?_
          refine WL.end (NE.code (CE.ret' (XE.ret_blk (XE.ret_then ?_))))
          refine XE.leave1 Try.results57 rfl ?_
          refine ⟨f6, rfl, lf6, (((((Mod.refl [p] w).then m1 ((aC (.inl (by simp)) aN))).then m11 ((aC (.inl (by simp)) aN))).nt m12).nt m13)⟩
         ·have hp9 := ne_of_beq_false hb9
          refine CE.cond_f rfl hb9 ?_
          refine CE.skip' (NE.blk (NE.code (CE.seq (CE.region ?_))))
          refine WL.det (op_move rfl) rfl rfl rfl ?_
          refine WL.call (oc_call (vs := [vP p 0]) (cap := []) rfl rfl rfl Try.call49 (c_l01Plain n c A b o xs (at_ + 1) s1 p ln hA hB (by omega) (by omega) (by omega) (by first | assumption | (intro h0; have hlt := Rng.lt r (by rw [bys_len, ln]; exact h0); omega)) w1 r1 (rng0 ln nbp r m1))) rfl rfl (ltb rfl) ?_
          rintro _ w14 ⟨r_1, rfl, h15, m14⟩
          refine WL.det (op_assign rfl) rfl rfl rfl ?_
          refine WL.end (NE.code (CE.ret' ?_))
          refine XE.leave1 Try.results57 rfl ?_
          refine ⟨r_1, rfl, h15, (((Mod.refl [p] w).then m1 ((aC (.inl (by simp)) aN))).then m14 ((aC (.inl (by simp)) aN)))⟩

theorem c_A2Any (n : Nat) (c : Nat) (A : Option Addr) (b : Nat) (o : Nat) (xs : List Nat) (ln : xs.length = n) (hA : 0 < n → A = some ⟨b, o, none⟩) (hB : ∀ i, xs.getD i 0 < 256) (hn : n ≤ 4611686018427387904) (w : World) (r : Rng w b o (bys xs)) : Cl Try.prog 16 #[.slice A n c] w fun v w' => ∃ (r_ : Nat), v = vF r_ ∧ (r_ < wid .f32) ∧ Mod [] w w' := by
 refine Cl.of Try.func16 Try.ntmps16 rfl rfl (ρ := [(0, .slice A n c)]) rfl ?_
 refine CE.seq (CE.region ?_)
 refine WL.det (op_assign rfl) rfl rfl rfl ?_
 refine WL.end (NE.code (CE.seq (CE.region ?_)))
 refine WL.det (op_move rfl) rfl rfl rfl ?_
 refine WL.call (oc_call (vs := [.slice A n c]) (cap := []) rfl rfl rfl Try.call50 (c_l00From n c A b o hA w)) rfl rfl (ltb rfl) ?_
 rintro _ w1 ⟨p'1, rfl, r1, ge1, m1⟩
 refine WL.call (oc_call (vs := [vP p'1 0]) (cap := []) rfl rfl rfl Try.call57 (c_l01Any n c A b o xs 0 0 p'1 ln hA hB (by omega) (by omega) (by omega) (by first | assumption | (intro h0; have hlt := Rng.lt r (by rw [bys_len, ln]; exact h0); omega)) w1 r1 (r.ext m1))) rfl rfl (ltb rfl) ?_
 rintro _ w2 ⟨r_1, rfl, h1, m2⟩
 refine WL.det (op_assign rfl) rfl rfl rfl ?_
 refine WL.end (NE.code (CE.ret' ?_))
 refine XE.leave1 Try.results16 rfl ?_
 refine ⟨r_1, rfl, h1, (((Mod.refl [] w).nt m1).then m2 ((aC (.inr ge1) aN)))⟩

theorem c_A2Digit (n : Nat) (c : Nat) (A : Option Addr) (b : Nat) (o : Nat) (xs : List Nat) (at_ : Nat) (top : Nat) (ln : xs.length = n) (hA : 0 < n → A = some ⟨b, o, none⟩) (hB : ∀ i, xs.getD i 0 < 256) (hn : n ≤ 4611686018427387904) (ht : 1 ≤ top) (w : World) (r : Rng w b o (bys xs)) : Cl Try.prog 9 #[.slice A n c, vI ((at_ : Nat) : Int), vI ((top : Nat) : Int)] w fun v w' => ∃ (u : Nat), v = vI ((u : Nat) : Int) ∧ (u < top) ∧ Mod [] w w' := by
 refine Cl.of Try.func9 Try.ntmps9 rfl rfl (ρ := [(0, .slice A n c), (1, vI ((at_ : Nat) : Int)), (2, vI ((top : Nat) : Int))]) rfl ?_
 refine CE.seq (CE.region ?_)
 refine WL.det (op_assign rfl) rfl rfl rfl ?_
 refine WL.end (NE.code (CE.seq (CE.seq (CE.region ?_))))
 iterate 2 refine WL.det (op_move rfl) rfl rfl rfl ?_
 refine WL.det (op_len rfl Try.runUnderlying22) rfl rfl rfl ?_
 refine WL.det (op_gei rfl rfl) rfl rfl rfl ?_
 refine WL.det (op_move rfl) rfl rfl rfl ?_
 rcases Bool.eq_false_or_eq_true (decide (((n : Nat) : Int) ≤ ((at_ : Nat) : Int))) with hb1 | hb1
 ·have hp1 := of_decide_eq_true hb1
  iterate 2 refine WL.no rfl rfl rfl (ltb rfl) rfl hb1 rfl (ltb rfl) ?_
  refine WL.det (op_pick_t rfl hb1 rfl) rfl rfl rfl ?_
  refine WL.end (NE.code ?_)
  refine CE.cond_t rfl rfl ?_
  refine CE.seq (CE.region ?_)
  refine WL.det (op_assign rfl) rfl rfl rfl ?_
  refine WL.end (NE.code (CE.ret' (XE.ret_then ?_)))
  refine XE.leave1 Try.results9 rfl ?_
  refine ⟨0, rfl, ?_, (Mod.refl [] w)⟩
  all_goals first | assumption | omega
 ·have hp1 := of_decide_eq_false hb1
  refine WL.yes rfl rfl rfl (ltb rfl) rfl hb1 ?_
  refine WL.det (op_move rfl) rfl rfl rfl ?_
  refine WL.yes rfl rfl rfl (ltb rfl) rfl hb1 ?_
  refine WL.det (op_lti rfl rfl) rfl rfl rfl ?_
  refine WL.det (op_pick_f rfl hb1 rfl) rfl rfl rfl ?_
  refine WL.end (NE.code ?_)
  refine CE.cond_f rfl (decide_eq_false (by omega)) ?_
  refine CE.skip' (NE.code (CE.seq (CE.region ?_)))
  iterate 2 refine WL.det (op_move rfl) rfl rfl rfl ?_
  refine WL.det (op_indexSl (off' := o + at_) rfl (hA (by omega)) rfl Try.runUnderlying22 Try.sizeOf5 (by omega) (by omega) (by omega)) rfl rfl rfl ?_
  have hy1 := hB at_
  refine WL.det (op_load1 (i := at_) rfl Try.isAgg5 r rfl (bys_get (by have eL : List.length xs = n := ln; omega))) rfl rfl rfl ?_
  refine WL.det (op_cvt_ii (r := ((xs.getD at_ 0 : Nat) : Int)) rfl Try.runUnderlying5 Try.runUnderlying2 (w_i64 (by omega) (by omega))) rfl rfl rfl ?_
  refine WL.det (op_move rfl) rfl rfl rfl ?_
  have hm1 : (xs.getD at_ 0) % top < top := Nat.mod_lt _ (by omega)
  refine WL.det (op_rem (r := (((xs.getD at_ 0) % top : Nat) : Int)) rfl rfl (by omega) rfl) rfl rfl rfl ?_
  refine WL.det (op_assign rfl) rfl rfl rfl ?_
  refine WL.end (NE.code (CE.ret' ?_))
  refine XE.leave1 Try.results9 rfl ?_
  refine ⟨((xs.getD at_ 0) % top), rfl, ?_, (Mod.refl [] w)⟩
  all_goals first | assumption | omega

theorem c_a2Long (n1 : Nat) (c1 : Nat) (A1 : Option Addr) (n2 : Nat) (c2 : Nat) (A2 : Option Addr) (w : World) : Cl Try.prog 7 #[.slice A1 n1 c1, .slice A2 n2 c2] w fun v w' => v = .bool (decide ((3000 : Int) < ((n1 : Nat) : Int)) || decide ((3000 : Int) < ((n2 : Nat) : Int))) ∧ w = w' := by
 refine Cl.of Try.func7 Try.ntmps7 rfl rfl (ρ := [(0, .slice A1 n1 c1), (1, .slice A2 n2 c2)]) rfl ?_
 refine CE.seq (CE.region ?_)
 refine WL.det (op_assign rfl) rfl rfl rfl ?_
 refine WL.end (NE.code (CE.seq (CE.region ?_)))
 refine WL.det (op_move rfl) rfl rfl rfl ?_
 refine WL.det (op_len rfl Try.runUnderlying22) rfl rfl rfl ?_
 refine WL.det (op_gti rfl rfl) rfl rfl rfl ?_
 refine WL.det (op_move rfl) rfl rfl rfl ?_
 rcases Bool.eq_false_or_eq_true (decide ((3000 : Int) < ((n1 : Nat) : Int))) with hb1 | hb1
 ·have hp1 := of_decide_eq_true hb1
  iterate 3 refine WL.no rfl rfl rfl (ltb rfl) rfl hb1 rfl (ltb rfl) ?_
  refine WL.det (op_pick_t rfl hb1 rfl) rfl rfl rfl ?_
  refine WL.det (op_assign rfl) rfl rfl rfl ?_
  refine WL.end (NE.code (CE.ret' ?_))
  refine XE.leave1 Try.results7 rfl ?_
  refine ⟨?_, rfl⟩
  all_goals first | (simp_all; done) | (simp_all; intros; omega)
 ·have hp1 := of_decide_eq_false hb1
  refine WL.yes rfl rfl rfl (ltb rfl) rfl hb1 ?_
  refine WL.det (op_move rfl) rfl rfl rfl ?_
  refine WL.yes rfl rfl rfl (ltb rfl) rfl hb1 ?_
  refine WL.det (op_len rfl Try.runUnderlying22) rfl rfl rfl ?_
  refine WL.yes rfl rfl rfl (ltb rfl) rfl hb1 ?_
  refine WL.det (op_gti rfl rfl) rfl rfl rfl ?_
  refine WL.det (op_pick_f rfl hb1 rfl) rfl rfl rfl ?_
  refine WL.det (op_assign rfl) rfl rfl rfl ?_
  refine WL.end (NE.code (CE.ret' ?_))
  refine XE.leave1 Try.results7 rfl ?_
  refine ⟨?_, rfl⟩
  all_goals first | (simp_all; done) | (simp_all; intros; omega)

end Go.Proofs.Ytnpkhjafnjpnmaa
