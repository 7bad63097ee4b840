/- Four samples that are drawn, mixed and spread. -/
import Derived.Test.YtemnjphnhmbddaaU0
import Derived.Test.YtemnjphnhmbddaaD1
import Derived.Test.YtemnjphnhmbddaaE28
import Derived.Test.YtemnjphnhmbddaaE20
import Derived.Test.YtemnjphnhmbddaaE22
set_option linter.unusedVariables false
set_option linter.unusedSimpArgs false
namespace Go.Proofs.Ytemnjphnhmbddaa

theorem bys_len (xs : List Nat) : (bys xs).length = xs.length := by
  unfold bys; induction xs with
  | nil => rfl
  | cons x xs ih => simp [cat] at ih ⊢; omega
theorem rng0 {n b o p : Nat} {xs : List Nat} {w w' : World} (ln : xs.length = n) (hne : 0 < n → b ≠ p) (h : Rng w b o (bys xs)) (m : Mod [p] w w') : Rng w' b o (bys xs) := by
  intro i v hv
  by_cases h0 : 0 < n
  · exact h.mod m (by simp [hne h0]) i v hv
  · have e : xs = [] := List.length_eq_zero_iff.1 (by omega)
    subst e; simp [bys, cat] at hv

def PlQ (r : Nat) : Prop := ∃ d : Nat, d < 257 ∧ r = wq (2 * (((d : Nat) : Int) - 128))
theorem plq {u r : Nat} (hu : u < 257) (h : cn .f32 r = cn .f32 (fop .quo .f32 (FloatKind.f32.nearest (((u : Nat) : Int) - (128 : Int))) 1115684864)) : PlQ r := by
  rw [pl_ok hu] at h
  exact ⟨u, hu, wq_eq (by omega) (by omega) h⟩
theorem PlQ.lt {r : Nat} (h : PlQ r) : r < wid .f32 := by
  obtain ⟨d, hd, rfl⟩ := h
  exact lt_wid (wq_ok (by omega) (by omega)).1
theorem allEq_of4 {a b c d x y z u : Nat} (h0 : fEq .f32 a x = true) (h1 : fEq .f32 b y = true) (h2 : fEq .f32 c z = true) (h3 : fEq .f32 d u = true) : allEq [a, b, c, d] [x, y, z, u] 4 = true := allEq_of fun i hi => by
  match i, hi with
  | 0, _ => exact h0
  | 1, _ => exact h1
  | 2, _ => exact h2
  | 3, _ => exact h3

set_option maxRecDepth 100000 in
set_option maxHeartbeats 2000000 in
theorem c_pickB (n : Nat) (c : Nat) (A : Option Addr) (b : Nat) (o : Nat) (xs : List Nat) (at_ : Nat) (s : Nat) (p : Nat) (top : Nat) (ln : xs.length = n) (hA : 0 < n → A = some ⟨b, o, none⟩) (hB : ∀ i, xs.getD i 0 < 256) (hn : n ≤ 4611686018427387904) (ha : at_ ≤ 4611686018427387100) (hs : s < 18446744073709551616) (ht : 200 < top) (ht2 : top ≤ 2147483648) (nbp : 0 < n → b ≠ p) (w : World) (q : Row w p 0 [.slice A n c, vI ((at_ : Nat) : Int), .int .u64 ((s : Nat) : Int)]) (r : Rng w b o (bys xs)) : Cl Try.prog 25 #[vP p 0, vI ((top : Nat) : Int)] w fun v w' => ∃ (u : Nat) (s2 : Nat), v = vI ((u : Nat) : Int) ∧ (u < top) ∧ (s2 < 18446744073709551616) ∧ Row w' p 0 [.slice A n c, vI ((at_ + 1 + 1 : Nat) : Int), .int .u64 ((s2 : Nat) : Int)] ∧ Mod [p] w w' := by
  refine Cl.of Try.func25 Try.ntmps25 rfl rfl (ρ := [(0, vP p 0), (1, vI ((top : Nat) : Int))]) rfl ?_
  refine CE.seq ?_
  refine CE.region ?_
  refine WL.det (op_assign rfl) rfl rfl rfl ?_
  refine WL.end ?_
  refine NE.code ?_
  iterate 2 refine CE.seq ?_
  refine CE.region ?_
  refine WL.det (op_move rfl) rfl rfl rfl ?_
  refine WL.det (op_lei rfl rfl) rfl rfl rfl ?_
  refine WL.end ?_
  refine NE.code ?_
  refine CE.cond_f rfl (decide_eq_false (by omega)) ?_
  refine CE.skip' ?_
  refine NE.code ?_
  refine CE.seq ?_
  refine CE.region ?_
  refine WL.det (op_move rfl) rfl rfl rfl ?_
  refine WL.call (oc_call (vs := [vP p 0]) (cap := []) rfl rfl rfl Try.call33 (c_next n c A b o xs at_ s p ln hA hB (by omega) (by omega) (by omega) w q r)) rfl rfl (ltb rfl) ?_
  rintro _ w1 ⟨vv1, s1, rfl, h1, h2, r1, m1⟩
  refine WL.det (op_assign rfl) rfl rfl rfl ?_
  refine WL.end ?_
  refine NE.code ?_
  iterate 2 refine CE.seq ?_
  refine CE.region ?_
  refine WL.det (op_move rfl) rfl rfl rfl ?_
  refine WL.det (op_gti rfl rfl) rfl rfl rfl ?_
  refine WL.end ?_
  refine NE.code ?_
  refine CE.cond_t rfl (decide_eq_true (by omega)) ?_
  refine CE.region ?_
  refine WL.det (op_move rfl) rfl rfl rfl ?_
  refine WL.det (op_mul (r := ((vv1 * 256 : Nat) : Int)) rfl rfl (w_i64 (by omega) (by omega))) rfl rfl rfl ?_
  refine WL.det (op_move rfl) rfl rfl rfl ?_
  refine WL.call (oc_call (vs := [vP p 0]) (cap := []) rfl rfl rfl Try.call33 (c_next n c A b o xs (at_ + 1) s1 p ln hA hB (by omega) (by omega) (by omega) w1 r1 (rng0 ln nbp r m1))) rfl rfl (ltb rfl) ?_
  rintro _ w2 ⟨vv2, s2, rfl, h3, h4, r2, m2⟩
  refine WL.det (op_add (r := ((vv1 * 256 + vv2 : Nat) : Int)) rfl rfl (w_i64 (by omega) (by omega))) rfl rfl rfl ?_
  refine WL.det (op_assign rfl) rfl rfl rfl ?_
  refine WL.end ?_
  refine NE.code ?_
  refine CE.seq ?_
  refine CE.region ?_
  iterate 2 refine WL.det (op_move rfl) rfl rfl rfl ?_
  have hm1 : (vv1 * 256 + vv2) % top < top := Nat.mod_lt _ (by omega)
  refine WL.det (op_rem (r := (((vv1 * 256 + vv2) % top : Nat) : Int)) rfl rfl (by omega) rfl) rfl rfl rfl ?_
  refine WL.det (op_assign rfl) rfl rfl rfl ?_
  refine WL.end ?_
  refine NE.code ?_
  refine CE.ret' ?_
  refine XE.leave1 Try.results25 rfl ?_
  refine ⟨((vv1 * 256 + vv2) % top), s2, rfl, ?_, ?_, (Row.congr r2 ?_), (((Mod.refl [p] w).then m1 ((aC (.inl (by simp)) aN))).then m2 ((aC (.inl (by simp)) aN)))⟩
  all_goals first | assumption | omega | rfl

set_option maxRecDepth 100000 in
set_option maxHeartbeats 2000000 in
theorem c_l01PlainQ (n : Nat) (c : Nat) (A : Option Addr) (b : Nat) (o : Nat) (xs : List Nat) (at_ : Nat) (s : Nat) (p : Nat) (ln : xs.length = n) (hA : 0 < n → A = some ⟨b, o, none⟩) (hB : ∀ i, xs.getD i 0 < 256) (hn : n ≤ 4611686018427387904) (ha : at_ ≤ 4611686018427387000) (hs : s < 18446744073709551616) (nbp : 0 < n → b ≠ p) (w : World) (q : Row w p 0 [.slice A n c, vI ((at_ : Nat) : Int), .int .u64 ((s : Nat) : Int)]) (r : Rng w b o (bys xs)) : Cl Try.prog 17 #[vP p 0] w fun v w' => ∃ (r_ : Nat) (a2 : Nat) (s2 : Nat), v = vF r_ ∧ (a2 ≤ at_ + 8) ∧ (s2 < 18446744073709551616) ∧ (PlQ r_) ∧ Row w' p 0 [.slice A n c, vI ((a2 : Nat) : Int), .int .u64 ((s2 : Nat) : Int)] ∧ Mod [p] w w' := by
  refine Cl.of Try.func17 Try.ntmps17 rfl rfl (ρ := [(0, vP p 0)]) rfl ?_
  refine CE.seq ?_
  refine CE.region ?_
  refine WL.det (op_assign rfl) rfl rfl rfl ?_
  refine WL.end ?_
  refine NE.code ?_
  refine CE.seq ?_
  refine CE.region ?_
  refine WL.det (op_move rfl) rfl rfl rfl ?_
  refine WL.call (oc_call (vs := [vP p 0, vI 257]) (cap := []) rfl rfl rfl Try.call25 (c_pickB n c A b o xs at_ s p 257 ln hA hB (by omega) (by omega) (by omega) (by omega) (by omega) (by first | assumption | (intro h0; have hlt := Rng.lt r (by rw [bys_len, ln]; exact h0); omega)) w q r)) rfl rfl (ltb rfl) ?_
  rintro _ w1 ⟨u1, s1, rfl, h1, h2, r1, m1⟩
  refine WL.det (op_sub (r := (((u1 : Nat) : Int) - (128 : Int))) rfl rfl (w_i64 (by omega) (by omega))) rfl rfl rfl ?_
  refine WL.det (op_cvt_if rfl Try.runUnderlying2 Try.runUnderlying24) rfl rfl rfl ?_
  refine WL.op (op_farith (e := (fop .quo .f32 (FloatKind.f32.nearest (((u1 : Nat) : Int) - (128 : Int))) 1115684864)) (.inr (.inr (.inr rfl))) rfl rfl rfl rfl rfl) rfl rfl (ltb rfl) ?_
  rintro _ w2 ⟨⟨f1, rfl, hf1, lf1⟩, m2⟩
  refine WL.det (op_assign rfl) rfl rfl rfl ?_
  refine WL.end ?_
  refine NE.code ?_
  refine CE.ret' ?_
  refine XE.leave1 Try.results17 rfl ?_
  refine ⟨f1, (at_ + 1 + 1), s1, rfl, ?_, ?_, ?_, (Row.congr (r1.ext m2) ?_), (((Mod.refl [p] w).then m1 ((aC (.inl (by simp)) aN))).nt m2)⟩
  all_goals first | assumption | rfl | omega | exact plq (by assumption) (by assumption)

set_option maxRecDepth 100000 in
set_option maxHeartbeats 2000000 in
theorem c_P6FourB (n : Nat) (c : Nat) (A : Option Addr) (b : Nat) (o : Nat) (xs : List Nat) (ln : xs.length = n) (hA : 0 < n → A = some ⟨b, o, none⟩) (hB : ∀ i, xs.getD i 0 < 256) (hn : n ≤ 4611686018427387904) (w : World) (r : Rng w b o (bys xs)) : Cl Try.prog 5 #[.slice A n c] w fun v w' => ∃ (r0 : Nat) (r1 : Nat) (r2 : Nat) (r3 : Nat), v = .agg #[vF r0, vF r1, vF r2, vF r3] ∧ (PlQ r0) ∧ (PlQ r1) ∧ (PlQ r2) ∧ (PlQ r3) ∧ Mod [] w w' := by
  refine Cl.of Try.func5 Try.ntmps5 rfl rfl (ρ := [(0, .slice A n c)]) rfl ?_
  refine CE.seq ?_
  refine CE.region ?_
  refine WL.op (op_alloc (cs := [vF 0, vF 0, vF 0, vF 0]) Try.zeroValue25 rfl) rfl rfl (ltb rfl) ?_
  rintro _ w1 ⟨rfl, r1, m1, z1⟩
  refine WL.end ?_
  refine NE.code ?_
  refine CE.seq ?_
  refine CE.region ?_
  refine WL.det (op_move rfl) rfl rfl rfl ?_
  refine WL.call (oc_call (vs := [.slice A n c]) (cap := []) rfl rfl rfl Try.call16 (c_l00From n c A b o hA w1)) rfl rfl (ltb rfl) ?_
  rintro _ w2 ⟨p'1, rfl, r2, ge1, m2⟩
  refine WL.det (op_assign rfl) rfl rfl rfl ?_
  refine WL.end ?_
  refine NE.code ?_
  refine CE.seq ?_
  refine CE.region ?_
  refine WL.det (op_build (qs := []) (cells := #[vF 0, vF 0, vF 0, vF 0]) rfl (by kernel_rfl)) rfl rfl rfl ?_
  refine WL.op (op_alloc (cs := [vF 0, vF 0, vF 0, vF 0]) Try.zeroValue25 rfl) rfl rfl (ltb rfl) ?_
  rintro _ w3 ⟨rfl, r3, m3, z2⟩
  refine WL.op0 (op_store (i := 0) (cs := [vF 0, vF 0, vF 0, vF 0]) rfl rfl rfl Try.sizeOf25 rfl r3 rfl (lB rfl) rfl) rfl rfl ?_
  rintro _ w4 ⟨r4, m4, z3⟩
  have r5 : Row w4 w2.heap.size 0 [vF 0, vF 0, vF 0, vF 0] := Row.congr r4 rfl
  refine WL.end ?_
  refine NE.code ?_
  iterate 2 refine CE.seq ?_
  refine CE.region ?_
  refine WL.det (op_assign rfl) rfl rfl rfl ?_
  refine WL.end ?_
  refine NE.code ?_
  refine CE.block ?_
  refine CE.rounds 5 ?_
  refine RN.one ?_
  iterate 2 refine CE.seq ?_
  refine CE.region ?_
  refine WL.det (op_move rfl) rfl rfl rfl ?_
  refine WL.det (op_lti rfl rfl) rfl rfl rfl ?_
  refine WL.end ?_
  refine NE.code ?_
  refine CE.cond_t rfl rfl ?_
  refine CE.skip' ?_
  refine NE.code ?_
  refine CE.seq ?_
  refine CE.block ?_
  refine CE.region ?_
  iterate 2 refine WL.det (op_move rfl) rfl rfl rfl ?_
  have r6 := (Rng.youngS r (((r.ext m1).ext m2).ext m3) m4 (allge_cons (lT (lT m1.size m2.size) lR) allge_nil))
  refine WL.call (oc_call (vs := [vP p'1 0]) (cap := []) rfl rfl rfl Try.call17 (c_l01PlainQ n c A b o xs 0 0 p'1 ln hA hB (by omega) (by omega) (by omega) (by first | assumption | (intro h0; have hlt := Rng.lt r (by rw [bys_len, ln]; exact h0); omega)) w4 ((r2.ext m3).mod m4 (nC (lE (lL r2.lt lR)) nN)) r6)) rfl rfl (ltb rfl) ?_
  rintro _ w5 ⟨r_1, a1, s1, rfl, h1, h2, h3, r7, m5⟩
  refine WL.det (op_indexArr (off' := 0) rfl rfl Try.runUnderlying25 Try.sizeOf24 (by decide) (by decide) rfl) rfl rfl rfl ?_
  refine WL.op0 (op_store (i := 0) (cs := [vF r_1]) rfl rfl rfl Try.sizeOf24 rfl (r5.mod m5 (nC (lG (lL r2.lt lR)) nN)) rfl (lB rfl) rfl) rfl rfl ?_
  rintro _ w6 ⟨r8, m6, z4⟩
  have r9 : Row w6 w2.heap.size 0 [vF r_1, vF 0, vF 0, vF 0] := Row.congr r8 rfl
  refine WL.end ?_
  refine NE.blk ?_
  refine NE.code ?_
  refine CE.region ?_
  refine WL.det (op_move rfl) rfl rfl rfl ?_
  refine WL.det (op_add (r := 1) rfl rfl (by decide)) rfl rfl rfl ?_
  refine WL.det (op_assign rfl) rfl rfl rfl ?_
  refine WL.end ?_
  refine NE.round ?_
  refine RN.one ?_
  iterate 2 refine CE.seq ?_
  refine CE.region ?_
  refine WL.det (op_move rfl) rfl rfl rfl ?_
  refine WL.det (op_lti rfl rfl) rfl rfl rfl ?_
  refine WL.end ?_
  refine NE.code ?_
  refine CE.cond_t rfl rfl ?_
  refine CE.skip' ?_
  refine NE.code ?_
  refine CE.seq ?_
  refine CE.block ?_
  refine CE.region ?_
  iterate 2 refine WL.det (op_move rfl) rfl rfl rfl ?_
  have r10 := (Rng.youngS r (Rng.youngS r r6 m5 (allge_cons (lT m1.size ge1) allge_nil)) m6 (allge_cons (lT (lT m1.size m2.size) lR) allge_nil))
  refine WL.call (oc_call (vs := [vP p'1 0]) (cap := []) rfl rfl rfl Try.call17 (c_l01PlainQ n c A b o xs a1 s1 p'1 ln hA hB (by omega) (by omega) (by omega) (by first | assumption | (intro h0; have hlt := Rng.lt r (by rw [bys_len, ln]; exact h0); omega)) w6 (r7.mod m6 (nC (lE (lL r2.lt lR)) nN)) r10)) rfl rfl (ltb rfl) ?_
  rintro _ w7 ⟨r_2, a2, s2, rfl, h4, h5, h6, r11, m7⟩
  refine WL.det (op_indexArr (off' := 1) rfl rfl Try.runUnderlying25 Try.sizeOf24 (by decide) (by decide) rfl) rfl rfl rfl ?_
  refine WL.op0 (op_store (i := 1) (cs := [vF r_2]) rfl rfl rfl Try.sizeOf24 rfl (r9.mod m7 (nC (lG (lL r2.lt lR)) nN)) rfl (lB rfl) rfl) rfl rfl ?_
  rintro _ w8 ⟨r12, m8, z5⟩
  have r13 : Row w8 w2.heap.size 0 [vF r_1, vF r_2, vF 0, vF 0] := Row.congr r12 rfl
  refine WL.end ?_
  refine NE.blk ?_
  refine NE.code ?_
  refine CE.region ?_
  refine WL.det (op_move rfl) rfl rfl rfl ?_
  refine WL.det (op_add (r := 2) rfl rfl (by decide)) rfl rfl rfl ?_
  refine WL.det (op_assign rfl) rfl rfl rfl ?_
  refine WL.end ?_
  refine NE.round ?_
  refine RN.one ?_
  iterate 2 refine CE.seq ?_
  refine CE.region ?_
  refine WL.det (op_move rfl) rfl rfl rfl ?_
  refine WL.det (op_lti rfl rfl) rfl rfl rfl ?_
  refine WL.end ?_
  refine NE.code ?_
  refine CE.cond_t rfl rfl ?_
  refine CE.skip' ?_
  refine NE.code ?_
  refine CE.seq ?_
  refine CE.block ?_
  refine CE.region ?_
  iterate 2 refine WL.det (op_move rfl) rfl rfl rfl ?_
  have r14 := (Rng.youngS r (Rng.youngS r r10 m7 (allge_cons (lT m1.size ge1) allge_nil)) m8 (allge_cons (lT (lT m1.size m2.size) lR) allge_nil))
  refine WL.call (oc_call (vs := [vP p'1 0]) (cap := []) rfl rfl rfl Try.call17 (c_l01PlainQ n c A b o xs a2 s2 p'1 ln hA hB (by omega) (by omega) (by omega) (by first | assumption | (intro h0; have hlt := Rng.lt r (by rw [bys_len, ln]; exact h0); omega)) w8 (r11.mod m8 (nC (lE (lL r2.lt lR)) nN)) r14)) rfl rfl (ltb rfl) ?_
  rintro _ w9 ⟨r_3, a3, s3, rfl, h7, h8, h9, r15, m9⟩
  refine WL.det (op_indexArr (off' := 2) rfl rfl Try.runUnderlying25 Try.sizeOf24 (by decide) (by decide) rfl) rfl rfl rfl ?_
  refine WL.op0 (op_store (i := 2) (cs := [vF r_3]) rfl rfl rfl Try.sizeOf24 rfl (r13.mod m9 (nC (lG (lL r2.lt lR)) nN)) rfl (lB rfl) rfl) rfl rfl ?_
  rintro _ w10 ⟨r16, m10, z6⟩
  have r17 : Row w10 w2.heap.size 0 [vF r_1, vF r_2, vF r_3, vF 0] := Row.congr r16 rfl
  refine WL.end ?_
  refine NE.blk ?_
  refine NE.code ?_
  refine CE.region ?_
  refine WL.det (op_move rfl) rfl rfl rfl ?_
  refine WL.det (op_add (r := 3) rfl rfl (by decide)) rfl rfl rfl ?_
  refine WL.det (op_assign rfl) rfl rfl rfl ?_
  refine WL.end ?_
  refine NE.round ?_
  refine RN.one ?_
  iterate 2 refine CE.seq ?_
  refine CE.region ?_
  refine WL.det (op_move rfl) rfl rfl rfl ?_
  refine WL.det (op_lti rfl rfl) rfl rfl rfl ?_
  refine WL.end ?_
  refine NE.code ?_
  refine CE.cond_t rfl rfl ?_
  refine CE.skip' ?_
  refine NE.code ?_
  refine CE.seq ?_
  refine CE.block ?_
  refine CE.region ?_
  iterate 2 refine WL.det (op_move rfl) rfl rfl rfl ?_
  have r18 := (Rng.youngS r (Rng.youngS r r14 m9 (allge_cons (lT m1.size ge1) allge_nil)) m10 (allge_cons (lT (lT m1.size m2.size) lR) allge_nil))
  refine WL.call (oc_call (vs := [vP p'1 0]) (cap := []) rfl rfl rfl Try.call17 (c_l01PlainQ n c A b o xs a3 s3 p'1 ln hA hB (by omega) (by omega) (by omega) (by first | assumption | (intro h0; have hlt := Rng.lt r (by rw [bys_len, ln]; exact h0); omega)) w10 (r15.mod m10 (nC (lE (lL r2.lt lR)) nN)) r18)) rfl rfl (ltb rfl) ?_
  rintro _ w11 ⟨r_4, a4, s4, rfl, h10, h11, h12, r19, m11⟩
  refine WL.det (op_indexArr (off' := 3) rfl rfl Try.runUnderlying25 Try.sizeOf24 (by decide) (by decide) rfl) rfl rfl rfl ?_
  refine WL.op0 (op_store (i := 3) (cs := [vF r_4]) rfl rfl rfl Try.sizeOf24 rfl (r17.mod m11 (nC (lG (lL r2.lt lR)) nN)) rfl (lB rfl) rfl) rfl rfl ?_
  rintro _ w12 ⟨r20, m12, z7⟩
  have r21 : Row w12 w2.heap.size 0 [vF r_1, vF r_2, vF r_3, vF r_4] := Row.congr r20 rfl
  refine WL.end ?_
  refine NE.blk ?_
  refine NE.code ?_
  refine CE.region ?_
  refine WL.det (op_move rfl) rfl rfl rfl ?_
  refine WL.det (op_add (r := 4) rfl rfl (by decide)) rfl rfl rfl ?_
  refine WL.det (op_assign rfl) rfl rfl rfl ?_
  refine WL.end ?_
  refine NE.round ?_
  refine RN.one ?_
  iterate 2 refine CE.seq ?_
  refine CE.region ?_
  refine WL.det (op_move rfl) rfl rfl rfl ?_
  refine WL.det (op_lti rfl rfl) rfl rfl rfl ?_
  refine WL.end ?_
  refine NE.code ?_
  refine CE.cond_f rfl rfl ?_
  refine CE.exit' ?_
  iterate 2 refine XE.exit_then ?_
  refine XE.exit_here ?_
  refine NE.code ?_
  refine CE.seq ?_
  refine CE.region ?_
  refine WL.det (op_loadA (i := 0) (cs := [vF r_1, vF r_2, vF r_3, vF r_4]) rfl Try.isAgg25 Try.sizeOf25 r21.rng rfl rfl rfl) rfl rfl rfl ?_
  have r22 := (((((((((((r1.ext m2).ext m3).mod m4 (nC (lE (lL (lL r1.lt m2.size) lR)) nN)).mod m5 (nC (lE (lL r1.lt ge1)) nN)).mod m6 (nC (lE (lL (lL r1.lt m2.size) lR)) nN)).mod m7 (nC (lE (lL r1.lt ge1)) nN)).mod m8 (nC (lE (lL (lL r1.lt m2.size) lR)) nN)).mod m9 (nC (lE (lL r1.lt ge1)) nN)).mod m10 (nC (lE (lL (lL r1.lt m2.size) lR)) nN)).mod m11 (nC (lE (lL r1.lt ge1)) nN)).mod m12 (nC (lE (lL (lL r1.lt m2.size) lR)) nN))
  refine WL.op0 (op_store (i := 0) (cs := [vF r_1, vF r_2, vF r_3, vF r_4]) rfl rfl rfl Try.sizeOf25 rfl r22 rfl (lB rfl) rfl) rfl rfl ?_
  rintro _ w13 ⟨r23, m13, z8⟩
  have r24 : Row w13 w.heap.size 0 [vF r_1, vF r_2, vF r_3, vF r_4] := Row.congr r23 rfl
  refine WL.end ?_
  refine NE.code ?_
  refine CE.ret' ?_
  refine XE.leaveC Try.results5 (res_agg (cs := [vF r_1, vF r_2, vF r_3, vF r_4]) rfl Try.isAgg25 Try.sizeOf25 r24.rng rfl res_nil) ?_
  refine ⟨r_1, r_2, r_3, r_4, rfl, ?_, ?_, ?_, ?_, ((((((((((((((Mod.refl [] w).nt m1).nt m2).nt m3).then m4 ((aC (.inr (lT (lT m1.size m2.size) lR)) aN))).then m5 ((aC (.inr (lT m1.size ge1)) aN))).then m6 ((aC (.inr (lT (lT m1.size m2.size) lR)) aN))).then m7 ((aC (.inr (lT m1.size ge1)) aN))).then m8 ((aC (.inr (lT (lT m1.size m2.size) lR)) aN))).then m9 ((aC (.inr (lT m1.size ge1)) aN))).then m10 ((aC (.inr (lT (lT m1.size m2.size) lR)) aN))).then m11 ((aC (.inr (lT m1.size ge1)) aN))).then m12 ((aC (.inr (lT (lT m1.size m2.size) lR)) aN))).then m13 ((aC (.inr lR) aN)))⟩
  all_goals first | assumption | rfl | omega

theorem c_P6Four (n : Nat) (c : Nat) (A : Option Addr) (b : Nat) (o : Nat) (xs : List Nat) (ln : xs.length = n) (hA : 0 < n → A = some ⟨b, o, none⟩) (hB : ∀ i, xs.getD i 0 < 256) (hn : n ≤ 4611686018427387904) (w : World) (r : Rng w b o (bys xs)) : Cl Try.prog 5 #[.slice A n c] w fun v w' => ∃ (d0 : Nat) (d1 : Nat) (d2 : Nat) (d3 : Nat), v = .agg #[vF (wq (2 * (((d0 : Nat) : Int) - 128))), vF (wq (2 * (((d1 : Nat) : Int) - 128))), vF (wq (2 * (((d2 : Nat) : Int) - 128))), vF (wq (2 * (((d3 : Nat) : Int) - 128)))] ∧ (d0 < 257) ∧ (d1 < 257) ∧ (d2 < 257) ∧ (d3 < 257) ∧ Mod [] w w' := by
  refine Cl.mono (c_P6FourB n c A b o xs ln hA hB hn w r) ?_
  rintro v w' ⟨r0, r1, r2, r3, rfl, ⟨d0, h0, rfl⟩, ⟨d1, h1, rfl⟩, ⟨d2, h2, rfl⟩, ⟨d3, h3, rfl⟩, m⟩
  exact ⟨d0, d1, d2, d3, rfl, h0, h1, h2, h3, m⟩
set_option maxRecDepth 100000 in
set_option maxHeartbeats 2000000 in
theorem c_imixB (x0 : Nat) (x1 : Nat) (x2 : Nat) (x3 : Nat) (w : World) : Cl Try.prog 6 #[.agg #[vF x0, vF x1, vF x2, vF x3]] w fun v w' => ∃ (z0 : Nat) (z1 : Nat) (z2 : Nat) (z3 : Nat), v = .agg #[vF z0, vF z1, vF z2, vF z3] ∧ (cn .f32 z0 = cn .f32 (fop .mul .f32 1056964608 (fop .add .f32 (fop .add .f32 x0 x1) (fop .add .f32 x2 x3)))) ∧ (cn .f32 z1 = cn .f32 (fop .mul .f32 1056964608 (fop .add .f32 (fop .sub .f32 x0 x1) (fop .sub .f32 x2 x3)))) ∧ (cn .f32 z2 = cn .f32 (fop .mul .f32 1056964608 (fop .sub .f32 (fop .add .f32 x0 x1) (fop .add .f32 x2 x3)))) ∧ (cn .f32 z3 = cn .f32 (fop .mul .f32 1056964608 (fop .sub .f32 (fop .sub .f32 x0 x1) (fop .sub .f32 x2 x3)))) ∧ Mod [] w w' := by
  refine Cl.of Try.func6 Try.ntmps6 rfl rfl (ρ := [(0, .agg #[vF x0, vF x1, vF x2, vF x3])]) rfl ?_
  refine CE.seq ?_
  refine CE.region ?_
  refine WL.op (op_box (cs := [vF x0, vF x1, vF x2, vF x3]) rfl rfl) rfl rfl (ltb rfl) ?_
  rintro _ w1 ⟨rfl, r1, m1, z1⟩
  refine WL.op (op_alloc (cs := [vF 0, vF 0, vF 0, vF 0]) Try.zeroValue25 rfl) rfl rfl (ltb rfl) ?_
  rintro _ w2 ⟨rfl, r2, m2, z2⟩
  refine WL.end ?_
  refine NE.code ?_
  refine CE.seq ?_
  refine CE.draw (fun _ => none) [0, 1, 2, 3, 4, 5, 6, 7, 8, 9, 10, 11, 12, 13, 14, 15, 16, 17, 18, 19, 20, 21, 22] [23] [] (by kernel_rfl) (by kernel_rfl) ?_
  have md1 : Mod [] w2 w2.drew := (Mod.refl _ _).drew
  generalize w2.drew = w3 at md1 ⊢
  refine DR.det (i := 0) rfl rfl (by kernel_rfl) (.free rfl) rfl rfl (fun wD mD => op_indexArr (off' := 0) rfl rfl Try.runUnderlying25 Try.sizeOf24 (by decide) (by decide) rfl) ?_
  refine DR.det (i := 1) rfl rfl (by kernel_rfl) (.free rfl) rfl rfl (fun wD mD => op_load1 (i := 0) rfl Try.isAgg24 (((r1.ext m2).ext md1).ext mD).rng rfl rfl) ?_
  refine DR.det (i := 2) rfl rfl (by kernel_rfl) (.free rfl) rfl rfl (fun wD mD => op_indexArr (off' := 1) rfl rfl Try.runUnderlying25 Try.sizeOf24 (by decide) (by decide) rfl) ?_
  refine DR.det (i := 3) rfl rfl (by kernel_rfl) (.free rfl) rfl rfl (fun wD mD => op_load1 (i := 1) rfl Try.isAgg24 (((r1.ext m2).ext md1).ext mD).rng rfl rfl) ?_
  refine DR.op (i := 4) (FOut .f32 (fop .add .f32 x0 x1)) rfl rfl (by kernel_rfl) (.free rfl) rfl (ltb rfl) (fun wD mD => op_farith (e := (fop .add .f32 x0 x1)) (.inl rfl) rfl rfl rfl rfl rfl) ?_
  rintro _ ⟨f1, rfl, hf1, lf1⟩
  refine DR.det (i := 5) rfl rfl (by kernel_rfl) (.free rfl) rfl rfl (fun wD mD => op_indexArr (off' := 0) rfl rfl Try.runUnderlying25 Try.sizeOf24 (by decide) (by decide) rfl) ?_
  refine DR.det (i := 6) rfl rfl (by kernel_rfl) (.free rfl) rfl rfl (fun wD mD => op_load1 (i := 0) rfl Try.isAgg24 (((r1.ext m2).ext md1).ext mD).rng rfl rfl) ?_
  refine DR.det (i := 7) rfl rfl (by kernel_rfl) (.free rfl) rfl rfl (fun wD mD => op_indexArr (off' := 1) rfl rfl Try.runUnderlying25 Try.sizeOf24 (by decide) (by decide) rfl) ?_
  refine DR.det (i := 8) rfl rfl (by kernel_rfl) (.free rfl) rfl rfl (fun wD mD => op_load1 (i := 1) rfl Try.isAgg24 (((r1.ext m2).ext md1).ext mD).rng rfl rfl) ?_
  refine DR.op (i := 9) (FOut .f32 (fop .sub .f32 x0 x1)) rfl rfl (by kernel_rfl) (.free rfl) rfl (ltb rfl) (fun wD mD => op_farith (e := (fop .sub .f32 x0 x1)) (.inr (.inl rfl)) rfl rfl rfl rfl rfl) ?_
  rintro _ ⟨f2, rfl, hf2, lf2⟩
  refine DR.det (i := 10) rfl rfl (by kernel_rfl) (.free rfl) rfl rfl (fun wD mD => op_indexArr (off' := 2) rfl rfl Try.runUnderlying25 Try.sizeOf24 (by decide) (by decide) rfl) ?_
  refine DR.det (i := 11) rfl rfl (by kernel_rfl) (.free rfl) rfl rfl (fun wD mD => op_load1 (i := 2) rfl Try.isAgg24 (((r1.ext m2).ext md1).ext mD).rng rfl rfl) ?_
  refine DR.det (i := 12) rfl rfl (by kernel_rfl) (.free rfl) rfl rfl (fun wD mD => op_indexArr (off' := 3) rfl rfl Try.runUnderlying25 Try.sizeOf24 (by decide) (by decide) rfl) ?_
  refine DR.det (i := 13) rfl rfl (by kernel_rfl) (.free rfl) rfl rfl (fun wD mD => op_load1 (i := 3) rfl Try.isAgg24 (((r1.ext m2).ext md1).ext mD).rng rfl rfl) ?_
  refine DR.op (i := 14) (FOut .f32 (fop .add .f32 x2 x3)) rfl rfl (by kernel_rfl) (.free rfl) rfl (ltb rfl) (fun wD mD => op_farith (e := (fop .add .f32 x2 x3)) (.inl rfl) rfl rfl rfl rfl rfl) ?_
  rintro _ ⟨f3, rfl, hf3, lf3⟩
  refine DR.det (i := 15) rfl rfl (by kernel_rfl) (.free rfl) rfl rfl (fun wD mD => op_indexArr (off' := 2) rfl rfl Try.runUnderlying25 Try.sizeOf24 (by decide) (by decide) rfl) ?_
  refine DR.det (i := 16) rfl rfl (by kernel_rfl) (.free rfl) rfl rfl (fun wD mD => op_load1 (i := 2) rfl Try.isAgg24 (((r1.ext m2).ext md1).ext mD).rng rfl rfl) ?_
  refine DR.det (i := 17) rfl rfl (by kernel_rfl) (.free rfl) rfl rfl (fun wD mD => op_indexArr (off' := 3) rfl rfl Try.runUnderlying25 Try.sizeOf24 (by decide) (by decide) rfl) ?_
  refine DR.det (i := 18) rfl rfl (by kernel_rfl) (.free rfl) rfl rfl (fun wD mD => op_load1 (i := 3) rfl Try.isAgg24 (((r1.ext m2).ext md1).ext mD).rng rfl rfl) ?_
  refine DR.op (i := 19) (FOut .f32 (fop .sub .f32 x2 x3)) rfl rfl (by kernel_rfl) (.free rfl) rfl (ltb rfl) (fun wD mD => op_farith (e := (fop .sub .f32 x2 x3)) (.inr (.inl rfl)) rfl rfl rfl rfl rfl) ?_
  rintro _ ⟨f4, rfl, hf4, lf4⟩
  refine DR.det (i := 20) rfl rfl (by kernel_rfl) (.free rfl) rfl rfl (fun wD mD => op_assign rfl) ?_
  refine DR.det (i := 21) rfl rfl (by kernel_rfl) (.free rfl) rfl rfl (fun wD mD => op_assign rfl) ?_
  refine DR.det (i := 22) rfl rfl (by kernel_rfl) (.free rfl) rfl rfl (fun wD mD => op_assign rfl) ?_
  refine DR.done rfl ?_
  intro w4 m3
  refine WO.det (op_assign rfl) rfl (.free rfl) rfl rfl ?_
  refine WO.end ?_
  refine NE.code ?_
  refine CE.seq ?_
  refine CE.region ?_
  iterate 2 refine WL.det (op_move rfl) rfl rfl rfl ?_
  refine WL.op (op_farith (e := (fop .add .f32 (fop .add .f32 x0 x1) (fop .add .f32 x2 x3))) (.inl rfl) rfl rfl hf1 hf3 rfl) rfl rfl (ltb rfl) ?_
  rintro _ w5 ⟨⟨f5, rfl, hf5, lf5⟩, m4⟩
  refine WL.op (op_farith (e := (fop .mul .f32 1056964608 (fop .add .f32 (fop .add .f32 x0 x1) (fop .add .f32 x2 x3)))) (.inr (.inr (.inl rfl))) rfl rfl rfl hf5 rfl) rfl rfl (ltb rfl) ?_
  rintro _ w6 ⟨⟨f6, rfl, hf6, lf6⟩, m5⟩
  iterate 2 refine WL.det (op_move rfl) rfl rfl rfl ?_
  refine WL.op (op_farith (e := (fop .add .f32 (fop .sub .f32 x0 x1) (fop .sub .f32 x2 x3))) (.inl rfl) rfl rfl hf2 hf4 rfl) rfl rfl (ltb rfl) ?_
  rintro _ w7 ⟨⟨f7, rfl, hf7, lf7⟩, m6⟩
  refine WL.op (op_farith (e := (fop .mul .f32 1056964608 (fop .add .f32 (fop .sub .f32 x0 x1) (fop .sub .f32 x2 x3)))) (.inr (.inr (.inl rfl))) rfl rfl rfl hf7 rfl) rfl rfl (ltb rfl) ?_
  rintro _ w8 ⟨⟨f8, rfl, hf8, lf8⟩, m7⟩
  iterate 2 refine WL.det (op_move rfl) rfl rfl rfl ?_
  refine WL.op (op_farith (e := (fop .sub .f32 (fop .add .f32 x0 x1) (fop .add .f32 x2 x3))) (.inr (.inl rfl)) rfl rfl hf1 hf3 rfl) rfl rfl (ltb rfl) ?_
  rintro _ w9 ⟨⟨f9, rfl, hf9, lf9⟩, m8⟩
  refine WL.op (op_farith (e := (fop .mul .f32 1056964608 (fop .sub .f32 (fop .add .f32 x0 x1) (fop .add .f32 x2 x3)))) (.inr (.inr (.inl rfl))) rfl rfl rfl hf9 rfl) rfl rfl (ltb rfl) ?_
  rintro _ w10 ⟨⟨f10, rfl, hf10, lf10⟩, m9⟩
  iterate 2 refine WL.det (op_move rfl) rfl rfl rfl ?_
  refine WL.op (op_farith (e := (fop .sub .f32 (fop .sub .f32 x0 x1) (fop .sub .f32 x2 x3))) (.inr (.inl rfl)) rfl rfl hf2 hf4 rfl) rfl rfl (ltb rfl) ?_
  rintro _ w11 ⟨⟨f11, rfl, hf11, lf11⟩, m10⟩
  refine WL.op (op_farith (e := (fop .mul .f32 1056964608 (fop .sub .f32 (fop .sub .f32 x0 x1) (fop .sub .f32 x2 x3)))) (.inr (.inr (.inl rfl))) rfl rfl rfl hf11 rfl) rfl rfl (ltb rfl) ?_
  rintro _ w12 ⟨⟨f12, rfl, hf12, lf12⟩, m11⟩
  refine WL.det (op_build (qs := [(0, vF f6), (1, vF f8), (2, vF f10), (3, vF f12)]) (cells := #[vF f6, vF f8, vF f10, vF f12]) rfl (by kernel_rfl)) rfl rfl rfl ?_
  have r3 := ((((((((((r2.ext md1).ext m3).ext m4).ext m5).ext m6).ext m7).ext m8).ext m9).ext m10).ext m11)
  refine WL.op0 (op_store (i := 0) (cs := [vF f6, vF f8, vF f10, vF f12]) rfl rfl rfl Try.sizeOf25 rfl r3 rfl (lB rfl) rfl) rfl rfl ?_
  rintro _ w13 ⟨r4, m12, z3⟩
  have r5 : Row w13 w1.heap.size 0 [vF f6, vF f8, vF f10, vF f12] := Row.congr r4 rfl
  refine WL.end ?_
  refine NE.code ?_
  refine CE.ret' ?_
  refine XE.leaveC Try.results6 (res_agg (cs := [vF f6, vF f8, vF f10, vF f12]) rfl Try.isAgg25 Try.sizeOf25 r5.rng rfl res_nil) ?_
  refine ⟨f6, f8, f10, f12, rfl, ?_, ?_, ?_, ?_, ((((((((((((((Mod.refl [] w).nt m1).nt m2).nt md1).nt m3).nt m4).nt m5).nt m6).nt m7).nt m8).nt m9).nt m10).nt m11).then m12 ((aC (.inr (lT m1.size lR)) aN)))⟩
  all_goals first | assumption | rfl

theorem c_imix (a0 : Int) (a1 : Int) (a2 : Int) (a3 : Int) (ha0l : -1024 ≤ a0) (ha0h : a0 ≤ 1024) (ha1l : -1024 ≤ a1) (ha1h : a1 ≤ 1024) (ha2l : -1024 ≤ a2) (ha2h : a2 ≤ 1024) (ha3l : -1024 ≤ a3) (ha3h : a3 ≤ 1024) (hp : (a0 + a1 + a2 + a3) % 2 = 0) (w : World) : Cl Try.prog 6 #[.agg #[vF (wq a0), vF (wq a1), vF (wq a2), vF (wq a3)]] w fun v w' => v = .agg #[vF (wq ((a0 + a1 + a2 + a3) / 2)), vF (wq ((a0 - a1 + a2 - a3) / 2)), vF (wq ((a0 + a1 - a2 - a3) / 2)), vF (wq ((a0 - a1 - a2 + a3) / 2))] ∧ Mod [] w w' := by
  refine Cl.mono (c_imixB (wq a0) (wq a1) (wq a2) (wq a3) w) ?_
  rintro v w' ⟨z0, z1, z2, z3, rfl, h0, h1, h2, h3, m⟩
  have k0 := wq_eq (by omega) (by omega) (h0.trans (congrArg (cn .f32) (mxw0 ha0l ha0h ha1l ha1h ha2l ha2h ha3l ha3h hp)))
  have k1 := wq_eq (by omega) (by omega) (h1.trans (congrArg (cn .f32) (mxw1 ha0l ha0h ha1l ha1h ha2l ha2h ha3l ha3h hp)))
  have k2 := wq_eq (by omega) (by omega) (h2.trans (congrArg (cn .f32) (mxw2 ha0l ha0h ha1l ha1h ha2l ha2h ha3l ha3h hp)))
  have k3 := wq_eq (by omega) (by omega) (h3.trans (congrArg (cn .f32) (mxw3 ha0l ha0h ha1l ha1h ha2l ha2h ha3l ha3h hp)))
  rw [k0, k1, k2, k3]
  exact ⟨rfl, m⟩
set_option maxRecDepth 100000 in
set_option maxHeartbeats 2000000 in
theorem c_ispreadB (x0 : Nat) (x1 : Nat) (x2 : Nat) (x3 : Nat) (w : World) : Cl Try.prog 7 #[.agg #[vF x0, vF x1, vF x2, vF x3], vF 1065353216] w fun v w' => ∃ (z0 : Nat) (z1 : Nat) (z2 : Nat) (z3 : Nat), v = .agg #[vF z0, vF z1, vF z2, vF z3] ∧ (cn .f32 z0 = cn .f32 (fop .sub .f32 x0 (fop .quo .f32 (fop .mul .f32 1065353216 (fop .add .f32 (fop .add .f32 (fop .add .f32 x0 x1) x2) x3)) 1073741824))) ∧ (cn .f32 z1 = cn .f32 (fop .sub .f32 x1 (fop .quo .f32 (fop .mul .f32 1065353216 (fop .add .f32 (fop .add .f32 (fop .add .f32 x0 x1) x2) x3)) 1073741824))) ∧ (cn .f32 z2 = cn .f32 (fop .sub .f32 x2 (fop .quo .f32 (fop .mul .f32 1065353216 (fop .add .f32 (fop .add .f32 (fop .add .f32 x0 x1) x2) x3)) 1073741824))) ∧ (cn .f32 z3 = cn .f32 (fop .sub .f32 x3 (fop .quo .f32 (fop .mul .f32 1065353216 (fop .add .f32 (fop .add .f32 (fop .add .f32 x0 x1) x2) x3)) 1073741824))) ∧ Mod [] w w' := by
  refine Cl.of Try.func7 Try.ntmps7 rfl rfl (ρ := [(0, .agg #[vF x0, vF x1, vF x2, vF x3]), (1, vF 1065353216)]) rfl ?_
  refine CE.seq ?_
  refine CE.region ?_
  refine WL.op (op_box (cs := [vF x0, vF x1, vF x2, vF x3]) rfl rfl) rfl rfl (ltb rfl) ?_
  rintro _ w1 ⟨rfl, r1, m1, z1⟩
  refine WL.op (op_alloc (cs := [vF 0, vF 0, vF 0, vF 0]) Try.zeroValue25 rfl) rfl rfl (ltb rfl) ?_
  rintro _ w2 ⟨rfl, r2, m2, z2⟩
  refine WL.end ?_
  refine NE.code ?_
  refine CE.seq ?_
  refine CE.region ?_
  refine WL.det (op_move rfl) rfl rfl rfl ?_
  refine WL.det (op_indexArr (off' := 0) rfl rfl Try.runUnderlying25 Try.sizeOf24 (by decide) (by decide) rfl) rfl rfl rfl ?_
  refine WL.det (op_load1 (i := 0) rfl Try.isAgg24 (r1.ext m2).rng rfl rfl) rfl rfl rfl ?_
  refine WL.det (op_indexArr (off' := 1) rfl rfl Try.runUnderlying25 Try.sizeOf24 (by decide) (by decide) rfl) rfl rfl rfl ?_
  refine WL.det (op_load1 (i := 1) rfl Try.isAgg24 (r1.ext m2).rng rfl rfl) rfl rfl rfl ?_
  refine WL.op (op_farith (e := (fop .add .f32 x0 x1)) (.inl rfl) rfl rfl rfl rfl rfl) rfl rfl (ltb rfl) ?_
  rintro _ w3 ⟨⟨f1, rfl, hf1, lf1⟩, m3⟩
  refine WL.det (op_indexArr (off' := 2) rfl rfl Try.runUnderlying25 Try.sizeOf24 (by decide) (by decide) rfl) rfl rfl rfl ?_
  refine WL.det (op_load1 (i := 2) rfl Try.isAgg24 ((r1.ext m2).ext m3).rng rfl rfl) rfl rfl rfl ?_
  refine WL.op (op_farith (e := (fop .add .f32 (fop .add .f32 x0 x1) x2)) (.inl rfl) rfl rfl hf1 rfl rfl) rfl rfl (ltb rfl) ?_
  rintro _ w4 ⟨⟨f2, rfl, hf2, lf2⟩, m4⟩
  refine WL.det (op_indexArr (off' := 3) rfl rfl Try.runUnderlying25 Try.sizeOf24 (by decide) (by decide) rfl) rfl rfl rfl ?_
  have r3 := (((r1.ext m2).ext m3).ext m4)
  refine WL.det (op_load1 (i := 3) rfl Try.isAgg24 r3.rng rfl rfl) rfl rfl rfl ?_
  refine WL.op (op_farith (e := (fop .add .f32 (fop .add .f32 (fop .add .f32 x0 x1) x2) x3)) (.inl rfl) rfl rfl hf2 rfl rfl) rfl rfl (ltb rfl) ?_
  rintro _ w5 ⟨⟨f3, rfl, hf3, lf3⟩, m5⟩
  refine WL.op (op_farith (e := (fop .mul .f32 1065353216 (fop .add .f32 (fop .add .f32 (fop .add .f32 x0 x1) x2) x3))) (.inr (.inr (.inl rfl))) rfl rfl rfl hf3 rfl) rfl rfl (ltb rfl) ?_
  rintro _ w6 ⟨⟨f4, rfl, hf4, lf4⟩, m6⟩
  refine WL.op (op_farith (e := (fop .quo .f32 (fop .mul .f32 1065353216 (fop .add .f32 (fop .add .f32 (fop .add .f32 x0 x1) x2) x3)) 1073741824)) (.inr (.inr (.inr rfl))) rfl rfl hf4 rfl rfl) rfl rfl (ltb rfl) ?_
  rintro _ w7 ⟨⟨f5, rfl, hf5, lf5⟩, m7⟩
  refine WL.det (op_assign rfl) rfl rfl rfl ?_
  refine WL.end ?_
  refine NE.code ?_
  refine CE.seq ?_
  refine CE.region ?_
  refine WL.det (op_indexArr (off' := 0) rfl rfl Try.runUnderlying25 Try.sizeOf24 (by decide) (by decide) rfl) rfl rfl rfl ?_
  have r4 := (((r3.ext m5).ext m6).ext m7)
  refine WL.det (op_load1 (i := 0) rfl Try.isAgg24 r4.rng rfl rfl) rfl rfl rfl ?_
  refine WL.det (op_move rfl) rfl rfl rfl ?_
  refine WL.op (op_farith (e := (fop .sub .f32 x0 (fop .quo .f32 (fop .mul .f32 1065353216 (fop .add .f32 (fop .add .f32 (fop .add .f32 x0 x1) x2) x3)) 1073741824))) (.inr (.inl rfl)) rfl rfl rfl hf5 rfl) rfl rfl (ltb rfl) ?_
  rintro _ w8 ⟨⟨f6, rfl, hf6, lf6⟩, m8⟩
  refine WL.det (op_indexArr (off' := 1) rfl rfl Try.runUnderlying25 Try.sizeOf24 (by decide) (by decide) rfl) rfl rfl rfl ?_
  refine WL.det (op_load1 (i := 1) rfl Try.isAgg24 (r4.ext m8).rng rfl rfl) rfl rfl rfl ?_
  refine WL.det (op_move rfl) rfl rfl rfl ?_
  refine WL.op (op_farith (e := (fop .sub .f32 x1 (fop .quo .f32 (fop .mul .f32 1065353216 (fop .add .f32 (fop .add .f32 (fop .add .f32 x0 x1) x2) x3)) 1073741824))) (.inr (.inl rfl)) rfl rfl rfl hf5 rfl) rfl rfl (ltb rfl) ?_
  rintro _ w9 ⟨⟨f7, rfl, hf7, lf7⟩, m9⟩
  refine WL.det (op_indexArr (off' := 2) rfl rfl Try.runUnderlying25 Try.sizeOf24 (by decide) (by decide) rfl) rfl rfl rfl ?_
  refine WL.det (op_load1 (i := 2) rfl Try.isAgg24 ((r4.ext m8).ext m9).rng rfl rfl) rfl rfl rfl ?_
  refine WL.det (op_move rfl) rfl rfl rfl ?_
  refine WL.op (op_farith (e := (fop .sub .f32 x2 (fop .quo .f32 (fop .mul .f32 1065353216 (fop .add .f32 (fop .add .f32 (fop .add .f32 x0 x1) x2) x3)) 1073741824))) (.inr (.inl rfl)) rfl rfl rfl hf5 rfl) rfl rfl (ltb rfl) ?_
  rintro _ w10 ⟨⟨f8, rfl, hf8, lf8⟩, m10⟩
  refine WL.det (op_indexArr (off' := 3) rfl rfl Try.runUnderlying25 Try.sizeOf24 (by decide) (by decide) rfl) rfl rfl rfl ?_
  have r5 := (((r4.ext m8).ext m9).ext m10)
  refine WL.det (op_load1 (i := 3) rfl Try.isAgg24 r5.rng rfl rfl) rfl rfl rfl ?_
  refine WL.det (op_move rfl) rfl rfl rfl ?_
  refine WL.op (op_farith (e := (fop .sub .f32 x3 (fop .quo .f32 (fop .mul .f32 1065353216 (fop .add .f32 (fop .add .f32 (fop .add .f32 x0 x1) x2) x3)) 1073741824))) (.inr (.inl rfl)) rfl rfl rfl hf5 rfl) rfl rfl (ltb rfl) ?_
  rintro _ w11 ⟨⟨f9, rfl, hf9, lf9⟩, m11⟩
  refine WL.det (op_build (qs := [(0, vF f6), (1, vF f7), (2, vF f8), (3, vF f9)]) (cells := #[vF f6, vF f7, vF f8, vF f9]) rfl (by kernel_rfl)) rfl rfl rfl ?_
  have r6 := (((((((((r2.ext m3).ext m4).ext m5).ext m6).ext m7).ext m8).ext m9).ext m10).ext m11)
  refine WL.op0 (op_store (i := 0) (cs := [vF f6, vF f7, vF f8, vF f9]) rfl rfl rfl Try.sizeOf25 rfl r6 rfl (lB rfl) rfl) rfl rfl ?_
  rintro _ w12 ⟨r7, m12, z3⟩
  have r8 : Row w12 w1.heap.size 0 [vF f6, vF f7, vF f8, vF f9] := Row.congr r7 rfl
  refine WL.end ?_
  refine NE.code ?_
  refine CE.ret' ?_
  refine XE.leaveC Try.results7 (res_agg (cs := [vF f6, vF f7, vF f8, vF f9]) rfl Try.isAgg25 Try.sizeOf25 r8.rng rfl res_nil) ?_
  refine ⟨f6, f7, f8, f9, rfl, ?_, ?_, ?_, ?_, (((((((((((((Mod.refl [] w).nt m1).nt m2).nt m3).nt m4).nt m5).nt m6).nt m7).nt m8).nt m9).nt m10).nt m11).then m12 ((aC (.inr (lT m1.size lR)) aN)))⟩
  all_goals first | assumption | rfl

theorem c_ispread (a0 : Int) (a1 : Int) (a2 : Int) (a3 : Int) (ha0l : -1024 ≤ a0) (ha0h : a0 ≤ 1024) (ha1l : -1024 ≤ a1) (ha1h : a1 ≤ 1024) (ha2l : -1024 ≤ a2) (ha2h : a2 ≤ 1024) (ha3l : -1024 ≤ a3) (ha3h : a3 ≤ 1024) (hp : (a0 + a1 + a2 + a3) % 2 = 0) (w : World) : Cl Try.prog 7 #[.agg #[vF (wq a0), vF (wq a1), vF (wq a2), vF (wq a3)], vF 1065353216] w fun v w' => v = .agg #[vF (wq (a0 - (a0 + a1 + a2 + a3) / 2)), vF (wq (a1 - (a0 + a1 + a2 + a3) / 2)), vF (wq (a2 - (a0 + a1 + a2 + a3) / 2)), vF (wq (a3 - (a0 + a1 + a2 + a3) / 2))] ∧ Mod [] w w' := by
  refine Cl.mono (c_ispreadB (wq a0) (wq a1) (wq a2) (wq a3) w) ?_
  rintro v w' ⟨z0, z1, z2, z3, rfl, h0, h1, h2, h3, m⟩
  rw [shw ha0l ha0h ha1l ha1h ha2l ha2h ha3l ha3h hp] at h0 h1 h2 h3
  have k0 := wq_eq (by omega) (by omega) (h0.trans (congrArg (cn .f32) (wq_sub (by omega) (by omega) (by omega) (by omega) (by omega) (by omega))))
  have k1 := wq_eq (by omega) (by omega) (h1.trans (congrArg (cn .f32) (wq_sub (by omega) (by omega) (by omega) (by omega) (by omega) (by omega))))
  have k2 := wq_eq (by omega) (by omega) (h2.trans (congrArg (cn .f32) (wq_sub (by omega) (by omega) (by omega) (by omega) (by omega) (by omega))))
  have k3 := wq_eq (by omega) (by omega) (h3.trans (congrArg (cn .f32) (wq_sub (by omega) (by omega) (by omega) (by omega) (by omega) (by omega))))
  rw [k0, k1, k2, k3]
  exact ⟨rfl, m⟩
set_option maxRecDepth 100000 in
set_option maxHeartbeats 2000000 in
theorem c_smixB (x0 : Nat) (x1 : Nat) (x2 : Nat) (x3 : Nat) (w : World) : Cl Try.prog 8 #[.agg #[vF x0, vF x1, vF x2, vF x3]] w fun v w' => ∃ (z0 : Nat) (z1 : Nat) (z2 : Nat) (z3 : Nat), v = .agg #[vF z0, vF z1, vF z2, vF z3] ∧ (cn .f32 z0 = cn .f32 (fop .mul .f32 1056964608 (fop .add .f32 (fop .add .f32 x0 x1) (fop .add .f32 x2 x3)))) ∧ (cn .f32 z1 = cn .f32 (fop .mul .f32 1056964608 (fop .add .f32 (fop .sub .f32 x0 x1) (fop .sub .f32 x2 x3)))) ∧ (cn .f32 z2 = cn .f32 (fop .mul .f32 1056964608 (fop .sub .f32 (fop .add .f32 x0 x1) (fop .add .f32 x2 x3)))) ∧ (cn .f32 z3 = cn .f32 (fop .mul .f32 1056964608 (fop .sub .f32 (fop .sub .f32 x0 x1) (fop .sub .f32 x2 x3)))) ∧ Mod [] w w' := by
  refine Cl.of Try.func8 Try.ntmps8 rfl rfl (ρ := [(0, .agg #[vF x0, vF x1, vF x2, vF x3])]) rfl ?_
  refine CE.seq ?_
  refine CE.region ?_
  refine WL.op (op_box (cs := [vF x0, vF x1, vF x2, vF x3]) rfl rfl) rfl rfl (ltb rfl) ?_
  rintro _ w1 ⟨rfl, r1, m1, z1⟩
  refine WL.op (op_alloc (cs := [vF 0, vF 0, vF 0, vF 0]) Try.zeroValue25 rfl) rfl rfl (ltb rfl) ?_
  rintro _ w2 ⟨rfl, r2, m2, z2⟩
  refine WL.end ?_
  refine NE.code ?_
  refine CE.seq ?_
  refine CE.region ?_
  refine WL.det (op_indexArr (off' := 0) rfl rfl Try.runUnderlying25 Try.sizeOf24 (by decide) (by decide) rfl) rfl rfl rfl ?_
  refine WL.det (op_load1 (i := 0) rfl Try.isAgg24 (r1.ext m2).rng rfl rfl) rfl rfl rfl ?_
  refine WL.det (op_indexArr (off' := 1) rfl rfl Try.runUnderlying25 Try.sizeOf24 (by decide) (by decide) rfl) rfl rfl rfl ?_
  refine WL.det (op_load1 (i := 1) rfl Try.isAgg24 (r1.ext m2).rng rfl rfl) rfl rfl rfl ?_
  refine WL.op (op_farith (e := (fop .add .f32 x0 x1)) (.inl rfl) rfl rfl rfl rfl rfl) rfl rfl (ltb rfl) ?_
  rintro _ w3 ⟨⟨f1, rfl, hf1, lf1⟩, m3⟩
  refine WL.det (op_assign rfl) rfl rfl rfl ?_
  refine WL.end ?_
  refine NE.code ?_
  refine CE.seq ?_
  refine CE.region ?_
  refine WL.det (op_indexArr (off' := 0) rfl rfl Try.runUnderlying25 Try.sizeOf24 (by decide) (by decide) rfl) rfl rfl rfl ?_
  refine WL.det (op_load1 (i := 0) rfl Try.isAgg24 ((r1.ext m2).ext m3).rng rfl rfl) rfl rfl rfl ?_
  refine WL.det (op_indexArr (off' := 1) rfl rfl Try.runUnderlying25 Try.sizeOf24 (by decide) (by decide) rfl) rfl rfl rfl ?_
  refine WL.det (op_load1 (i := 1) rfl Try.isAgg24 ((r1.ext m2).ext m3).rng rfl rfl) rfl rfl rfl ?_
  refine WL.op (op_farith (e := (fop .sub .f32 x0 x1)) (.inr (.inl rfl)) rfl rfl rfl rfl rfl) rfl rfl (ltb rfl) ?_
  rintro _ w4 ⟨⟨f2, rfl, hf2, lf2⟩, m4⟩
  refine WL.det (op_assign rfl) rfl rfl rfl ?_
  refine WL.end ?_
  refine NE.code ?_
  refine CE.seq ?_
  refine CE.region ?_
  refine WL.det (op_indexArr (off' := 2) rfl rfl Try.runUnderlying25 Try.sizeOf24 (by decide) (by decide) rfl) rfl rfl rfl ?_
  have r3 := (((r1.ext m2).ext m3).ext m4)
  refine WL.det (op_load1 (i := 2) rfl Try.isAgg24 r3.rng rfl rfl) rfl rfl rfl ?_
  refine WL.det (op_indexArr (off' := 3) rfl rfl Try.runUnderlying25 Try.sizeOf24 (by decide) (by decide) rfl) rfl rfl rfl ?_
  refine WL.det (op_load1 (i := 3) rfl Try.isAgg24 r3.rng rfl rfl) rfl rfl rfl ?_
  refine WL.op (op_farith (e := (fop .add .f32 x2 x3)) (.inl rfl) rfl rfl rfl rfl rfl) rfl rfl (ltb rfl) ?_
  rintro _ w5 ⟨⟨f3, rfl, hf3, lf3⟩, m5⟩
  refine WL.det (op_assign rfl) rfl rfl rfl ?_
  refine WL.end ?_
  refine NE.code ?_
  refine CE.seq ?_
  refine CE.region ?_
  refine WL.det (op_indexArr (off' := 2) rfl rfl Try.runUnderlying25 Try.sizeOf24 (by decide) (by decide) rfl) rfl rfl rfl ?_
  refine WL.det (op_load1 (i := 2) rfl Try.isAgg24 (r3.ext m5).rng rfl rfl) rfl rfl rfl ?_
  refine WL.det (op_indexArr (off' := 3) rfl rfl Try.runUnderlying25 Try.sizeOf24 (by decide) (by decide) rfl) rfl rfl rfl ?_
  refine WL.det (op_load1 (i := 3) rfl Try.isAgg24 (r3.ext m5).rng rfl rfl) rfl rfl rfl ?_
  refine WL.op (op_farith (e := (fop .sub .f32 x2 x3)) (.inr (.inl rfl)) rfl rfl rfl rfl rfl) rfl rfl (ltb rfl) ?_
  rintro _ w6 ⟨⟨f4, rfl, hf4, lf4⟩, m6⟩
  refine WL.det (op_assign rfl) rfl rfl rfl ?_
  refine WL.end ?_
  refine NE.code ?_
  refine CE.seq ?_
  refine CE.region ?_
  iterate 2 refine WL.det (op_move rfl) rfl rfl rfl ?_
  refine WL.op (op_farith (e := (fop .add .f32 (fop .add .f32 x0 x1) (fop .add .f32 x2 x3))) (.inl rfl) rfl rfl hf1 hf3 rfl) rfl rfl (ltb rfl) ?_
  rintro _ w7 ⟨⟨f5, rfl, hf5, lf5⟩, m7⟩
  refine WL.op (op_farith (e := (fop .mul .f32 1056964608 (fop .add .f32 (fop .add .f32 x0 x1) (fop .add .f32 x2 x3)))) (.inr (.inr (.inl rfl))) rfl rfl rfl hf5 rfl) rfl rfl (ltb rfl) ?_
  rintro _ w8 ⟨⟨f6, rfl, hf6, lf6⟩, m8⟩
  iterate 2 refine WL.det (op_move rfl) rfl rfl rfl ?_
  refine WL.op (op_farith (e := (fop .add .f32 (fop .sub .f32 x0 x1) (fop .sub .f32 x2 x3))) (.inl rfl) rfl rfl hf2 hf4 rfl) rfl rfl (ltb rfl) ?_
  rintro _ w9 ⟨⟨f7, rfl, hf7, lf7⟩, m9⟩
  refine WL.op (op_farith (e := (fop .mul .f32 1056964608 (fop .add .f32 (fop .sub .f32 x0 x1) (fop .sub .f32 x2 x3)))) (.inr (.inr (.inl rfl))) rfl rfl rfl hf7 rfl) rfl rfl (ltb rfl) ?_
  rintro _ w10 ⟨⟨f8, rfl, hf8, lf8⟩, m10⟩
  iterate 2 refine WL.det (op_move rfl) rfl rfl rfl ?_
  refine WL.op (op_farith (e := (fop .sub .f32 (fop .add .f32 x0 x1) (fop .add .f32 x2 x3))) (.inr (.inl rfl)) rfl rfl hf1 hf3 rfl) rfl rfl (ltb rfl) ?_
  rintro _ w11 ⟨⟨f9, rfl, hf9, lf9⟩, m11⟩
  refine WL.op (op_farith (e := (fop .mul .f32 1056964608 (fop .sub .f32 (fop .add .f32 x0 x1) (fop .add .f32 x2 x3)))) (.inr (.inr (.inl rfl))) rfl rfl rfl hf9 rfl) rfl rfl (ltb rfl) ?_
  rintro _ w12 ⟨⟨f10, rfl, hf10, lf10⟩, m12⟩
  iterate 2 refine WL.det (op_move rfl) rfl rfl rfl ?_
  refine WL.op (op_farith (e := (fop .sub .f32 (fop .sub .f32 x0 x1) (fop .sub .f32 x2 x3))) (.inr (.inl rfl)) rfl rfl hf2 hf4 rfl) rfl rfl (ltb rfl) ?_
  rintro _ w13 ⟨⟨f11, rfl, hf11, lf11⟩, m13⟩
  refine WL.op (op_farith (e := (fop .mul .f32 1056964608 (fop .sub .f32 (fop .sub .f32 x0 x1) (fop .sub .f32 x2 x3)))) (.inr (.inr (.inl rfl))) rfl rfl rfl hf11 rfl) rfl rfl (ltb rfl) ?_
  rintro _ w14 ⟨⟨f12, rfl, hf12, lf12⟩, m14⟩
  refine WL.det (op_build (qs := [(0, vF f6), (1, vF f8), (2, vF f10), (3, vF f12)]) (cells := #[vF f6, vF f8, vF f10, vF f12]) rfl (by kernel_rfl)) rfl rfl rfl ?_
  have r4 := ((((((((((((r2.ext m3).ext m4).ext m5).ext m6).ext m7).ext m8).ext m9).ext m10).ext m11).ext m12).ext m13).ext m14)
  refine WL.op0 (op_store (i := 0) (cs := [vF f6, vF f8, vF f10, vF f12]) rfl rfl rfl Try.sizeOf25 rfl r4 rfl (lB rfl) rfl) rfl rfl ?_
  rintro _ w15 ⟨r5, m15, z3⟩
  have r6 : Row w15 w1.heap.size 0 [vF f6, vF f8, vF f10, vF f12] := Row.congr r5 rfl
  refine WL.end ?_
  refine NE.code ?_
  refine CE.ret' ?_
  refine XE.leaveC Try.results8 (res_agg (cs := [vF f6, vF f8, vF f10, vF f12]) rfl Try.isAgg25 Try.sizeOf25 r6.rng rfl res_nil) ?_
  refine ⟨f6, f8, f10, f12, rfl, ?_, ?_, ?_, ?_, ((((((((((((((((Mod.refl [] w).nt m1).nt m2).nt m3).nt m4).nt m5).nt m6).nt m7).nt m8).nt m9).nt m10).nt m11).nt m12).nt m13).nt m14).then m15 ((aC (.inr (lT m1.size lR)) aN)))⟩
  all_goals first | assumption | rfl

theorem c_smix (a0 : Int) (a1 : Int) (a2 : Int) (a3 : Int) (ha0l : -1024 ≤ a0) (ha0h : a0 ≤ 1024) (ha1l : -1024 ≤ a1) (ha1h : a1 ≤ 1024) (ha2l : -1024 ≤ a2) (ha2h : a2 ≤ 1024) (ha3l : -1024 ≤ a3) (ha3h : a3 ≤ 1024) (hp : (a0 + a1 + a2 + a3) % 2 = 0) (w : World) : Cl Try.prog 8 #[.agg #[vF (wq a0), vF (wq a1), vF (wq a2), vF (wq a3)]] w fun v w' => v = .agg #[vF (wq ((a0 + a1 + a2 + a3) / 2)), vF (wq ((a0 - a1 + a2 - a3) / 2)), vF (wq ((a0 + a1 - a2 - a3) / 2)), vF (wq ((a0 - a1 - a2 + a3) / 2))] ∧ Mod [] w w' := by
  refine Cl.mono (c_smixB (wq a0) (wq a1) (wq a2) (wq a3) w) ?_
  rintro v w' ⟨z0, z1, z2, z3, rfl, h0, h1, h2, h3, m⟩
  have k0 := wq_eq (by omega) (by omega) (h0.trans (congrArg (cn .f32) (mxw0 ha0l ha0h ha1l ha1h ha2l ha2h ha3l ha3h hp)))
  have k1 := wq_eq (by omega) (by omega) (h1.trans (congrArg (cn .f32) (mxw1 ha0l ha0h ha1l ha1h ha2l ha2h ha3l ha3h hp)))
  have k2 := wq_eq (by omega) (by omega) (h2.trans (congrArg (cn .f32) (mxw2 ha0l ha0h ha1l ha1h ha2l ha2h ha3l ha3h hp)))
  have k3 := wq_eq (by omega) (by omega) (h3.trans (congrArg (cn .f32) (mxw3 ha0l ha0h ha1l ha1h ha2l ha2h ha3l ha3h hp)))
  rw [k0, k1, k2, k3]
  exact ⟨rfl, m⟩
set_option maxRecDepth 100000 in
set_option maxHeartbeats 2000000 in
theorem c_sspreadB (x0 : Nat) (x1 : Nat) (x2 : Nat) (x3 : Nat) (w : World) : Cl Try.prog 9 #[.agg #[vF x0, vF x1, vF x2, vF x3], vF 1065353216] w fun v w' => ∃ (z0 : Nat) (z1 : Nat) (z2 : Nat) (z3 : Nat), v = .agg #[vF z0, vF z1, vF z2, vF z3] ∧ (cn .f32 z0 = cn .f32 (fop .sub .f32 x0 (fop .quo .f32 (fop .mul .f32 1065353216 (fop .add .f32 (fop .add .f32 (fop .add .f32 x0 x1) x2) x3)) 1073741824))) ∧ (cn .f32 z1 = cn .f32 (fop .sub .f32 x1 (fop .quo .f32 (fop .mul .f32 1065353216 (fop .add .f32 (fop .add .f32 (fop .add .f32 x0 x1) x2) x3)) 1073741824))) ∧ (cn .f32 z2 = cn .f32 (fop .sub .f32 x2 (fop .quo .f32 (fop .mul .f32 1065353216 (fop .add .f32 (fop .add .f32 (fop .add .f32 x0 x1) x2) x3)) 1073741824))) ∧ (cn .f32 z3 = cn .f32 (fop .sub .f32 x3 (fop .quo .f32 (fop .mul .f32 1065353216 (fop .add .f32 (fop .add .f32 (fop .add .f32 x0 x1) x2) x3)) 1073741824))) ∧ Mod [] w w' := by
  refine Cl.of Try.func9 Try.ntmps9 rfl rfl (ρ := [(0, .agg #[vF x0, vF x1, vF x2, vF x3]), (1, vF 1065353216)]) rfl ?_
  refine CE.seq ?_
  refine CE.region ?_
  refine WL.op (op_box (cs := [vF x0, vF x1, vF x2, vF x3]) rfl rfl) rfl rfl (ltb rfl) ?_
  rintro _ w1 ⟨rfl, r1, m1, z1⟩
  refine WL.op (op_alloc (cs := [vF 0, vF 0, vF 0, vF 0]) Try.zeroValue25 rfl) rfl rfl (ltb rfl) ?_
  rintro _ w2 ⟨rfl, r2, m2, z2⟩
  refine WL.end ?_
  refine NE.code ?_
  refine CE.seq ?_
  refine CE.region ?_
  refine WL.det (op_move rfl) rfl rfl rfl ?_
  refine WL.det (op_indexArr (off' := 0) rfl rfl Try.runUnderlying25 Try.sizeOf24 (by decide) (by decide) rfl) rfl rfl rfl ?_
  refine WL.det (op_load1 (i := 0) rfl Try.isAgg24 (r1.ext m2).rng rfl rfl) rfl rfl rfl ?_
  refine WL.det (op_indexArr (off' := 1) rfl rfl Try.runUnderlying25 Try.sizeOf24 (by decide) (by decide) rfl) rfl rfl rfl ?_
  refine WL.det (op_load1 (i := 1) rfl Try.isAgg24 (r1.ext m2).rng rfl rfl) rfl rfl rfl ?_
  refine WL.op (op_farith (e := (fop .add .f32 x0 x1)) (.inl rfl) rfl rfl rfl rfl rfl) rfl rfl (ltb rfl) ?_
  rintro _ w3 ⟨⟨f1, rfl, hf1, lf1⟩, m3⟩
  refine WL.det (op_indexArr (off' := 2) rfl rfl Try.runUnderlying25 Try.sizeOf24 (by decide) (by decide) rfl) rfl rfl rfl ?_
  refine WL.det (op_load1 (i := 2) rfl Try.isAgg24 ((r1.ext m2).ext m3).rng rfl rfl) rfl rfl rfl ?_
  refine WL.op (op_farith (e := (fop .add .f32 (fop .add .f32 x0 x1) x2)) (.inl rfl) rfl rfl hf1 rfl rfl) rfl rfl (ltb rfl) ?_
  rintro _ w4 ⟨⟨f2, rfl, hf2, lf2⟩, m4⟩
  refine WL.det (op_indexArr (off' := 3) rfl rfl Try.runUnderlying25 Try.sizeOf24 (by decide) (by decide) rfl) rfl rfl rfl ?_
  have r3 := (((r1.ext m2).ext m3).ext m4)
  refine WL.det (op_load1 (i := 3) rfl Try.isAgg24 r3.rng rfl rfl) rfl rfl rfl ?_
  refine WL.op (op_farith (e := (fop .add .f32 (fop .add .f32 (fop .add .f32 x0 x1) x2) x3)) (.inl rfl) rfl rfl hf2 rfl rfl) rfl rfl (ltb rfl) ?_
  rintro _ w5 ⟨⟨f3, rfl, hf3, lf3⟩, m5⟩
  refine WL.op (op_farith (e := (fop .mul .f32 1065353216 (fop .add .f32 (fop .add .f32 (fop .add .f32 x0 x1) x2) x3))) (.inr (.inr (.inl rfl))) rfl rfl rfl hf3 rfl) rfl rfl (ltb rfl) ?_
  rintro _ w6 ⟨⟨f4, rfl, hf4, lf4⟩, m6⟩
  refine WL.op (op_farith (e := (fop .quo .f32 (fop .mul .f32 1065353216 (fop .add .f32 (fop .add .f32 (fop .add .f32 x0 x1) x2) x3)) 1073741824)) (.inr (.inr (.inr rfl))) rfl rfl hf4 rfl rfl) rfl rfl (ltb rfl) ?_
  rintro _ w7 ⟨⟨f5, rfl, hf5, lf5⟩, m7⟩
  refine WL.det (op_assign rfl) rfl rfl rfl ?_
  refine WL.end ?_
  refine NE.code ?_
  refine CE.seq ?_
  refine CE.region ?_
  refine WL.det (op_indexArr (off' := 0) rfl rfl Try.runUnderlying25 Try.sizeOf24 (by decide) (by decide) rfl) rfl rfl rfl ?_
  have r4 := (((r3.ext m5).ext m6).ext m7)
  refine WL.det (op_load1 (i := 0) rfl Try.isAgg24 r4.rng rfl rfl) rfl rfl rfl ?_
  refine WL.det (op_move rfl) rfl rfl rfl ?_
  refine WL.op (op_farith (e := (fop .sub .f32 x0 (fop .quo .f32 (fop .mul .f32 1065353216 (fop .add .f32 (fop .add .f32 (fop .add .f32 x0 x1) x2) x3)) 1073741824))) (.inr (.inl rfl)) rfl rfl rfl hf5 rfl) rfl rfl (ltb rfl) ?_
  rintro _ w8 ⟨⟨f6, rfl, hf6, lf6⟩, m8⟩
  refine WL.det (op_indexArr (off' := 1) rfl rfl Try.runUnderlying25 Try.sizeOf24 (by decide) (by decide) rfl) rfl rfl rfl ?_
  refine WL.det (op_load1 (i := 1) rfl Try.isAgg24 (r4.ext m8).rng rfl rfl) rfl rfl rfl ?_
  refine WL.det (op_move rfl) rfl rfl rfl ?_
  refine WL.op (op_farith (e := (fop .sub .f32 x1 (fop .quo .f32 (fop .mul .f32 1065353216 (fop .add .f32 (fop .add .f32 (fop .add .f32 x0 x1) x2) x3)) 1073741824))) (.inr (.inl rfl)) rfl rfl rfl hf5 rfl) rfl rfl (ltb rfl) ?_
  rintro _ w9 ⟨⟨f7, rfl, hf7, lf7⟩, m9⟩
  refine WL.det (op_indexArr (off' := 2) rfl rfl Try.runUnderlying25 Try.sizeOf24 (by decide) (by decide) rfl) rfl rfl rfl ?_
  refine WL.det (op_load1 (i := 2) rfl Try.isAgg24 ((r4.ext m8).ext m9).rng rfl rfl) rfl rfl rfl ?_
  refine WL.det (op_move rfl) rfl rfl rfl ?_
  refine WL.op (op_farith (e := (fop .sub .f32 x2 (fop .quo .f32 (fop .mul .f32 1065353216 (fop .add .f32 (fop .add .f32 (fop .add .f32 x0 x1) x2) x3)) 1073741824))) (.inr (.inl rfl)) rfl rfl rfl hf5 rfl) rfl rfl (ltb rfl) ?_
  rintro _ w10 ⟨⟨f8, rfl, hf8, lf8⟩, m10⟩
  refine WL.det (op_indexArr (off' := 3) rfl rfl Try.runUnderlying25 Try.sizeOf24 (by decide) (by decide) rfl) rfl rfl rfl ?_
  have r5 := (((r4.ext m8).ext m9).ext m10)
  refine WL.det (op_load1 (i := 3) rfl Try.isAgg24 r5.rng rfl rfl) rfl rfl rfl ?_
  refine WL.det (op_move rfl) rfl rfl rfl ?_
  refine WL.op (op_farith (e := (fop .sub .f32 x3 (fop .quo .f32 (fop .mul .f32 1065353216 (fop .add .f32 (fop .add .f32 (fop .add .f32 x0 x1) x2) x3)) 1073741824))) (.inr (.inl rfl)) rfl rfl rfl hf5 rfl) rfl rfl (ltb rfl) ?_
  rintro _ w11 ⟨⟨f9, rfl, hf9, lf9⟩, m11⟩
  refine WL.det (op_build (qs := [(0, vF f6), (1, vF f7), (2, vF f8), (3, vF f9)]) (cells := #[vF f6, vF f7, vF f8, vF f9]) rfl (by kernel_rfl)) rfl rfl rfl ?_
  have r6 := (((((((((r2.ext m3).ext m4).ext m5).ext m6).ext m7).ext m8).ext m9).ext m10).ext m11)
  refine WL.op0 (op_store (i := 0) (cs := [vF f6, vF f7, vF f8, vF f9]) rfl rfl rfl Try.sizeOf25 rfl r6 rfl (lB rfl) rfl) rfl rfl ?_
  rintro _ w12 ⟨r7, m12, z3⟩
  have r8 : Row w12 w1.heap.size 0 [vF f6, vF f7, vF f8, vF f9] := Row.congr r7 rfl
  refine WL.end ?_
  refine NE.code ?_
  refine CE.ret' ?_
  refine XE.leaveC Try.results9 (res_agg (cs := [vF f6, vF f7, vF f8, vF f9]) rfl Try.isAgg25 Try.sizeOf25 r8.rng rfl res_nil) ?_
  refine ⟨f6, f7, f8, f9, rfl, ?_, ?_, ?_, ?_, (((((((((((((Mod.refl [] w).nt m1).nt m2).nt m3).nt m4).nt m5).nt m6).nt m7).nt m8).nt m9).nt m10).nt m11).then m12 ((aC (.inr (lT m1.size lR)) aN)))⟩
  all_goals first | assumption | rfl

theorem c_sspread (a0 : Int) (a1 : Int) (a2 : Int) (a3 : Int) (ha0l : -1024 ≤ a0) (ha0h : a0 ≤ 1024) (ha1l : -1024 ≤ a1) (ha1h : a1 ≤ 1024) (ha2l : -1024 ≤ a2) (ha2h : a2 ≤ 1024) (ha3l : -1024 ≤ a3) (ha3h : a3 ≤ 1024) (hp : (a0 + a1 + a2 + a3) % 2 = 0) (w : World) : Cl Try.prog 9 #[.agg #[vF (wq a0), vF (wq a1), vF (wq a2), vF (wq a3)], vF 1065353216] w fun v w' => v = .agg #[vF (wq (a0 - (a0 + a1 + a2 + a3) / 2)), vF (wq (a1 - (a0 + a1 + a2 + a3) / 2)), vF (wq (a2 - (a0 + a1 + a2 + a3) / 2)), vF (wq (a3 - (a0 + a1 + a2 + a3) / 2))] ∧ Mod [] w w' := by
  refine Cl.mono (c_sspreadB (wq a0) (wq a1) (wq a2) (wq a3) w) ?_
  rintro v w' ⟨z0, z1, z2, z3, rfl, h0, h1, h2, h3, m⟩
  rw [shw ha0l ha0h ha1l ha1h ha2l ha2h ha3l ha3h hp] at h0 h1 h2 h3
  have k0 := wq_eq (by omega) (by omega) (h0.trans (congrArg (cn .f32) (wq_sub (by omega) (by omega) (by omega) (by omega) (by omega) (by omega))))
  have k1 := wq_eq (by omega) (by omega) (h1.trans (congrArg (cn .f32) (wq_sub (by omega) (by omega) (by omega) (by omega) (by omega) (by omega))))
  have k2 := wq_eq (by omega) (by omega) (h2.trans (congrArg (cn .f32) (wq_sub (by omega) (by omega) (by omega) (by omega) (by omega) (by omega))))
  have k3 := wq_eq (by omega) (by omega) (h3.trans (congrArg (cn .f32) (wq_sub (by omega) (by omega) (by omega) (by omega) (by omega) (by omega))))
  rw [k0, k1, k2, k3]
  exact ⟨rfl, m⟩
end Go.Proofs.Ytemnjphnhmbddaa
