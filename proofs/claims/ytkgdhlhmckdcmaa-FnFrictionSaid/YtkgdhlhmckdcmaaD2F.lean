/- What the law on friction draws; tables of friction. -/
import Derived.Test.YtkgdhlhmckdcmaaD1
import Derived.Test.YtkgdhlhmckdcmaaH1
import Derived.Test.YtkgdhlhmckdcmaaH3
import Derived.Test.YtkgdhlhmckdcmaaF12
import Derived.Test.YtkgdhlhmckdcmaaE28
set_option linter.unusedVariables false
set_option linter.unusedSimpArgs false
namespace Go.Proofs.Ytkgdhlhmckdcmaa

theorem bys_len (xs : List Nat) : (bys xs).length = xs.length := by
  unfold bys; induction xs with
  | nil => rfl
  | cons x xs ih => simp [cat] at ih ⊢; omega
theorem rng0 {n b o p : Nat} {xs : List Nat} {w w' : World} (ln : xs.length = n) (hne : 0 < n → b ≠ p) (h : Rng w b o (bys xs)) (m : Mod [p] w w') : Rng w' b o (bys xs) := by
  intro i v hv
  by_cases h0 : 0 < n
  · exact h.mod m (by simp [hne h0]) i v hv
  · have e : xs = [] := List.length_eq_zero_iff.1 (by omega)
    subst e; simp [bys, cat] at hv

def plainW (u : Nat) : Nat := fop .quo .f32 (FloatKind.f32.nearest (((u : Nat) : Int) - 128)) 1115684864
/-- a plain sample -/
def PlW (r : Nat) : Prop := ∃ u, u < 257 ∧ r = plainW u
theorem plainW_ok : ∀ u, u < 257 → (!isNaN .f32 (plainW u) && decide (plainW u % 2147483648 ≤ 1073741824)) = true := by decide +kernel
theorem plW_of {u r : Nat} (hu : u < 257) (h : cn .f32 r = cn .f32 (fop .quo .f32 (FloatKind.f32.nearest (((u : Nat) : Int) - (128 : Int))) 1115684864)) : PlW r := by
  have k := plainW_ok u hu
  simp only [Bool.and_eq_true, Bool.not_eq_true', decide_eq_true_eq] at k
  exact ⟨u, hu, eq_of_cn h k.1⟩
theorem PlW.le {r : Nat} (h : PlW r) : r % 2147483648 ≤ 1073741824 := by
  obtain ⟨u, hu, rfl⟩ := h
  have k := plainW_ok u hu
  simp only [Bool.and_eq_true, Bool.not_eq_true', decide_eq_true_eq] at k
  exact k.2
theorem PlW.fin {r : Nat} (h : PlW r) : finF r = true := fin_of (by have := h.le; omega)
/-- the table's places -/
def tabD (j : Nat) : Nat := fop .sub .f32 (fop .quo .f32 (FloatKind.f32.nearest ((j : Nat) : Int)) 1124073472) 1065353216
theorem tab_step {ys : List Nat} {f : Nat → Nat} {i r : Nat} (hl : i < ys.length) (h : ∀ j, j < i → cn .f32 (ys.getD j 0) = cn .f32 (f j)) (hr : cn .f32 r = cn .f32 (f i)) : ∀ j, j < i + 1 → cn .f32 ((ys.set i r).getD j 0) = cn .f32 (f j) := fun j hj => by
  rw [List.getD_eq_getElem?_getD, List.getElem?_set]
  by_cases e : i = j
  · subst e; rw [if_pos rfl, if_pos hl]; exact hr
  · rw [if_neg e, ← List.getD_eq_getElem?_getD]; exact h j (by omega)

set_option maxRecDepth 100000 in
set_option maxHeartbeats 2000000 in
theorem c_pickB (n : Nat) (c : Nat) (A : Option Addr) (b : Nat) (o : Nat) (xs : List Nat) (at_ : Nat) (s : Nat) (p : Nat) (top : Nat) (ln : xs.length = n) (hA : 0 < n → A = some ⟨b, o, none⟩) (hB : ∀ i, xs.getD i 0 < 256) (hn : n ≤ 4611686018427387904) (ha : at_ ≤ 4611686018427387100) (hs : s < 18446744073709551616) (ht : 200 < top) (ht2 : top ≤ 2147483648) (nbp : 0 < n → b ≠ p) (w : World) (q : Row w p 0 [.slice A n c, vI ((at_ : Nat) : Int), .int .u64 ((s : Nat) : Int)]) (r : Rng w b o (bys xs)) : Cl Try.prog 74 #[vP p 0, vI ((top : Nat) : Int)] w fun v w' => ∃ (u : Nat) (s2 : Nat), v = vI ((u : Nat) : Int) ∧ (u < top) ∧ (s2 < 18446744073709551616) ∧ Row w' p 0 [.slice A n c, vI ((at_ + 1 + 1 : Nat) : Int), .int .u64 ((s2 : Nat) : Int)] ∧ Mod [p] w w' := by
  refine Cl.of Try.func74 Try.ntmps74 rfl rfl (ρ := [(0, vP p 0), (1, vI ((top : Nat) : Int))]) rfl ?_
  refine CE.seq ?_
  refine CE.region ?_
  refine WL.det (op_assign rfl) rfl rfl rfl ?_
  refine WL.end ?_
  refine NE.code ?_
  refine CE.seq ?_
  refine CE.seq ?_
  refine CE.region ?_
  refine WL.det (op_move rfl) rfl rfl rfl ?_
  refine WL.det (op_lei rfl rfl) rfl rfl rfl ?_
  refine WL.end ?_
  refine NE.code ?_
  refine CE.cond_f rfl (decide_eq_false (by omega)) ?_
  refine CE.skip' ?_
  refine NE.code ?_
  refine CE.seq ?_
  refine CE.region ?_
  refine WL.det (op_move rfl) rfl rfl rfl ?_
  refine WL.call (oc_call (vs := [vP p 0]) (cap := []) rfl rfl rfl Try.call108 (c_next n c A b o xs at_ s p ln hA hB (by omega) (by omega) (by omega) w q r)) rfl rfl (ltb rfl) ?_
  rintro _ w1 ⟨vv1, s1, rfl, h1, h2, r1, m1⟩
  refine WL.det (op_assign rfl) rfl rfl rfl ?_
  refine WL.end ?_
  refine NE.code ?_
  refine CE.seq ?_
  refine CE.seq ?_
  refine CE.region ?_
  refine WL.det (op_move rfl) rfl rfl rfl ?_
  refine WL.det (op_gti rfl rfl) rfl rfl rfl ?_
  refine WL.end ?_
  refine NE.code ?_
  refine CE.cond_t rfl (decide_eq_true (by omega)) ?_
  refine CE.region ?_
  refine WL.det (op_move rfl) rfl rfl rfl ?_
  refine WL.det (op_mul (r := ((vv1 * 256 : Nat) : Int)) rfl rfl (w_i64 (by omega) (by omega))) rfl rfl rfl ?_
  refine WL.det (op_move rfl) rfl rfl rfl ?_
  refine WL.call (oc_call (vs := [vP p 0]) (cap := []) rfl rfl rfl Try.call108 (c_next n c A b o xs (at_ + 1) s1 p ln hA hB (by omega) (by omega) (by omega) w1 r1 (rng0 ln nbp r m1))) rfl rfl (ltb rfl) ?_
  rintro _ w2 ⟨vv2, s2, rfl, h3, h4, r2, m2⟩
  refine WL.det (op_add (r := ((vv1 * 256 + vv2 : Nat) : Int)) rfl rfl (w_i64 (by omega) (by omega))) rfl rfl rfl ?_
  refine WL.det (op_assign rfl) rfl rfl rfl ?_
  refine WL.end ?_
  refine NE.code ?_
  refine CE.seq ?_
  refine CE.region ?_
  refine WL.det (op_move rfl) rfl rfl rfl ?_
  refine WL.det (op_move rfl) rfl rfl rfl ?_
  have hm1 : (vv1 * 256 + vv2) % top < top := Nat.mod_lt _ (by omega)
  refine WL.det (op_rem (r := (((vv1 * 256 + vv2) % top : Nat) : Int)) rfl rfl (by omega) rfl) rfl rfl rfl ?_
  refine WL.det (op_assign rfl) rfl rfl rfl ?_
  refine WL.end ?_
  refine NE.code ?_
  refine CE.ret' ?_
  refine XE.leave1 Try.results74 rfl ?_
  refine ⟨((vv1 * 256 + vv2) % top), s2, rfl, ?_, ?_, (Row.congr r2 ?_), (((Mod.refl [p] w).then m1 ((aC (.inl (by simp)) aN))).then m2 ((aC (.inl (by simp)) aN)))⟩
  all_goals first | assumption | omega | rfl

set_option maxRecDepth 100000 in
set_option maxHeartbeats 2000000 in
theorem c_l01PlainN (n : Nat) (c : Nat) (A : Option Addr) (b : Nat) (o : Nat) (xs : List Nat) (at_ : Nat) (s : Nat) (p : Nat) (ln : xs.length = n) (hA : 0 < n → A = some ⟨b, o, none⟩) (hB : ∀ i, xs.getD i 0 < 256) (hn : n ≤ 4611686018427387904) (ha : at_ ≤ 4611686018427387000) (hs : s < 18446744073709551616) (nbp : 0 < n → b ≠ p) (w : World) (q : Row w p 0 [.slice A n c, vI ((at_ : Nat) : Int), .int .u64 ((s : Nat) : Int)]) (r : Rng w b o (bys xs)) : Cl Try.prog 72 #[vP p 0] w fun v w' => ∃ (r_ : Nat) (a2 : Nat) (s2 : Nat), v = vF r_ ∧ (r_ < wid .f32) ∧ (a2 ≤ at_ + 8) ∧ (s2 < 18446744073709551616) ∧ (PlW r_) ∧ Row w' p 0 [.slice A n c, vI ((a2 : Nat) : Int), .int .u64 ((s2 : Nat) : Int)] ∧ Mod [p] w w' := by
  refine Cl.of Try.func72 Try.ntmps72 rfl rfl (ρ := [(0, vP p 0)]) rfl ?_
  refine CE.seq ?_
  refine CE.region ?_
  refine WL.det (op_assign rfl) rfl rfl rfl ?_
  refine WL.end ?_
  refine NE.code ?_
  refine CE.seq ?_
  refine CE.region ?_
  refine WL.det (op_move rfl) rfl rfl rfl ?_
  refine WL.call (oc_call (vs := [vP p 0, vI 257]) (cap := []) rfl rfl rfl Try.call74 (c_pickB n c A b o xs at_ s p 257 ln hA hB (by omega) (by omega) (by omega) (by omega) (by omega) (by first | assumption | (intro h0; have hlt := Rng.lt r (by rw [bys_len, ln]; exact h0); omega)) w q r)) rfl rfl (ltb rfl) ?_
  rintro _ w1 ⟨u1, s1, rfl, h1, h2, r1, m1⟩
  refine WL.det (op_sub (r := (((u1 : Nat) : Int) - (128 : Int))) rfl rfl (w_i64 (by omega) (by omega))) rfl rfl rfl ?_
  refine WL.det (op_cvt_if rfl Try.runUnderlying2 Try.runUnderlying25) rfl rfl rfl ?_
  refine WL.op (op_farith (e := (fop .quo .f32 (FloatKind.f32.nearest (((u1 : Nat) : Int) - (128 : Int))) 1115684864)) (.inr (.inr (.inr rfl))) rfl rfl rfl rfl rfl) rfl rfl (ltb rfl) ?_
  rintro _ w2 ⟨⟨f1, rfl, hf1, lf1⟩, m2⟩
  refine WL.det (op_assign rfl) rfl rfl rfl ?_
  refine WL.end ?_
  refine NE.code ?_
  refine CE.ret' ?_
  refine XE.leave1 Try.results72 rfl ?_
  refine ⟨f1, (at_ + 1 + 1), s1, rfl, lf1, ?_, ?_, ?_, (Row.congr (r1.ext m2) ?_), (((Mod.refl [p] w).then m1 ((aC (.inl (by simp)) aN))).nt m2)⟩
  all_goals first | assumption | rfl | omega | exact plW_of (by assumption) (by assumption)

set_option maxRecDepth 100000 in
set_option maxHeartbeats 2000000 in
theorem c_P6PlainF (n : Nat) (c : Nat) (A : Option Addr) (b : Nat) (o : Nat) (xs : List Nat) (ln : xs.length = n) (hA : 0 < n → A = some ⟨b, o, none⟩) (hB : ∀ i, xs.getD i 0 < 256) (hn : n ≤ 4611686018427387904) (w : World) (r : Rng w b o (bys xs)) : Cl Try.prog 22 #[.slice A n c] w fun v w' => ∃ (pl : Nat), v = vF pl ∧ (pl < wid .f32) ∧ (PlW pl) ∧ Mod [] w w' := by
  refine Cl.of Try.func22 Try.ntmps22 rfl rfl (ρ := [(0, .slice A n c)]) rfl ?_
  refine CE.seq ?_
  refine CE.region ?_
  refine WL.det (op_assign rfl) rfl rfl rfl ?_
  refine WL.end ?_
  refine NE.code ?_
  refine CE.seq ?_
  refine CE.region ?_
  refine WL.det (op_move rfl) rfl rfl rfl ?_
  refine WL.call (oc_call (vs := [.slice A n c]) (cap := []) rfl rfl rfl Try.call73 (c_l00From n c A b o hA w)) rfl rfl (ltb rfl) ?_
  rintro _ w1 ⟨p'1, rfl, r1, ge1, m1⟩
  refine WL.call (oc_call (vs := [vP p'1 0]) (cap := []) rfl rfl rfl Try.call72 (c_l01PlainN n c A b o xs 0 0 p'1 ln hA hB (by omega) (by omega) (by omega) (by first | assumption | (intro h0; have hlt := Rng.lt r (by rw [bys_len, ln]; exact h0); omega)) w1 r1 (r.ext m1))) rfl rfl (ltb rfl) ?_
  rintro _ w2 ⟨r_1, a1, s1, rfl, h1, h2, h3, h4, r2, m2⟩
  refine WL.det (op_assign rfl) rfl rfl rfl ?_
  refine WL.end ?_
  refine NE.code ?_
  refine CE.ret' ?_
  refine XE.leave1 Try.results22 rfl ?_
  refine ⟨r_1, rfl, h1, ?_, (((Mod.refl [] w).nt m1).then m2 ((aC (.inr ge1) aN)))⟩
  all_goals first | assumption | omega

set_option maxRecDepth 100000 in
set_option maxHeartbeats 2000000 in
theorem c_sFriction (a : Nat) (x : Nat) (b : Nat) (y : Nat) (ha : cn .f32 a = cn .f32 x) (hb : cn .f32 b = cn .f32 y) (w : World) : Cl Try.prog 27 #[vF a, vF b] w fun v w' => ∃ (r : Nat), v = vF r ∧ (cn .f32 r = cn .f32 (fricF x y)) ∧ (r < wid .f32) ∧ Mod [] w w' := by
  refine Cl.of Try.func27 Try.ntmps27 rfl rfl (ρ := [(0, vF a), (1, vF b)]) rfl ?_
  refine CE.seq ?_
  refine CE.region ?_
  refine WL.det (op_assign rfl) rfl rfl rfl ?_
  refine WL.end ?_
  refine NE.code ?_
  refine CE.seq ?_
  refine CE.region ?_
  refine WL.det (op_move rfl) rfl rfl rfl ?_
  refine WL.det (op_move rfl) rfl rfl rfl ?_
  refine WL.call (oc_call (vs := [vF a, vF b]) (cap := []) rfl rfl rfl Try.call70 (c_l05Friction a x b y ha hb w)) rfl rfl (ltb rfl) ?_
  rintro _ w1 ⟨r1, rfl, h1, h2, m1⟩
  refine WL.det (op_assign rfl) rfl rfl rfl ?_
  refine WL.end ?_
  refine NE.code ?_
  refine CE.ret' ?_
  refine XE.leave1 Try.results27 rfl ?_
  refine ⟨r1, rfl, h1, h2, ((Mod.refl [] w).nt m1)⟩

set_option maxRecDepth 100000 in
set_option maxHeartbeats 2000000 in
theorem c_iFricTab (a : Nat) (la : a < wid .f32) (hfa : finF a = true) (w : World) : Cl Try.prog 25 #[vF a] w fun v w' => ∃ (ys : List Nat), v = .tuple #[.agg (fl ys).toArray, vI 0] ∧ (ys.length = 257) ∧ (∀ j, j < 257 → cn .f32 (ys.getD j 0) = cn .f32 (fricF a (tabD j))) ∧ Mod [] w w' := by
  refine Cl.of Try.func25 Try.ntmps25 rfl rfl (ρ := [(0, vF a)]) rfl ?_
  refine CE.seq ?_
  refine CE.region ?_
  refine WL.op (op_alloc (cs := fl (List.replicate 257 0)) Try.zeroValue51 rfl) rfl rfl (ltb rfl) ?_
  rintro _ w1 ⟨rfl, r1, m1, z1⟩
  refine WL.det (op_assign rfl) rfl rfl rfl ?_
  refine WL.end ?_
  refine NE.code ?_
  refine CE.seq ?_
  refine CE.seq ?_
  refine CE.region ?_
  refine WL.det (op_move rfl) rfl rfl rfl ?_
  refine WL.call (oc_call (vs := [vF a]) (cap := []) rfl rfl rfl Try.call62 (c_isFinite a a rfl w1)) rfl rfl (ltb rfl) ?_
  rintro _ w2 ⟨rfl, m2⟩
  refine WL.det (op_not rfl) rfl rfl rfl ?_
  refine WL.end ?_
  refine NE.code ?_
  refine CE.cond_f rfl (bnot_t hfa) ?_
  refine CE.skip' ?_
  refine NE.code ?_
  refine CE.seq ?_
  refine CE.region ?_
  refine WL.op (op_alloc (cs := fl (List.replicate 257 0)) Try.zeroValue51 rfl) rfl rfl (ltb rfl) ?_
  rintro _ w3 ⟨rfl, r2, m3, z2⟩
  refine WL.end ?_
  refine NE.code ?_
  refine CE.seq ?_
  refine CE.seq ?_
  refine CE.region ?_
  refine WL.det (op_move rfl) rfl rfl rfl ?_
  refine WL.end ?_
  refine NE.code ?_
  refine CE.block ?_
  refine CE.loop (fun (z : Nat × List Nat) => [(10, vI ((z.1 : Nat) : Int)), (0, vF a), (2, vP w.heap.size 0), (3, vI 0), (4, vP w2.heap.size 0)]) (fun (z : Nat × List Nat) => fun W => (z.1 ≤ 257) ∧ (z.2.length = 257) ∧ (∀ j, j < z.1 → cn .f32 (z.2.getD j 0) = cn .f32 (fricF a (tabD j))) ∧ Row W w2.heap.size 0 (fl z.2) ∧ Mod [w2.heap.size] w3 W) (fun (z : Nat × List Nat) => 257 - z.1) (0, (List.replicate 257 0)) (⟨rfl, rfl, rfl, rfl, rfl, trivial⟩) ⟨(by exact Nat.zero_le _), (by exact List.length_replicate), (by exact fun j hj => absurd hj (Nat.not_lt_zero _)), (Row.congr r2 rfl), Mod.refl _ _⟩ ?_
  rintro ⟨i, ys⟩ w4 ⟨hi, hly, hcy, r3, m4⟩
  replace hi : i ≤ 257 := hi
  replace hly : ys.length = 257 := hly
  replace hcy : ∀ j, j < i → cn .f32 (ys.getD j 0) = cn .f32 (fricF a (tabD j)) := hcy
  replace r3 : Row w4 w2.heap.size 0 (fl ys) := r3
  show CE _ _ _ _ [(10, vI ((i : Nat) : Int)), (0, vF a), (2, vP w.heap.size 0), (3, vI 0), (4, vP w2.heap.size 0)] _
  refine CE.seq ?_
  refine CE.region ?_
  refine WL.det (op_lti rfl rfl) rfl rfl rfl ?_
  refine WL.end ?_
  refine NE.code ?_
  refine CE.seq ?_
  rcases Bool.eq_false_or_eq_true (decide (((i : Nat) : Int) < (257 : Int))) with hb1 | hb1
  · have hp1 := of_decide_eq_true hb1
    refine CE.cond_t rfl hb1 ?_
    refine CE.skip' ?_
    refine NE.code ?_
    refine CE.seq ?_
    refine CE.block ?_
    refine CE.seq ?_
    refine CE.region ?_
    refine WL.det (op_move rfl) rfl rfl rfl ?_
    refine WL.det (op_assign rfl) rfl rfl rfl ?_
    refine WL.end ?_
    refine NE.code ?_
    refine CE.region ?_
    refine WL.det (op_move rfl) rfl rfl rfl ?_
    refine WL.det (op_move rfl) rfl rfl rfl ?_
    refine WL.det (op_move rfl) rfl rfl rfl ?_
    refine WL.det (op_cvt_if rfl Try.runUnderlying3 Try.runUnderlying25) rfl rfl rfl ?_
    refine WL.op (op_farith (e := (fop .quo .f32 (FloatKind.f32.nearest ((i : Nat) : Int)) 1124073472)) (.inr (.inr (.inr rfl))) rfl rfl rfl rfl rfl) rfl rfl (ltb rfl) ?_
    rintro _ w5 ⟨⟨f1, rfl, hf1, lf1⟩, m5⟩
    refine WL.op (op_farith (e := (fop .sub .f32 (fop .quo .f32 (FloatKind.f32.nearest ((i : Nat) : Int)) 1124073472) 1065353216)) (.inr (.inl rfl)) rfl rfl hf1 rfl rfl) rfl rfl (ltb rfl) ?_
    rintro _ w6 ⟨⟨f2, rfl, hf2, lf2⟩, m6⟩
    refine WL.call (oc_call (vs := [vF a, vF f2]) (cap := []) rfl rfl rfl Try.call24 (c_friction a a f2 (fop .sub .f32 (fop .quo .f32 (FloatKind.f32.nearest ((i : Nat) : Int)) 1124073472) 1065353216) rfl hf2 w6)) rfl rfl (ltb rfl) ?_
    rintro _ w7 ⟨r4, rfl, h1, h2, m7⟩
    refine WL.det (op_indexArr (off' := 0 + i) rfl rfl Try.runUnderlying51 Try.sizeOf25 (by omega) (by omega) (by omega)) rfl rfl rfl ?_
    refine WL.op0 (op_store (i := i) (cs := [vF r4]) rfl rfl rfl Try.sizeOf25 rfl (((r3.ext m5).ext m6).ext m7) rfl (by rw [fl_length]; have eL : List.length ys = 257 := hly; omega) rfl) rfl rfl ?_
    rintro _ w8 ⟨r5, m8, z3⟩
    have r6 : Row w8 w2.heap.size 0 (fl (ys.set i r4)) := Row.congr r5 (fl_splice (by have eL : List.length ys = 257 := hly; omega))
    refine WL.end ?_
    refine NE.blk ?_
    refine NE.code ?_
    refine CE.region ?_
    refine WL.det (op_add (r := ((i + 1 : Nat) : Int)) rfl rfl (w_i64 (by omega) (by omega))) rfl rfl rfl ?_
    refine WL.det (op_move rfl) rfl rfl rfl ?_
    refine WL.end ?_
    exact NE.again ((i + 1), (ys.set i r4)) (⟨rfl, rfl, rfl, rfl, rfl, trivial⟩) ⟨(by dsimp only; omega), (by exact (List.length_set).trans hly), (by exact tab_step (f := fun j => fricF a (tabD j)) (by omega) hcy (by assumption)), (Row.congr r6 rfl), ((((m4.nt m5).nt m6).nt m7).then m8 ((aC (.inl (by simp)) aN)))⟩ (by first | (dsimp only; omega) | omega)
  · have hp1 := of_decide_eq_false hb1
    refine CE.cond_f rfl hb1 ?_
    refine CE.exit' ?_
    refine XE.exit_then ?_
    refine XE.exit_then ?_
    refine XE.exit_here ?_
    refine NE.code ?_
    refine CE.seq ?_
    refine CE.region ?_
    refine WL.det (op_loadA (i := 0) (cs := fl ys) rfl Try.isAgg51 Try.sizeOf51 r3.rng rfl (fl_whole hly) (fl_len hly)) rfl rfl rfl ?_
    refine WL.op0 (op_store (i := 0) (cs := fl ys) rfl rfl rfl Try.sizeOf51 (fl_len hly) (((r1.ext m2).ext m3).mod m4 (nC (lE (lL (lL r1.lt m2.size) lR)) nN)) rfl (by rw [fl_length, List.length_replicate]; decide) (fl_one _)) rfl rfl ?_
    rintro _ w9 ⟨r7, m9, z4⟩
    have r8 : Row w9 w.heap.size 0 (fl ys) := Row.congr r7 (splice_all ((fl_len (List.length_replicate)).trans (fl_len (hly)).symm))
    refine WL.det (op_assign rfl) rfl rfl rfl ?_
    refine WL.end ?_
    refine NE.code ?_
    refine CE.ret' ?_
    refine XE.leaveT Try.results25 (res_agg (cs := fl ys) rfl Try.isAgg51 Try.sizeOf51 r8.rng (fl_len hly) (res_tmp rfl res_nil)) ?_
    refine ⟨ys, rfl, hly, ?_, ((((((Mod.refl [] w).nt m1).nt m2).nt m3).then m4 ((aC (.inr (lT (lT m1.size m2.size) lR)) aN))).then m9 ((aC (.inr lR) aN)))⟩
    all_goals first | assumption | rfl | exact fun j hj => hcy j (by omega)

set_option maxRecDepth 100000 in
set_option maxHeartbeats 2000000 in
theorem c_sFricTab (a : Nat) (la : a < wid .f32) (hfa : finF a = true) (w : World) : Cl Try.prog 26 #[vF a] w fun v w' => ∃ (ys : List Nat), v = .tuple #[.agg (fl ys).toArray, vI 0] ∧ (ys.length = 257) ∧ (∀ j, j < 257 → cn .f32 (ys.getD j 0) = cn .f32 (fricF a (tabD j))) ∧ Mod [] w w' := by
  refine Cl.of Try.func26 Try.ntmps26 rfl rfl (ρ := [(0, vF a)]) rfl ?_
  refine CE.seq ?_
  refine CE.region ?_
  refine WL.op (op_alloc (cs := fl (List.replicate 257 0)) Try.zeroValue51 rfl) rfl rfl (ltb rfl) ?_
  rintro _ w1 ⟨rfl, r1, m1, z1⟩
  refine WL.det (op_assign rfl) rfl rfl rfl ?_
  refine WL.end ?_
  refine NE.code ?_
  refine CE.seq ?_
  refine CE.region ?_
  refine WL.det (op_build (qs := []) (cells := #[vF 0, vF 0, vF 0, vF 0, vF 0, vF 0, vF 0, vF 0, vF 0, vF 0, vF 0, vF 0, vF 0, vF 0, vF 0, vF 0, vF 0, vF 0, vF 0, vF 0, vF 0, vF 0, vF 0, vF 0, vF 0, vF 0, vF 0, vF 0, vF 0, vF 0, vF 0, vF 0, vF 0, vF 0, vF 0, vF 0, vF 0, vF 0, vF 0, vF 0, vF 0, vF 0, vF 0, vF 0, vF 0, vF 0, vF 0, vF 0, vF 0, vF 0, vF 0, vF 0, vF 0, vF 0, vF 0, vF 0, vF 0, vF 0, vF 0, vF 0, vF 0, vF 0, vF 0, vF 0, vF 0, vF 0, vF 0, vF 0, vF 0, vF 0, vF 0, vF 0, vF 0, vF 0, vF 0, vF 0, vF 0, vF 0, vF 0, vF 0, vF 0, vF 0, vF 0, vF 0, vF 0, vF 0, vF 0, vF 0, vF 0, vF 0, vF 0, vF 0, vF 0, vF 0, vF 0, vF 0, vF 0, vF 0, vF 0, vF 0, vF 0, vF 0, vF 0, vF 0, vF 0, vF 0, vF 0, vF 0, vF 0, vF 0, vF 0, vF 0, vF 0, vF 0, vF 0, vF 0, vF 0, vF 0, vF 0, vF 0, vF 0, vF 0, vF 0, vF 0, vF 0, vF 0, vF 0, vF 0, vF 0, vF 0, vF 0, vF 0, vF 0, vF 0, vF 0, vF 0, vF 0, vF 0, vF 0, vF 0, vF 0, vF 0, vF 0, vF 0, vF 0, vF 0, vF 0, vF 0, vF 0, vF 0, vF 0, vF 0, vF 0, vF 0, vF 0, vF 0, vF 0, vF 0, vF 0, vF 0, vF 0, vF 0, vF 0, vF 0, vF 0, vF 0, vF 0, vF 0, vF 0, vF 0, vF 0, vF 0, vF 0, vF 0, vF 0, vF 0, vF 0, vF 0, vF 0, vF 0, vF 0, vF 0, vF 0, vF 0, vF 0, vF 0, vF 0, vF 0, vF 0, vF 0, vF 0, vF 0, vF 0, vF 0, vF 0, vF 0, vF 0, vF 0, vF 0, vF 0, vF 0, vF 0, vF 0, vF 0, vF 0, vF 0, vF 0, vF 0, vF 0, vF 0, vF 0, vF 0, vF 0, vF 0, vF 0, vF 0, vF 0, vF 0, vF 0, vF 0, vF 0, vF 0, vF 0, vF 0, vF 0, vF 0, vF 0, vF 0, vF 0, vF 0, vF 0, vF 0, vF 0, vF 0, vF 0, vF 0, vF 0, vF 0, vF 0, vF 0, vF 0, vF 0, vF 0, vF 0, vF 0, vF 0, vF 0, vF 0, vF 0, vF 0, vF 0, vF 0, vF 0, vF 0, vF 0, vF 0, vF 0]) rfl (by kernel_rfl)) rfl rfl rfl ?_
  refine WL.op (op_alloc (cs := fl (List.replicate 257 0)) Try.zeroValue51 rfl) rfl rfl (ltb rfl) ?_
  rintro _ w2 ⟨rfl, r2, m2, z2⟩
  refine WL.op0 (op_store (i := 0) (cs := fl (List.replicate 257 0)) rfl rfl rfl Try.sizeOf51 (fl_len List.length_replicate) r2 rfl (by rw [fl_length, List.length_replicate]; decide) (fl_one _)) rfl rfl ?_
  rintro _ w3 ⟨r3, m3, z3⟩
  have r4 : Row w3 w1.heap.size 0 (fl (List.replicate 257 0)) := Row.congr r3 (splice_all ((fl_len (List.length_replicate)).trans (fl_len (List.length_replicate)).symm))
  refine WL.end ?_
  refine NE.code ?_
  refine CE.seq ?_
  refine CE.seq ?_
  refine CE.region ?_
  refine WL.det (op_move rfl) rfl rfl rfl ?_
  refine WL.call (oc_call (vs := [vF a]) (cap := []) rfl rfl rfl Try.call56 (c_l01Finite a a rfl w3)) rfl rfl (ltb rfl) ?_
  rintro _ w4 ⟨rfl, m4⟩
  refine WL.det (op_not rfl) rfl rfl rfl ?_
  refine WL.end ?_
  refine NE.code ?_
  refine CE.cond_f rfl (bnot_t hfa) ?_
  refine CE.skip' ?_
  refine NE.code ?_
  refine CE.seq ?_
  refine CE.seq ?_
  refine CE.region ?_
  refine WL.det (op_assign rfl) rfl rfl rfl ?_
  refine WL.end ?_
  refine NE.code ?_
  refine CE.block ?_
  refine CE.loop (fun (z : Nat × List Nat) => [(5, vI ((z.1 : Nat) : Int)), (0, vF a), (2, vP w.heap.size 0), (3, vI 0), (4, vP w1.heap.size 0)]) (fun (z : Nat × List Nat) => fun W => (z.1 ≤ 257) ∧ (z.2.length = 257) ∧ (∀ j, j < z.1 → cn .f32 (z.2.getD j 0) = cn .f32 (fricF a (tabD j))) ∧ Row W w1.heap.size 0 (fl z.2) ∧ Mod [w1.heap.size] w4 W) (fun (z : Nat × List Nat) => 257 - z.1) (0, (List.replicate 257 0)) (⟨rfl, rfl, rfl, rfl, rfl, trivial⟩) ⟨(by exact Nat.zero_le _), (by exact List.length_replicate), (by exact fun j hj => absurd hj (Nat.not_lt_zero _)), (Row.congr (r4.ext m4) rfl), Mod.refl _ _⟩ ?_
  rintro ⟨i, ys⟩ w5 ⟨hi, hly, hcy, r5, m5⟩
  replace hi : i ≤ 257 := hi
  replace hly : ys.length = 257 := hly
  replace hcy : ∀ j, j < i → cn .f32 (ys.getD j 0) = cn .f32 (fricF a (tabD j)) := hcy
  replace r5 : Row w5 w1.heap.size 0 (fl ys) := r5
  show CE _ _ _ _ [(5, vI ((i : Nat) : Int)), (0, vF a), (2, vP w.heap.size 0), (3, vI 0), (4, vP w1.heap.size 0)] _
  refine CE.seq ?_
  refine CE.seq ?_
  refine CE.region ?_
  refine WL.det (op_move rfl) rfl rfl rfl ?_
  refine WL.det (op_lei rfl rfl) rfl rfl rfl ?_
  refine WL.end ?_
  refine NE.code ?_
  rcases Bool.eq_false_or_eq_true (decide (((i : Nat) : Int) ≤ (256 : Int))) with hb1 | hb1
  · have hp1 := of_decide_eq_true hb1
    refine CE.cond_t rfl hb1 ?_
    refine CE.skip' ?_
    refine NE.code ?_
    refine CE.seq ?_
    refine CE.block ?_
    refine CE.region ?_
    refine WL.det (op_move rfl) rfl rfl rfl ?_
    refine WL.det (op_move rfl) rfl rfl rfl ?_
    refine WL.det (op_move rfl) rfl rfl rfl ?_
    refine WL.det (op_cvt_if rfl Try.runUnderlying3 Try.runUnderlying25) rfl rfl rfl ?_
    refine WL.op (op_farith (e := (fop .quo .f32 (FloatKind.f32.nearest ((i : Nat) : Int)) 1124073472)) (.inr (.inr (.inr rfl))) rfl rfl rfl rfl rfl) rfl rfl (ltb rfl) ?_
    rintro _ w6 ⟨⟨f1, rfl, hf1, lf1⟩, m6⟩
    refine WL.op (op_farith (e := (fop .sub .f32 (fop .quo .f32 (FloatKind.f32.nearest ((i : Nat) : Int)) 1124073472) 1065353216)) (.inr (.inl rfl)) rfl rfl hf1 rfl rfl) rfl rfl (ltb rfl) ?_
    rintro _ w7 ⟨⟨f2, rfl, hf2, lf2⟩, m7⟩
    refine WL.call (oc_call (vs := [vF a, vF f2]) (cap := []) rfl rfl rfl Try.call70 (c_l05Friction a a f2 (fop .sub .f32 (fop .quo .f32 (FloatKind.f32.nearest ((i : Nat) : Int)) 1124073472) 1065353216) rfl hf2 w7)) rfl rfl (ltb rfl) ?_
    rintro _ w8 ⟨r6, rfl, h1, h2, m8⟩
    refine WL.det (op_indexArr (off' := 0 + i) rfl rfl Try.runUnderlying51 Try.sizeOf25 (by omega) (by omega) (by omega)) rfl rfl rfl ?_
    refine WL.op0 (op_store (i := i) (cs := [vF r6]) rfl rfl rfl Try.sizeOf25 rfl (((r5.ext m6).ext m7).ext m8) rfl (by rw [fl_length]; have eL : List.length ys = 257 := hly; omega) rfl) rfl rfl ?_
    rintro _ w9 ⟨r7, m9, z4⟩
    have r8 : Row w9 w1.heap.size 0 (fl (ys.set i r6)) := Row.congr r7 (fl_splice (by have eL : List.length ys = 257 := hly; omega))
    refine WL.end ?_
    refine NE.blk ?_
    refine NE.code ?_
    refine CE.region ?_
    refine WL.det (op_move rfl) rfl rfl rfl ?_
    refine WL.det (op_add (r := ((i + 1 : Nat) : Int)) rfl rfl (w_i64 (by omega) (by omega))) rfl rfl rfl ?_
    refine WL.det (op_assign rfl) rfl rfl rfl ?_
    refine WL.end ?_
    exact NE.again ((i + 1), (ys.set i r6)) (⟨rfl, rfl, rfl, rfl, rfl, trivial⟩) ⟨(by dsimp only; omega), (by exact (List.length_set).trans hly), (by exact tab_step (f := fun j => fricF a (tabD j)) (by omega) hcy (by assumption)), (Row.congr r8 rfl), ((((m5.nt m6).nt m7).nt m8).then m9 ((aC (.inl (by simp)) aN)))⟩ (by first | (dsimp only; omega) | omega)
  · have hp1 := of_decide_eq_false hb1
    refine CE.cond_f rfl hb1 ?_
    refine CE.exit' ?_
    refine XE.exit_then ?_
    refine XE.exit_then ?_
    refine XE.exit_here ?_
    refine NE.code ?_
    refine CE.seq ?_
    refine CE.region ?_
    refine WL.det (op_loadA (i := 0) (cs := fl ys) rfl Try.isAgg51 Try.sizeOf51 r5.rng rfl (fl_whole hly) (fl_len hly)) rfl rfl rfl ?_
    refine WL.op0 (op_store (i := 0) (cs := fl ys) rfl rfl rfl Try.sizeOf51 (fl_len hly) ((((r1.ext m2).mod m3 (nC (lE (lL r1.lt lR)) nN)).ext m4).mod m5 (nC (lE (lL r1.lt lR)) nN)) rfl (by rw [fl_length, List.length_replicate]; decide) (fl_one _)) rfl rfl ?_
    rintro _ w10 ⟨r9, m10, z5⟩
    have r10 : Row w10 w.heap.size 0 (fl ys) := Row.congr r9 (splice_all ((fl_len (List.length_replicate)).trans (fl_len (hly)).symm))
    refine WL.det (op_assign rfl) rfl rfl rfl ?_
    refine WL.end ?_
    refine NE.code ?_
    refine CE.ret' ?_
    refine XE.leaveT Try.results26 (res_agg (cs := fl ys) rfl Try.isAgg51 Try.sizeOf51 r10.rng (fl_len hly) (res_tmp rfl res_nil)) ?_
    refine ⟨ys, rfl, hly, ?_, (((((((Mod.refl [] w).nt m1).nt m2).then m3 ((aC (.inr (lT m1.size lR)) aN))).nt m4).then m5 ((aC (.inr (lT m1.size lR)) aN))).then m10 ((aC (.inr lR) aN)))⟩
    all_goals first | assumption | rfl | exact fun j hj => hcy j (by omega)

end Go.Proofs.Ytkgdhlhmckdcmaa
