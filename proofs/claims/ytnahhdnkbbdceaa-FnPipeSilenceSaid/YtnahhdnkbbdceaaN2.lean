/- What the law on the silence of pipes draws; when a pipe of one section is silent. -/
import Derived.Test.YtnahhdnkbbdceaaN1
import Derived.Test.YtnahhdnkbbdceaaD1
set_option linter.unusedVariables false
set_option linter.unusedSimpArgs false
set_option maxRecDepth 100000
set_option maxHeartbeats 8000000
namespace Go.Proofs.Ytnahhdnkbbdceaa

theorem bys_len (xs : List Nat) : (bys xs).length = xs.length := by
  unfold bys; induction xs with
  | nil => rfl
  | cons x xs ih => simp [cat] at ih ⊢; omega
theorem rng0 {n b o p : Nat} {xs : List Nat} {w w' : World} (ln : xs.length = n) (hne : 0 < n → b ≠ p) (h : Rng w b o (bys xs)) (m : Mod [p] w w') : Rng w' b o (bys xs) := by
  intro i v hv
  by_cases h0 : 0 < n
  · exact h.mod m (by simp [hne h0]) i v hv
  · have e : xs = [] := List.length_eq_zero_iff.1 (by omega)
    subst e; simp [bys, cat] at hv

theorem QI.ex (n : Nat) (xs : List Nat) (i : Nat) : ∃ r, QI n xs i r ∧ r ≤ n := by
  have key : ∀ e, e ≤ n → (∀ j, 1 ≤ j → j ≤ e → fEq .f32 (xs.getD ((i + n - j) % n) 0) 0 = true) ∨ ∃ r, r < e ∧ QI n xs i r := by
    intro e
    induction e with
    | zero => intro _; exact .inl fun j h1 h2 => absurd h1 (by omega)
    | succ e ih =>
      intro he
      rcases ih (by omega) with h | ⟨r, h1, h2⟩
      · cases hb : fEq .f32 (xs.getD ((i + n - (e + 1)) % n) 0) 0
        · exact .inr ⟨e, by omega, QI.of h fun _ => hb⟩
        · exact .inl (QI.step h hb)
      · exact .inr ⟨r, by omega, h2⟩
  rcases key n (Nat.le_refl _) with h | ⟨r, h1, h2⟩
  · exact ⟨n, QI.of h fun h3 => absurd h3 (by omega), Nat.le_refl _⟩
  · exact ⟨r, h2, by omega⟩
def plainW (u : Nat) : Nat := fop .quo .f32 (FloatKind.f32.nearest (((u : Nat) : Int) - 128)) 1115684864
theorem plainW_ok : ∀ u, u < 257 → (!isNaN .f32 (plainW u) && decide (plainW u % 2147483648 ≤ 128 * 8388608)) = true := by decide +kernel
theorem plain_bd {u r : Nat} (hu : u < 257) (h : cn .f32 r = cn .f32 (fop .quo .f32 (FloatKind.f32.nearest (((u : Nat) : Int) - (128 : Int))) 1115684864)) : Bd r 2 := by
  have k := plainW_ok u hu
  simp only [Bool.and_eq_true, Bool.not_eq_true', decide_eq_true_eq] at k
  have e : r = plainW u := eq_of_cn h k.1
  rw [e]; unfold Bd; have := k.2; omega
theorem bd_nil (j : Nat) : Bd (([] : List Nat).getD j 0) 2 := Bd.zero
theorem bd_snoc {ys : List Nat} {f : Nat} (h : ∀ j, Bd (ys.getD j 0) 2) (hf : Bd f 2) (j : Nat) : Bd ((ys ++ [f]).getD j 0) 2 := by
  rw [List.getD_eq_getElem?_getD, List.getElem?_append]
  split
  · rw [← List.getD_eq_getElem?_getD]; exact h j
  · rw [List.getElem?_singleton]
    split
    · exact hf
    · exact Bd.zero
theorem and_l9 {a b : Bool} (h : (a && b) = true) : a = true := by rw [Bool.and_eq_true] at h; exact h.1
theorem and_r9 {a b : Bool} (h : (a && b) = true) : b = true := by rw [Bool.and_eq_true] at h; exact h.2
/-- the law's pipe -/
def LX (c0 c1 : Nat) (z : PipeSt) : Prop := ∃ n, LawP n c0 c1 ∧ PW n z
section
variable {c0 c1 : Nat} {op : Bool} {z z1 z2 : PipeSt} {m : Nat}
theorem LX.at (h : LX c0 c1 z) (f : Nat → Nat) (q : Nat) : LX c0 c1 (zAt c0 c1 op z f q) := by
  obtain ⟨n, a, b⟩ := h
  exact ⟨n, a, b.at q⟩
theorem LX.lR (h : LX c0 c1 z) : z.R.length = 1 := by obtain ⟨n, a, b⟩ := h; exact b.lR
theorem LX.lL (h : LX c0 c1 z) : z.L.length = 1 := by obtain ⟨n, a, b⟩ := h; exact b.lL
theorem rep_get (l j : Nat) : (List.replicate l 0).getD j 0 = 0 := by
  simp only [List.getD_eq_getElem?_getD, List.getElem?_replicate]
  split <;> rfl
theorem sil_a (e : z1 = zAt c0 c1 op z (fun _ => 0) m) (hm : m = silN c0 c1 op z) (h : LX c0 c1 z) (b : PB z 15) : pipeSil 1 1 z1 = true := by
  obtain ⟨n, a, w⟩ := h
  rw [e, hm]; exact (silN_all w a b).2.2.1
theorem sil_b {q : Nat} (e2 : z2 = zAt c0 c1 op z1 (fun _ => 0) q) (e : z1 = zAt c0 c1 op z (fun _ => 0) m) (hm : m = silN c0 c1 op z) (h : LX c0 c1 z) (b : PB z 15) : pipeSil 1 1 z2 = true := by
  have s := sil_a e hm h b
  have h1 := h.at (op := op) (fun _ => 0) m
  rw [← e] at h1
  obtain ⟨n, a, w⟩ := h1
  rw [e2]
  exact ((ZS.of w s).at w a q).silent (w.at q)
theorem sil_c (e : z1 = zAt c0 c1 op z (fun _ => 0) (m - 1)) (hm : m = silN c0 c1 op z) (h : LX c0 c1 z) (b : PB z 15) (h0 : 0 < m) : pipeSil 1 1 z1 = false := by
  obtain ⟨n, a, w⟩ := h
  rw [e]; exact (silN_all w a b).2.2.2 (m - 1) (by omega)
theorem heard_0 {ys : List Nat} (hy : Cn ys (outs (zOut c0 c1 op z1 (fun _ => 0)) 5)) (hw : W32 ys) (e : z1 = zAt c0 c1 op z (fun _ => 0) m) (hm : m = silN c0 c1 op z) (h : LX c0 c1 z) (b : PB z 15) : fEq .f32 (ys.getD 4 0) 0 = true := by
  have s := sil_a e hm h b
  have h1 := h.at (op := op) (fun _ => 0) m
  rw [← e] at h1
  obtain ⟨n, a, w⟩ := h1
  have z0 : Z0 (zOut c0 c1 op z1 (fun _ => 0) 4) := by rw [zOut_eq]; exact ((ZS.of w s).at w a 4).y a
  have e1 := hy.get 4
  rw [outs_get (by omega)] at e1
  have e2 : ys.getD 4 0 = zOut c0 c1 op z1 (fun _ => 0) 4 := eq_of_cn e1 (by rw [isNaN32]; have : zOut c0 c1 op z1 (fun _ => 0) 4 % 2147483648 = 0 := z0; simp; omega)
  rw [e2]; exact z0.eq
end

theorem c_pickB (n : Nat) (c : Nat) (A : Option Addr) (b : Nat) (o : Nat) (xs : List Nat) (at_ : Nat) (s : Nat) (p : Nat) (top : Nat) (ln : xs.length = n) (hA : 0 < n → A = some ⟨b, o, none⟩) (hB : ∀ i, xs.getD i 0 < 256) (hn : n ≤ 4611686018427387904) (ha : at_ ≤ 4611686018427387100) (hs : s < 18446744073709551616) (ht : 200 < top) (ht2 : top ≤ 2147483648) (nbp : 0 < n → b ≠ p) (w : World) (q : Row w p 0 [.slice A n c, vI ((at_ : Nat) : Int), .int .u64 ((s : Nat) : Int)]) (r : Rng w b o (bys xs)) : Cl Try.prog 54 #[vP p 0, vI ((top : Nat) : Int)] w fun v w' => ∃ (u : Nat) (s2 : Nat), v = vI ((u : Nat) : Int) ∧ (u < top) ∧ (s2 < 18446744073709551616) ∧ Row w' p 0 [.slice A n c, vI ((at_ + 1 + 1 : Nat) : Int), .int .u64 ((s2 : Nat) : Int)] ∧ Mod [p] w w' := by
 refine Cl.of Try.func54 Try.ntmps54 rfl rfl (ρ := [(0, vP p 0), (1, vI ((top : Nat) : Int))]) rfl ?_
 refine CE.seq (CE.region ?_)
 refine WL.det (op_assign rfl) rfl rfl rfl ?_
 refine WL.end (NE.code (CE.seq (CE.seq (CE.region ?_))))
 refine WL.det (op_move rfl) rfl rfl rfl ?_
 refine WL.det (op_lei rfl rfl) rfl rfl rfl ?_
 refine WL.end (NE.code ?_)
 refine CE.cond_f rfl (decide_eq_false (by omega)) ?_
 refine CE.skip' (NE.code (CE.seq (CE.region ?_)))
 refine WL.det (op_move rfl) rfl rfl rfl ?_
 refine WL.call (oc_call (vs := [vP p 0]) (cap := []) rfl rfl rfl Try.call107 (c_next n c A b o xs at_ s p ln hA hB (by omega) (by omega) (by omega) w q r)) rfl rfl (ltb rfl) ?_
 rintro _ w1 ⟨vv1, s1, rfl, h1, h2, r1, m1⟩
 refine WL.det (op_assign rfl) rfl rfl rfl ?_
 refine WL.end (NE.code (CE.seq (CE.seq (CE.region ?_))))
 refine WL.det (op_move rfl) rfl rfl rfl ?_
 refine WL.det (op_gti rfl rfl) rfl rfl rfl ?_
 refine WL.end (NE.code ?_)
 refine CE.cond_t rfl (decide_eq_true (by omega)) ?_
 refine CE.region ?_
 refine WL.det (op_move rfl) rfl rfl rfl ?_
 refine WL.det (op_mul (r := ((vv1 * 256 : Nat) : Int)) rfl rfl (w_i64 (by omega) (by omega))) rfl rfl rfl ?_
 refine WL.det (op_move rfl) rfl rfl rfl ?_
 refine WL.call (oc_call (vs := [vP p 0]) (cap := []) rfl rfl rfl Try.call107 (c_next n c A b o xs (at_ + 1) s1 p ln hA hB (by omega) (by omega) (by omega) w1 r1 (rng0 ln nbp r m1))) rfl rfl (ltb rfl) ?_
 rintro _ w2 ⟨vv2, s2, rfl, h3, h4, r2, m2⟩
 refine WL.det (op_add (r := ((vv1 * 256 + vv2 : Nat) : Int)) rfl rfl (w_i64 (by omega) (by omega))) rfl rfl rfl ?_
 refine WL.det (op_assign rfl) rfl rfl rfl ?_
 refine WL.end (NE.code (CE.seq (CE.region ?_)))
 iterate 2 refine WL.det (op_move rfl) rfl rfl rfl ?_
 have hm1 : (vv1 * 256 + vv2) % top < top := Nat.mod_lt _ (by omega)
 refine WL.det (op_rem (r := (((vv1 * 256 + vv2) % top : Nat) : Int)) rfl rfl (by omega) rfl) rfl rfl rfl ?_
 refine WL.det (op_assign rfl) rfl rfl rfl ?_
 refine WL.end (NE.code (CE.ret' ?_))
 refine XE.leave1 Try.results54 rfl ?_
 refine ⟨((vv1 * 256 + vv2) % top), s2, rfl, ?_, ?_, (Row.congr r2 ?_), (((Mod.refl [p] w).then m1 ((aC (.inl (by simp)) aN))).then m2 ((aC (.inl (by simp)) aN)))⟩
 all_goals first | assumption | omega | rfl

theorem c_l01PlainN (n : Nat) (c : Nat) (A : Option Addr) (b : Nat) (o : Nat) (xs : List Nat) (at_ : Nat) (s : Nat) (p : Nat) (ln : xs.length = n) (hA : 0 < n → A = some ⟨b, o, none⟩) (hB : ∀ i, xs.getD i 0 < 256) (hn : n ≤ 4611686018427387904) (ha : at_ ≤ 4611686018427387000) (hs : s < 18446744073709551616) (nbp : 0 < n → b ≠ p) (w : World) (q : Row w p 0 [.slice A n c, vI ((at_ : Nat) : Int), .int .u64 ((s : Nat) : Int)]) (r : Rng w b o (bys xs)) : Cl Try.prog 61 #[vP p 0] w fun v w' => ∃ (r_ : Nat) (a2 : Nat) (s2 : Nat), v = vF r_ ∧ (r_ < wid .f32) ∧ (a2 ≤ at_ + 8) ∧ (s2 < 18446744073709551616) ∧ (Bd r_ 2) ∧ Row w' p 0 [.slice A n c, vI ((a2 : Nat) : Int), .int .u64 ((s2 : Nat) : Int)] ∧ Mod [p] w w' := by
 refine Cl.of Try.func61 Try.ntmps61 rfl rfl (ρ := [(0, vP p 0)]) rfl ?_
 refine CE.seq (CE.region ?_)
 refine WL.det (op_assign rfl) rfl rfl rfl ?_
 refine WL.end (NE.code (CE.seq (CE.region ?_)))
 refine WL.det (op_move rfl) rfl rfl rfl ?_
 refine WL.call (oc_call (vs := [vP p 0, vI 257]) (cap := []) rfl rfl rfl Try.call54 (c_pickB n c A b o xs at_ s p 257 ln hA hB (by omega) (by omega) (by omega) (by omega) (by omega) (by first | assumption | (intro h0; have hlt := Rng.lt r (by rw [bys_len, ln]; exact h0); omega)) w q r)) rfl rfl (ltb rfl) ?_
 rintro _ w1 ⟨u1, s1, rfl, h1, h2, r1, m1⟩
 refine WL.det (op_sub (r := (((u1 : Nat) : Int) - (128 : Int))) rfl rfl (w_i64 (by omega) (by omega))) rfl rfl rfl ?_
 refine WL.det (op_cvt_if rfl Try.runUnderlying2 Try.runUnderlying27) rfl rfl rfl ?_
 refine WL.op (op_farith (e := (fop .quo .f32 (FloatKind.f32.nearest (((u1 : Nat) : Int) - (128 : Int))) 1115684864)) (.inr (.inr (.inr rfl))) rfl rfl rfl rfl rfl) rfl rfl (ltb rfl) ?_
 rintro _ w2 ⟨⟨f1, rfl, hf1, lf1⟩, m2⟩
 refine WL.det (op_assign rfl) rfl rfl rfl ?_
 refine WL.end (NE.code (CE.ret' ?_))
 refine XE.leave1 Try.results61 rfl ?_
 refine ⟨f1, (at_ + 1 + 1), s1, rfl, lf1, ?_, ?_, ?_, (Row.congr (r1.ext m2) ?_), (((Mod.refl [p] w).then m1 ((aC (.inl (by simp)) aN))).nt m2)⟩
 all_goals first | assumption | rfl | omega | exact plain_bd (by assumption) (by assumption)

theorem c_P6Plains (n : Nat) (c : Nat) (A : Option Addr) (b : Nat) (o : Nat) (xs : List Nat) (ln : xs.length = n) (hA : 0 < n → A = some ⟨b, o, none⟩) (hB : ∀ i, xs.getD i 0 < 256) (hn : n ≤ 4611686018427387904) (w : World) (r : Rng w b o (bys xs)) : Cl Try.prog 18 #[.slice A n c, vI 12] w fun v w' => ∃ (Lq : List Nat) (b' : Nat) (c' : Nat) (A' : Option Addr), v = .slice A' 12 c' ∧ (Lq.length = 12) ∧ (W32 Lq) ∧ (0 < 12 → A' = some ⟨b', 0, none⟩) ∧ (∀ j, Bd (Lq.getD j 0) 2) ∧ Row w' b' 0 (fl Lq) ∧ w.heap.size ≤ b' ∧ Mod [] w w' := by
 refine Cl.of Try.func18 Try.ntmps18 rfl rfl (ρ := [(0, .slice A n c), (1, vI 12)]) rfl ?_
 refine CE.seq (CE.region ?_)
 refine WL.det (op_assign rfl) rfl rfl rfl ?_
 refine WL.end (NE.code (CE.seq (CE.region ?_)))
 refine WL.det (op_move rfl) rfl rfl rfl ?_
 refine WL.call (oc_call (vs := [.slice A n c]) (cap := []) rfl rfl rfl Try.call53 (c_l00From n c A b o hA w)) rfl rfl (ltb rfl) ?_
 rintro _ w1 ⟨p'1, rfl, r1, ge1, m1⟩
 refine WL.det (op_assign rfl) rfl rfl rfl ?_
 refine WL.end (NE.code (CE.seq (CE.region ?_)))
 refine WL.op (op_emptySl rfl Try.runUnderlying26 Try.sizeOf27) rfl rfl (ltb rfl) ?_
 rintro _ w2 ⟨rfl, r2, m2, z1⟩
 refine WL.det (op_assign rfl) rfl rfl rfl ?_
 refine WL.end (NE.code (CE.seq (CE.seq (CE.region ?_))))
 refine WL.det (op_assign rfl) rfl rfl rfl ?_
 refine WL.end (NE.code (CE.block ?_))
 refine CE.loop (fun (z : Nat × Nat × Nat × Option Addr × Nat × List Nat) => [(7, vI ((z.1 : Nat) : Int)), (6, .slice z.2.2.2.1 z.1 z.2.2.2.2.1), (1, vI 12), (4, .slice none 0 0), (5, vP p'1 0)]) (fun (z : Nat × Nat × Nat × Option Addr × Nat × List Nat) => fun W => (z.1 ≤ 12) ∧ (z.2.1 ≤ 8 * z.1) ∧ (z.2.2.1 < 18446744073709551616) ∧ (z.2.2.2.2.2.length = z.1) ∧ (W32 z.2.2.2.2.2) ∧ (∀ j, Bd (z.2.2.2.2.2.getD j 0) 2) ∧ Row W p'1 0 [.slice A n c, vI ((z.2.1 : Nat) : Int), .int .u64 ((z.2.2.1 : Nat) : Int)] ∧ Own 27 1 w2.heap.size W z.2.2.2.1 z.1 z.2.2.2.2.1 (fl z.2.2.2.2.2) ∧ Mod [p'1] w2 W) (fun (z : Nat × Nat × Nat × Option Addr × Nat × List Nat) => 12 - z.1) (0, 0, 0, (some ⟨w1.heap.size, 0, none⟩), 0, []) (⟨rfl, rfl, rfl, rfl, rfl, trivial⟩) ⟨(by omega), (by dsimp only; omega), (by dsimp only; omega), (by rfl), (by exact W32.nil), (by exact bd_nil), (Row.congr (r1.ext m2) rfl), (Own.congr Own.emp (rfl)), Mod.refl _ _⟩ ?_
 rintro ⟨i, at_, s, A2, cc, ys⟩ w3 ⟨hi, ha, hs, hly, hwy, hb9, r3, ow1, m3⟩
 replace hi : i ≤ 12 := hi
 replace ha : at_ ≤ 8 * i := ha
 replace hs : s < 18446744073709551616 := hs
 replace hly : ys.length = i := hly
 replace hwy : W32 ys := hwy
 replace hb9 : ∀ j, Bd (ys.getD j 0) 2 := hb9
 replace r3 : Row w3 p'1 0 [.slice A n c, vI ((at_ : Nat) : Int), .int .u64 ((s : Nat) : Int)] := r3
 replace ow1 : Own 27 1 w2.heap.size w3 A2 i cc (fl ys) := ow1
 show CE _ _ _ _ [(7, vI ((i : Nat) : Int)), (6, .slice A2 i cc), (1, vI 12), (4, .slice none 0 0), (5, vP p'1 0)] _
 refine CE.seq (CE.seq (CE.region ?_))
 iterate 2 refine WL.det (op_move rfl) rfl rfl rfl ?_
 refine WL.det (op_lti rfl rfl) rfl rfl rfl ?_
 refine WL.end (NE.code ?_)
 rcases Bool.eq_false_or_eq_true (decide (((i : Nat) : Int) < (12 : Int))) with hb1 | hb1
 ·have hp1 := of_decide_eq_true hb1
  refine CE.cond_t rfl hb1 ?_
  refine CE.skip' (NE.code (CE.seq (CE.block (CE.region ?_))))
  iterate 2 refine WL.det (op_move rfl) rfl rfl rfl ?_
  refine WL.call (oc_call (vs := [vP p'1 0]) (cap := []) rfl rfl rfl Try.call61 (c_l01PlainN n c A b o xs at_ s p'1 ln hA hB (by omega) (by omega) (by omega) (by first | assumption | (intro h0; have hlt := Rng.lt r (by rw [bys_len, ln]; exact h0); omega)) w3 r3 (Rng.youngS r ((r.ext m1).ext m2) m3 (allge_cons ge1 allge_nil)))) rfl rfl (ltb rfl) ?_
  rintro _ w4 ⟨r_1, a1, s1, rfl, h1, h2, h3, h4, r4, m4⟩
  refine WL.op (op_buildSl (qs := [(0, vF r_1)]) (cells := #[vF r_1]) rfl Try.runUnderlying26 Try.sizeOf27 Try.zeroValue27 (by decide) (by decide) (by kernel_rfl)) rfl rfl (ltb rfl) ?_
  rintro _ w5 ⟨rfl, r5, m5, z2⟩
  refine WL.op (op_app (i := Try.t27) (m := 1) (bt := 4) (news := [vF r_1]) rfl rfl Try.underlying26 rfl rfl rfl rfl rfl (by decide) r5.rng rfl rfl ((ow1.mod m4 (altC (lL r1.lt m2.size) altN)).ext m5) (lT (lT m3.size m4.size) m5.size) (by omega) (by decide)) rfl rfl (ltb rfl) ?_
  rintro _ w6 ⟨A1, c1, b1, rfl, ow2, ge2, m6⟩
  refine WL.det (op_assign rfl) rfl rfl rfl ?_
  refine WL.end (NE.blk (NE.code (CE.region ?_)))
  refine WL.det (op_move rfl) rfl rfl rfl ?_
  refine WL.det (op_add (r := ((i + 1 : Nat) : Int)) rfl rfl (w_i64 (by omega) (by omega))) rfl rfl rfl ?_
  refine WL.det (op_assign rfl) rfl rfl rfl ?_
  refine WL.end ?_
  exact NE.again ((i + 1), a1, s1, A1, c1, (ys ++ [r_1])) (⟨rfl, rfl, rfl, rfl, rfl, trivial⟩) ⟨(by dsimp only; omega), (by dsimp only; omega), (by assumption), (by simp [hly]), (by exact W32.snoc hwy (by assumption)), (by exact bd_snoc hb9 (by assumption)), (Row.congr ((r4.ext m5).mod m6 (nC (lE (lL (lL r1.lt m2.size) ge2)) nN)) rfl), (Own.congr ow2 (fl_snoc _ _)), (((m3.then m4 ((aC (.inl (by simp)) aN))).nt m5).then m6 ((aC (.inr ge2) aN)))⟩ (by first | (dsimp only; omega) | omega)
 ·have hp1 := of_decide_eq_false hb1
  refine CE.cond_f rfl hb1 ?_
  refine CE.exit' (XE.exit_then (XE.exit_then (XE.exit_here (NE.code (CE.seq (CE.region ?_))))))
  refine WL.det (op_move rfl) rfl rfl rfl ?_
  refine WL.det (op_assign rfl) rfl rfl rfl ?_
  refine WL.end (NE.code (CE.ret' ?_))
  have ei : 12 = i := by omega
  subst ei
  obtain ⟨b2, hA1, r6, hq1⟩ := Own.out ow1 r3
  refine XE.leave1 Try.results18 rfl ?_
  refine ⟨ys, b2, cc, A2, rfl, ?_, ?_, hA1, ?_, r6, (own_ge hq1 ge1 (lT m1.size m2.size)), ((((Mod.refl [] w).nt m1).nt m2).then m3 ((aC (.inr ge1) aN)))⟩
  all_goals first | assumption | rfl | omega

theorem c_isQuietJ (n : Nat) (c : Nat) (b : Nat) (xs : List Nat) (j : Int) (ln : xs.length = n) (hj0 : 0 ≤ j) (hj : j < ((n : Nat) : Int)) (hn : n ≤ 1048576) (w : World) (r : Rng w b 0 (fl xs)) : Cl Try.prog 127 #[.agg #[vS b 0 n c, vI j]] w fun v w' => v = .bool (zeroF xs n) ∧ Mod [] w w' := by
 refine Cl.of Try.func127 Try.ntmps127 rfl rfl (ρ := [(0, .agg #[vS b 0 n c, vI j])]) rfl ?_
 refine CE.seq (CE.region ?_)
 refine WL.op (op_box (cs := [vS b 0 n c, vI j]) rfl rfl) rfl rfl (ltb rfl) ?_
 rintro _ w1 ⟨rfl, r1, m1, z1⟩
 refine WL.det (op_assign rfl) rfl rfl rfl ?_
 refine WL.end (NE.code (CE.seq ?_))
 refine CE.draw (fun | 1 => some (fun _ wA uA wB => ∃ (r0 : Nat), uA = vI ((r0 : Nat) : Int) ∧ (QI n xs (j).toNat r0) ∧ (r0 ≤ n) ∧ Mod [] wA wB) | _ => none) [0, 1, 2, 3] [4, 5, 6] [] (by kernel_rfl) (by kernel_rfl) ?_
 have md1 : Mod [] w1 w1.drew := (Mod.refl _ _).drew
 generalize w1.drew = w2 at md1 ⊢
 refine DR.det (i := 0) rfl rfl (by kernel_rfl) (.free rfl) rfl rfl (fun wD mD => op_loadA (i := 0) (cs := [vS b 0 n c, vI j]) rfl Try.isAgg60 Try.sizeOf60 ((r1.ext md1).ext mD).rng rfl rfl rfl) ?_
 refine DR.call (i := 1) (fun uA => ∃ (r0 : Nat), uA = vI ((r0 : Nat) : Int) ∧ (QI n xs (j).toNat r0) ∧ (r0 ≤ n)) rfl rfl (by kernel_rfl) (.free rfl) rfl (ltb rfl) (Exists.elim (QI.ex n xs (j).toNat) fun r9 h9 => ⟨_, r9, rfl, h9.1, h9.2⟩) (vs := [.func (.func 117) #[] #[], .agg #[vS b 0 n c, vI j]]) rfl (fun wD mD => oc_call (vs := [.agg #[vS b 0 n c, vI j]]) (cap := []) rfl rfl rfl Try.call117 (c_quietJ n c b xs j ln (by first | omega | exact GoodD.ge (by assumption) _ (by omega)) (by first | omega | exact GoodD.lt (by assumption) _ (by omega)) (by first | omega | exact Nat.le_trans (Nat.le_of_eq (stR_lens _ _)) (by first | omega | exact z1 _) | exact Nat.le_trans (Nat.le_of_eq (endL_lens _)) (by first | omega | exact z2 _) | exact zn1 _ | exact zn2 _ | exact hzR _ | exact hzL _) wD (((r.ext m1).ext md1).ext mD))) ?_ ?_
 ·rintro w1 _ w2 m1 ⟨r0, rfl, p0, p1, m2⟩; exact ⟨⟨r0, rfl, p0, p1⟩, m2⟩
 rintro _ ⟨r2, rfl, h1, h2⟩
 refine DR.det (i := 2) rfl rfl (by kernel_rfl) (.free rfl) rfl rfl (fun wD mD => op_fieldAddr (off' := 0) rfl Try.runUnderlying60 rfl rfl Try.sizeOf26 rfl) ?_
 refine DR.det (i := 3) rfl rfl (by kernel_rfl) (.free rfl) rfl rfl (fun wD mD => op_load1 (i := 0) rfl Try.isAgg26 ((r1.ext md1).ext mD).rng rfl rfl) ?_
 refine DR.done rfl ?_
 intro w3 m2
 refine WO.call rfl (.free rfl) rfl (ltb rfl) (oc_call (vs := [vS b 0 n c]) (cap := []) rfl rfl rfl Try.call118 (c_length32 n c (some ⟨b, 0, none⟩) w3)) ?_
 rintro _ _ ⟨rfl, rfl⟩
 refine WO.det (op_eqi rfl rfl) rfl (.free rfl) rfl rfl ?_
 refine WO.det (op_assign rfl) rfl (.free rfl) rfl rfl ?_
 refine WO.end (NE.code (CE.ret' ?_))
 refine XE.leave1 Try.results127 rfl ?_
 refine ⟨?_, ((((Mod.refl [] w).nt m1).nt md1).nt m2)⟩
 all_goals (have hq9 : QI n xs (j).toNat _ := (by assumption); rw [hq9.all (by omega)]; exact congrArg Value.bool (decide_eq_decide.2 (by omega)))

theorem c_areQuiet1 (n : Nat) (c : Nat) (b : Nat) (xs : List Nat) (j : Int) (p : Nat) (k : Nat) (vs : List Value) (ln : xs.length = n) (hj0 : 0 ≤ j) (hj : j < ((n : Nat) : Int)) (hn : n ≤ 1048576) (hk : k + 2 ≤ vs.length) (w : World) (q : Rng w p 0 (splice vs k [vS b 0 n c, vI j])) (r : Rng w b 0 (fl xs)) : Cl Try.prog 126 #[vP p k] w fun v w' => v = .bool (!zeroF xs n) ∧ Mod [] w w' := by
 refine Cl.of Try.func126 Try.ntmps126 rfl rfl (ρ := [(0, vP p k)]) rfl ?_
 refine CE.seq (CE.region ?_)
 refine WL.det (op_assign rfl) rfl rfl rfl ?_
 refine WL.end (NE.code (CE.seq (CE.region ?_)))
 refine WL.det (op_move rfl) rfl rfl rfl ?_
 refine WL.det (op_nilCheck rfl) rfl rfl rfl ?_
 refine WL.det (op_loadA (i := k) (cs := [vS b 0 n c, vI j]) rfl Try.isAgg60 Try.sizeOf60 q (Nat.zero_add _) (sub_take (i := 0) hk (lB rfl) rfl) rfl) rfl rfl rfl ?_
 refine WL.call (oc_call (vs := [.agg #[vS b 0 n c, vI j]]) (cap := []) rfl rfl rfl Try.call127 (c_isQuietJ n c b xs j ln (by first | omega | exact GoodD.ge (by assumption) _ (by omega)) (by first | omega | exact GoodD.lt (by assumption) _ (by omega)) (by first | omega | exact Nat.le_trans (Nat.le_of_eq (stR_lens _ _)) (by first | omega | exact z1 _) | exact Nat.le_trans (Nat.le_of_eq (endL_lens _)) (by first | omega | exact z2 _) | exact zn1 _ | exact zn2 _ | exact hzR _ | exact hzL _) w r)) rfl rfl (ltb rfl) ?_
 rintro _ w1 ⟨rfl, m1⟩
 refine WL.det (op_not rfl) rfl rfl rfl ?_
 refine WL.det (op_assign rfl) rfl rfl rfl ?_
 refine WL.end (NE.code (CE.ret' ?_))
 refine XE.leave1 Try.results126 rfl ?_
 refine ⟨?_, ((Mod.refl [] w).nt m1)⟩
 all_goals simp_all

theorem c_indexQ (GR : List RD) (GL : List RD) (bR : Nat) (PR : List BC) (loR : Nat) (bL : Nat) (PL : List BC) (loL : Nat) (e : Nat) (ce : Nat) (lDR : GR.length = 1) (lDL : GL.length = 1) (hzR : ∀ i, (GR.getD i RD.d).xs.length ≤ 1048576) (hzL : ∀ i, (GL.getD i RD.d).xs.length ≤ 1048576) (lPR : PR.length = 1) (lPL : PL.length = 1) (gR : GoodD GR 1) (gL : GoodD GL 1) (w : World) (rR : Rng w bR 0 (olc GR PR)) (rL : Rng w bL 0 (olc GL PL)) (rE : Rng w e 0 [vP bR 0, vP bL 0])  (FR : OF loR w GR PR) (FL : OF loL w GL PL) : Cl Try.prog 153 #[vS e 0 2 ce, .func (.func 126) #[] #[]] w fun v w' => ∃ (z : Int), v = vI z ∧ ((decide (0 ≤ z)) = !(zeroF (GR.getD 0 RD.d).xs (GR.getD 0 RD.d).xs.length && zeroF (GL.getD 0 RD.d).xs (GL.getD 0 RD.d).xs.length)) ∧ Mod [] w w' := by
 refine Cl.of Try.func153 Try.ntmps153 rfl rfl (ρ := [(0, vS e 0 2 ce), (1, .func (.func 126) #[] #[])]) rfl ?_
 refine CE.seq (CE.region ?_)
 refine WL.det (op_assign rfl) rfl rfl rfl ?_
 refine WL.end (NE.code (CE.seq (CE.seq (CE.region ?_))))
 refine WL.det (op_move rfl) rfl rfl rfl ?_
 refine WL.det (op_len rfl Try.runUnderlying97) rfl rfl rfl ?_
 refine WL.det (op_move rfl) rfl rfl rfl ?_
 refine WL.end (NE.code (CE.block ?_))
 refine CE.rounds 3 ?_
 refine RN.one (CE.seq (CE.region ?_))
 refine WL.det (op_lti rfl rfl) rfl rfl rfl ?_
 refine WL.end (NE.code (CE.seq ?_))
 refine CE.cond_t rfl rfl ?_
 refine CE.skip' (NE.code (CE.seq (CE.block (CE.seq (CE.region ?_)))))
 refine WL.det (op_move rfl) rfl rfl rfl ?_
 refine WL.det (op_assign rfl) rfl rfl rfl ?_
 refine WL.end (NE.code (CE.seq (CE.region ?_)))
 iterate 3 refine WL.det (op_move rfl) rfl rfl rfl ?_
 refine WL.det (op_indexSl (off' := 0) rfl rfl rfl Try.runUnderlying97 Try.sizeOf112 (by omega) (by omega) rfl) rfl rfl rfl ?_
 refine WL.det (op_load1 (i := 0) rfl Try.isAgg112 rE rfl rfl) rfl rfl rfl ?_
 refine WL.call (oc_call (vs := [vP bR 0]) (cap := []) rfl rfl rfl Try.call126 (c_areQuiet1 ((GR.getD 0 RD.d).xs.length) ((PR.getD 0 BC.d).c) ((PR.getD 0 BC.d).b) ((GR.getD 0 RD.d).xs) ((GR.getD 0 RD.d).at_) bR 0 (olc GR PR) rfl (by first | omega | exact GoodD.ge (by assumption) _ (by omega)) (by first | omega | exact GoodD.lt (by assumption) _ (by omega)) (by first | omega | exact Nat.le_trans (Nat.le_of_eq (stR_lens _ _)) (by first | omega | exact z1 _) | exact Nat.le_trans (Nat.le_of_eq (endL_lens _)) (by first | omega | exact z2 _) | exact zn1 _ | exact zn2 _ | exact hzR _ | exact hzL _) (olc_fit lDR lPR (show 0 < 1 by omega) rfl) w (Rng.congr rR (olc_part lDR lPR (show 0 < 1 by omega) rfl)) (OF.row FR 0 (Nat.lt_of_lt_of_eq (show 0 < 1 by omega) lDR.symm)).rng)) rfl rfl (ltb rfl) ?_
 rintro _ w1 ⟨rfl, m1⟩
 refine WL.end (NE.code ?_)
 rcases Bool.eq_false_or_eq_true (zeroF ((GR.getD 0 RD.d).xs) ((GR.getD 0 RD.d).xs.length)) with hb1 | hb1
 ·refine CE.cond_f rfl (bnot_t hb1) ?_
  refine CE.skip' (NE.blk (NE.code (CE.region ?_)))
  refine WL.det (op_add (r := 1) rfl rfl (by decide)) rfl rfl rfl ?_
  refine WL.det (op_move rfl) rfl rfl rfl ?_
  refine WL.end (NE.round (RN.one (CE.seq (CE.region ?_))))
  refine WL.det (op_lti rfl rfl) rfl rfl rfl ?_
  refine WL.end (NE.code (CE.seq ?_))
  refine CE.cond_t rfl rfl ?_
  refine CE.skip' (NE.code (CE.seq (CE.block (CE.seq (CE.region ?_)))))
  refine WL.det (op_move rfl) rfl rfl rfl ?_
  refine WL.det (op_assign rfl) rfl rfl rfl ?_
  refine WL.end (NE.code (CE.seq (CE.region ?_)))
  iterate 3 refine WL.det (op_move rfl) rfl rfl rfl ?_
  refine WL.det (op_indexSl (off' := 1) rfl rfl rfl Try.runUnderlying97 Try.sizeOf112 (by omega) (by omega) rfl) rfl rfl rfl ?_
  refine WL.det (op_load1 (i := 1) rfl Try.isAgg112 (rE.ext m1) rfl rfl) rfl rfl rfl ?_
  refine WL.call (oc_call (vs := [vP bL 0]) (cap := []) rfl rfl rfl Try.call126 (c_areQuiet1 ((GL.getD 0 RD.d).xs.length) ((PL.getD 0 BC.d).c) ((PL.getD 0 BC.d).b) ((GL.getD 0 RD.d).xs) ((GL.getD 0 RD.d).at_) bL 0 (olc GL PL) rfl (by first | omega | exact GoodD.ge (by assumption) _ (by omega)) (by first | omega | exact GoodD.lt (by assumption) _ (by omega)) (by first | omega | exact Nat.le_trans (Nat.le_of_eq (stR_lens _ _)) (by first | omega | exact z1 _) | exact Nat.le_trans (Nat.le_of_eq (endL_lens _)) (by first | omega | exact z2 _) | exact zn1 _ | exact zn2 _ | exact hzR _ | exact hzL _) (olc_fit lDL lPL (show 0 < 1 by omega) rfl) w1 (Rng.congr (rL.ext m1) (olc_part lDL lPL (show 0 < 1 by omega) rfl)) ((OF.row FL 0 (Nat.lt_of_lt_of_eq (show 0 < 1 by omega) lDL.symm)).ext m1).rng)) rfl rfl (ltb rfl) ?_
  rintro _ w2 ⟨rfl, m2⟩
  refine WL.end (NE.code ?_)
  rcases Bool.eq_false_or_eq_true (zeroF ((GL.getD 0 RD.d).xs) ((GL.getD 0 RD.d).xs.length)) with hb2 | hb2
  ·refine CE.cond_f rfl (bnot_t hb2) ?_
   refine CE.skip' (NE.blk (NE.code (CE.region ?_)))
   refine WL.det (op_add (r := 2) rfl rfl (by decide)) rfl rfl rfl ?_
   refine WL.det (op_move rfl) rfl rfl rfl ?_
   refine WL.end (NE.round (RN.one (CE.seq (CE.region ?_))))
   refine WL.det (op_lti rfl rfl) rfl rfl rfl ?_
   refine WL.end (NE.code (CE.seq ?_))
   refine CE.cond_f rfl rfl ?_
   refine CE.exit' (XE.exit_then (XE.exit_then (XE.exit_here (NE.code (CE.seq (CE.region ?_))))))
   refine WL.det (op_assign rfl) rfl rfl rfl ?_
   refine WL.end (NE.code (CE.ret' ?_))
   refine XE.leave1 Try.results153 rfl ?_
   refine ⟨(-1), rfl, ?_, (((Mod.refl [] w).nt m1).nt m2)⟩
   all_goals simp_all
  ·refine CE.cond_t rfl (bnot_f hb2) ?_
   refine CE.seq (CE.region ?_)
   refine WL.det (op_move rfl) rfl rfl rfl ?_
   refine WL.det (op_assign rfl) rfl rfl rfl ?_
   refine WL.end (NE.code (CE.ret' (XE.ret_blk (XE.ret_then (XE.ret_then (XE.ret_blk (XE.ret_then ?_)))))))
   refine XE.leave1 Try.results153 rfl ?_
   refine ⟨1, rfl, ?_, (((Mod.refl [] w).nt m1).nt m2)⟩
   all_goals simp_all
 ·refine CE.cond_t rfl (bnot_f hb1) ?_
  refine CE.seq (CE.region ?_)
  refine WL.det (op_move rfl) rfl rfl rfl ?_
  refine WL.det (op_assign rfl) rfl rfl rfl ?_
  refine WL.end (NE.code (CE.ret' (XE.ret_blk (XE.ret_then (XE.ret_then (XE.ret_blk (XE.ret_then ?_)))))))
  refine XE.leave1 Try.results153 rfl ?_
  refine ⟨0, rfl, ?_, ((Mod.refl [] w).nt m1)⟩
  all_goals simp_all

theorem c_containsQ (GR : List RD) (GL : List RD) (bR : Nat) (PR : List BC) (loR : Nat) (bL : Nat) (PL : List BC) (loL : Nat) (e : Nat) (ce : Nat) (lDR : GR.length = 1) (lDL : GL.length = 1) (hzR : ∀ i, (GR.getD i RD.d).xs.length ≤ 1048576) (hzL : ∀ i, (GL.getD i RD.d).xs.length ≤ 1048576) (lPR : PR.length = 1) (lPL : PL.length = 1) (gR : GoodD GR 1) (gL : GoodD GL 1) (w : World) (rR : Rng w bR 0 (olc GR PR)) (rL : Rng w bL 0 (olc GL PL)) (rE : Rng w e 0 [vP bR 0, vP bL 0])  (FR : OF loR w GR PR) (FL : OF loL w GL PL) : Cl Try.prog 125 #[vS e 0 2 ce, .func (.func 126) #[] #[]] w fun v w' => v = .bool (!(zeroF (GR.getD 0 RD.d).xs (GR.getD 0 RD.d).xs.length && zeroF (GL.getD 0 RD.d).xs (GL.getD 0 RD.d).xs.length)) ∧ Mod [] w w' := by
 refine Cl.of Try.func125 Try.ntmps125 rfl rfl (ρ := [(0, vS e 0 2 ce), (1, .func (.func 126) #[] #[])]) rfl ?_
 refine CE.seq (CE.region ?_)
 refine WL.det (op_assign rfl) rfl rfl rfl ?_
 refine WL.end (NE.code (CE.seq (CE.region ?_)))
 iterate 2 refine WL.det (op_move rfl) rfl rfl rfl ?_
 refine WL.call (oc_call (vs := [vS e 0 2 ce, .func (.func 126) #[] #[]]) (cap := []) rfl rfl rfl Try.call153 (c_indexQ GR GL bR PR loR bL PL loL e ce lDR lDL (by first | assumption | exact rd_small (by assumption) (by assumption) | exact markD_small (by first | assumption | exact rd_small (by assumption) (by assumption)) _) (by first | assumption | exact rd_small (by assumption) (by assumption) | exact markD_small (by first | assumption | exact rd_small (by assumption) (by assumption)) _) lPR lPL (by assumption) (by assumption) w rR rL rE FR FL)) rfl rfl (ltb rfl) ?_
 rintro _ w1 ⟨z1, rfl, h1, m1⟩
 refine WL.det (op_gei rfl rfl) rfl rfl rfl ?_
 refine WL.det (op_assign rfl) rfl rfl rfl ?_
 refine WL.end (NE.code (CE.ret' ?_))
 refine XE.leave1 Try.results125 rfl ?_
 refine ⟨?_, ((Mod.refl [] w).nt m1)⟩
 all_goals (exact congrArg Value.bool (by assumption))

theorem c_areQuietQ (GR : List RD) (GL : List RD) (bR : Nat) (PR : List BC) (loR : Nat) (bL : Nat) (PL : List BC) (loL : Nat) (e : Nat) (ce : Nat) (lDR : GR.length = 1) (lDL : GL.length = 1) (hzR : ∀ i, (GR.getD i RD.d).xs.length ≤ 1048576) (hzL : ∀ i, (GL.getD i RD.d).xs.length ≤ 1048576) (lPR : PR.length = 1) (lPL : PL.length = 1) (gR : GoodD GR 1) (gL : GoodD GL 1) (w : World) (rR : Rng w bR 0 (olc GR PR)) (rL : Rng w bL 0 (olc GL PL)) (rE : Rng w e 0 [vP bR 0, vP bL 0])  (FR : OF loR w GR PR) (FL : OF loL w GL PL) : Cl Try.prog 71 #[vS e 0 2 ce] w fun v w' => v = .bool (zeroF (GR.getD 0 RD.d).xs (GR.getD 0 RD.d).xs.length && zeroF (GL.getD 0 RD.d).xs (GL.getD 0 RD.d).xs.length) ∧ Mod [] w w' := by
 refine Cl.of Try.func71 Try.ntmps71 rfl rfl (ρ := [(0, vS e 0 2 ce)]) rfl ?_
 refine CE.seq (CE.region ?_)
 refine WL.det (op_assign rfl) rfl rfl rfl ?_
 refine WL.end (NE.code (CE.seq (CE.region ?_)))
 refine WL.det (op_move rfl) rfl rfl rfl ?_
 refine WL.call (oc_call (vs := [vS e 0 2 ce, .func (.func 126) #[] #[]]) (cap := []) rfl rfl rfl Try.call125 (c_containsQ GR GL bR PR loR bL PL loL e ce lDR lDL (by first | assumption | exact rd_small (by assumption) (by assumption) | exact markD_small (by first | assumption | exact rd_small (by assumption) (by assumption)) _) (by first | assumption | exact rd_small (by assumption) (by assumption) | exact markD_small (by first | assumption | exact rd_small (by assumption) (by assumption)) _) lPR lPL (by assumption) (by assumption) w rR rL rE FR FL)) rfl rfl (ltb rfl) ?_
 rintro _ w1 ⟨rfl, m1⟩
 refine WL.det (op_not rfl) rfl rfl rfl ?_
 refine WL.det (op_assign rfl) rfl rfl rfl ?_
 refine WL.end (NE.code (CE.ret' ?_))
 refine XE.leave1 Try.results71 rfl ?_
 refine ⟨?_, ((Mod.refl [] w).nt m1)⟩
 all_goals simp_all

theorem c_IsSilP1 (GR : List RD) (GL : List RD) (xS : List Nat) (cR : Nat) (bR : Nat) (PR : List BC) (loR : Nat) (cL : Nat) (bL : Nat) (PL : List BC) (loL : Nat) (cS : Nat) (bS : Nat) (k : Int) (kc0 : Nat) (kc1 : Nat) (kc2 : Nat) (ks0 : Nat) (ks1 : Nat) (op : Bool) (lo : Nat) (re : Nat) (sl : Nat) (lDR : GR.length = 1) (lDL : GL.length = 1) (lnS : xS.length = 0) (hzR : ∀ i, (GR.getD i RD.d).xs.length ≤ 1048576) (hzL : ∀ i, (GL.getD i RD.d).xs.length ≤ 1048576) (lPR : PR.length = 1) (lPL : PL.length = 1) (gR : GoodD GR 1) (gL : GoodD GL 1) (hpR : ∀ i, i < 1 → 0 < (GR.getD i RD.d).xs.length) (hpL : ∀ i, i < 1 → 0 < (GL.getD i RD.d).xs.length) (hv : vPipe 1 1 0 GR GL xS k kc0 kc1 kc2 ks0 ks1 lo re sl = true) (w : World) (rR : Rng w bR 0 (olc GR PR)) (rL : Rng w bL 0 (olc GL PL)) (rS : Rng w bS 0 (fl xS))  (FR : OF loR w GR PR) (FL : OF loL w GL PL) : Cl Try.prog 22 #[.agg #[vS bR 0 1 cR, vS bL 0 1 cL, vS bS 0 0 cS, vI k, vF kc0, vF kc1, vF kc2, vF ks0, vF ks1, .bool op, vF lo, vF re, vF sl]] w fun v w' => v = .tuple #[.bool (pipeSil 1 1 (PipeSt.mk GR GL ks0 ks1)), vI 0] ∧ Mod [] w w' := by
 have hs : 1 ≤ 1 ∧ 1 ≤ 3 ∧ 1 = 1 ∧ 0 + 1 = 1 := by omega
 refine Cl.of Try.func22 Try.ntmps22 rfl rfl (ρ := [(0, .agg #[vS bR 0 1 cR, vS bL 0 1 cL, vS bS 0 0 cS, vI k, vF kc0, vF kc1, vF kc2, vF ks0, vF ks1, .bool op, vF lo, vF re, vF sl])]) rfl ?_
 refine CE.seq (CE.region ?_)
 refine WL.op (op_box (cs := [vS bR 0 1 cR, vS bL 0 1 cL, vS bS 0 0 cS, vI k, vF kc0, vF kc1, vF kc2, vF ks0, vF ks1, .bool op, vF lo, vF re, vF sl]) rfl rfl) rfl rfl (ltb rfl) ?_
 rintro _ w1 ⟨rfl, r1, m1, z1⟩
 iterate 2 refine WL.det (op_assign rfl) rfl rfl rfl ?_
 refine WL.end (NE.code (CE.seq (CE.seq (CE.region ?_))))
 refine WL.det (op_loadA (i := 0) (cs := [vS bR 0 1 cR, vS bL 0 1 cL, vS bS 0 0 cS, vI k, vF kc0, vF kc1, vF kc2, vF ks0, vF ks1, .bool op, vF lo, vF re, vF sl]) rfl Try.isAgg33 Try.sizeOf33 r1.rng rfl rfl rfl) rfl rfl rfl ?_
 refine WL.call (oc_call (vs := [.agg #[vS bR 0 1 cR, vS bL 0 1 cL, vS bS 0 0 cS, vI k, vF kc0, vF kc1, vF kc2, vF ks0, vF ks1, .bool op, vF lo, vF re, vF sl]]) (cap := []) rfl rfl rfl Try.call44 (c_ValidPipeS 1 GR 1 GL 0 xS cR bR PR loR cL bL PL loL cS bS k kc0 kc1 kc2 ks0 ks1 op lo re sl lDR lDL lnS (by first | assumption | exact rd_small (by assumption) (by assumption) | exact markD_small (by first | assumption | exact rd_small (by assumption) (by assumption)) _) (by first | assumption | exact rd_small (by assumption) (by assumption) | exact markD_small (by first | assumption | exact rd_small (by assumption) (by assumption)) _) lPR lPL (by first | assumption | omega) (by first | assumption | omega) (by first | assumption | omega) (by omega) w1 (rR.ext m1) (rL.ext m1) (rS.ext m1) (FR.ext m1) (FL.ext m1))) rfl rfl (ltb rfl) ?_
 rintro _ w2 ⟨rfl, m2⟩
 refine WL.det (op_not rfl) rfl rfl rfl ?_
 refine WL.end (NE.code ?_)
 refine CE.cond_f rfl (bnot_t hv) ?_
 refine CE.skip' (NE.code (CE.seq (CE.region ?_)))
 refine WL.call (oc_call (vs := [vP w.heap.size 0]) (cap := []) rfl rfl rfl Try.call65 (c_rings1 cR bR cL bL cS bS k kc0 kc1 kc2 ks0 ks1 op lo re sl w.heap.size w2 (r1.ext m2).rng)) rfl rfl (ltb rfl) ?_
 rintro _ w3 ⟨b'1, c'1, rfl, r2, ge1, m3⟩
 refine WL.call (oc_call (vs := [vS b'1 0 2 c'1]) (cap := []) rfl rfl rfl Try.call71 (c_areQuietQ GR GL bR PR loR bL PL loL b'1 c'1 lDR lDL (by first | assumption | exact rd_small (by assumption) (by assumption) | exact markD_small (by first | assumption | exact rd_small (by assumption) (by assumption)) _) (by first | assumption | exact rd_small (by assumption) (by assumption) | exact markD_small (by first | assumption | exact rd_small (by assumption) (by assumption)) _) lPR lPL (by assumption) (by assumption) w3 (((rR.ext m1).ext m2).ext m3) (((rL.ext m1).ext m2).ext m3) r2.rng (((FR.ext m1).ext m2).ext m3) (((FL.ext m1).ext m2).ext m3))) rfl rfl (ltb rfl) ?_
 rintro _ w4 ⟨rfl, m4⟩
 refine WL.det (op_move rfl) rfl rfl rfl ?_
 rcases Bool.eq_false_or_eq_true ((zeroF (GR.getD 0 RD.d).xs (GR.getD 0 RD.d).xs.length && zeroF (GL.getD 0 RD.d).xs (GL.getD 0 RD.d).xs.length)) with hb1 | hb1
 ·refine WL.yes rfl rfl rfl (ltb rfl) rfl hb1 ?_
  refine WL.det (op_fieldAddr (off' := 3) rfl Try.runUnderlying33 rfl rfl Try.sizeOf31 rfl) rfl rfl rfl ?_
  refine WL.yes rfl rfl rfl (ltb rfl) rfl hb1 ?_
  refine WL.det (op_loadA (i := 3) (cs := [vI k, vF kc0, vF kc1, vF kc2, vF ks0, vF ks1]) rfl Try.isAgg31 Try.sizeOf31 (((r1.ext m2).ext m3).ext m4).rng rfl rfl rfl) rfl rfl rfl ?_
  refine WL.yes rfl rfl rfl (ltb rfl) rfl hb1 ?_
  refine WL.call (oc_call (vs := [.agg #[vI k, vF kc0, vF kc1, vF kc2, vF ks0, vF ks1]]) (cap := []) rfl rfl rfl Try.call67 (c_isStill k kc0 kc1 kc2 ks0 ks1 w4)) rfl rfl (ltb rfl) ?_
  rintro _ w5 ⟨rfl, m5⟩
  refine WL.det (op_pick_t rfl hb1 rfl) rfl rfl rfl ?_
  iterate 2 refine WL.det (op_assign rfl) rfl rfl rfl ?_
  refine WL.end (NE.code (CE.ret' ?_))
  refine XE.leaveT Try.results22 (res_tmp rfl (res_tmp rfl res_nil)) ?_
  refine ⟨?_, ((((((Mod.refl [] w).nt m1).nt m2).nt m3).nt m4).nt m5)⟩
  all_goals (simp only [pipeSil, zeroD, Bool.true_and]; simp_all)
 ·refine WL.no rfl rfl rfl (ltb rfl) rfl hb1 rfl (ltb rfl) ?_
  iterate 2 refine WL.no rfl rfl rfl (ltb rfl) rfl hb1 rfl (ltb rfl) ?_
  refine WL.det (op_pick_f rfl hb1 rfl) rfl rfl rfl ?_
  iterate 2 refine WL.det (op_assign rfl) rfl rfl rfl ?_
  refine WL.end (NE.code (CE.ret' ?_))
  refine XE.leaveT Try.results22 (res_tmp rfl (res_tmp rfl res_nil)) ?_
  refine ⟨?_, (((((Mod.refl [] w).nt m1).nt m2).nt m3).nt m4)⟩
  all_goals (simp only [pipeSil, zeroD, Bool.true_and]; simp_all)

end Go.Proofs.Ytnahhdnkbbdceaa
