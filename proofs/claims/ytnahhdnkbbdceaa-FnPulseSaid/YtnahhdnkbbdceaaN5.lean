/- What the law on the silence of pipes draws; when a pipe of one section is silent. -/
import Derived.Test.YtnahhdnkbbdceaaN1
import Derived.Test.YtnahhdnkbbdceaaD1
import Derived.Test.YtnahhdnkbbdceaaS3
import Derived.Test.YtnahhdnkbbdceaaE17
set_option linter.unusedVariables false
set_option linter.unusedSimpArgs false
set_option maxRecDepth 100000
set_option maxHeartbeats 8000000
namespace Go.Proofs.Ytnahhdnkbbdceaa

theorem bys_len (xs : List Nat) : (bys xs).length = xs.length := by
  unfold bys; induction xs with
  | nil => rfl
  | cons x xs ih => simp [cat] at ih ⊢; omega
theorem rng0 {n b o p : Nat} {xs : List Nat} {w w' : World} (ln : xs.length = n) (hne : 0 < n → b ≠ p) (h : Rng w b o (bys xs)) (m : Mod [p] w w') : Rng w' b o (bys xs) := by
  intro i v hv
  by_cases h0 : 0 < n
  · exact h.mod m (by simp [hne h0]) i v hv
  · have e : xs = [] := List.length_eq_zero_iff.1 (by omega)
    subst e; simp [bys, cat] at hv

theorem QI.ex (n : Nat) (xs : List Nat) (i : Nat) : ∃ r, QI n xs i r ∧ r ≤ n := by
  have key : ∀ e, e ≤ n → (∀ j, 1 ≤ j → j ≤ e → fEq .f32 (xs.getD ((i + n - j) % n) 0) 0 = true) ∨ ∃ r, r < e ∧ QI n xs i r := by
    intro e
    induction e with
    | zero => intro _; exact .inl fun j h1 h2 => absurd h1 (by omega)
    | succ e ih =>
      intro he
      rcases ih (by omega) with h | ⟨r, h1, h2⟩
      · cases hb : fEq .f32 (xs.getD ((i + n - (e + 1)) % n) 0) 0
        · exact .inr ⟨e, by omega, QI.of h fun _ => hb⟩
        · exact .inl (QI.step h hb)
      · exact .inr ⟨r, by omega, h2⟩
  rcases key n (Nat.le_refl _) with h | ⟨r, h1, h2⟩
  · exact ⟨n, QI.of h fun h3 => absurd h3 (by omega), Nat.le_refl _⟩
  · exact ⟨r, h2, by omega⟩
def plainW (u : Nat) : Nat := fop .quo .f32 (FloatKind.f32.nearest (((u : Nat) : Int) - 128)) 1115684864
/-- the law's pipe -/
def LX (c0 c1 : Nat) (z : PipeSt) : Prop := ∃ n, LawP n c0 c1 ∧ PW n z
section
variable {c0 c1 : Nat} {op : Bool} {z z1 z2 : PipeSt} {m : Nat}
theorem LX.at (h : LX c0 c1 z) (f : Nat → Nat) (q : Nat) : LX c0 c1 (zAt c0 c1 op z f q) := by
  obtain ⟨n, a, b⟩ := h
  exact ⟨n, a, b.at q⟩
theorem LX.lR (h : LX c0 c1 z) : z.R.length = 1 := by obtain ⟨n, a, b⟩ := h; exact b.lR
theorem LX.lL (h : LX c0 c1 z) : z.L.length = 1 := by obtain ⟨n, a, b⟩ := h; exact b.lL
end

theorem c_pickB (n : Nat) (c : Nat) (A : Option Addr) (b : Nat) (o : Nat) (xs : List Nat) (at_ : Nat) (s : Nat) (p : Nat) (top : Nat) (ln : xs.length = n) (hA : 0 < n → A = some ⟨b, o, none⟩) (hB : ∀ i, xs.getD i 0 < 256) (hn : n ≤ 4611686018427387904) (ha : at_ ≤ 4611686018427387100) (hs : s < 18446744073709551616) (ht : 200 < top) (ht2 : top ≤ 2147483648) (nbp : 0 < n → b ≠ p) (w : World) (q : Row w p 0 [.slice A n c, vI ((at_ : Nat) : Int), .int .u64 ((s : Nat) : Int)]) (r : Rng w b o (bys xs)) : Cl Try.prog 54 #[vP p 0, vI ((top : Nat) : Int)] w fun v w' => ∃ (u : Nat) (s2 : Nat), v = vI ((u : Nat) : Int) ∧ (u < top) ∧ (s2 < 18446744073709551616) ∧ Row w' p 0 [.slice A n c, vI ((at_ + 1 + 1 : Nat) : Int), .int .u64 ((s2 : Nat) : Int)] ∧ Mod [p] w w' := by
 refine Cl.of Try.func54 Try.ntmps54 rfl rfl (ρ := [(0, vP p 0), (1, vI ((top : Nat) : Int))]) rfl ?_
 refine CE.seq (CE.region ?_)
 refine WD (op_assign rfl) rfl ?_
 refine WL.end (NE.code (CE.seq (CE.seq (CE.region ?_))))
 refine WD (op_move rfl) rfl ?_
 refine WD (op_lei rfl rfl) rfl ?_
 refine WL.end (NE.code ?_)
 refine CE.cond_f rfl (decide_eq_false (by omega)) ?_
 refine CE.skip' (NE.code (CE.seq (CE.region ?_)))
 refine WD (op_move rfl) rfl ?_
 refine WL.call (oc_call (vs := [vP p 0]) (cap := []) rfl rfl rfl Try.call107 (c_next n c A b o xs at_ s p ln hA hB (by omega) (by omega) (by omega) w q r)) rfl rfl (ltb rfl) ?_
 rintro _ w1 ⟨vv1, s1, rfl, h1, h2, r1, m1⟩
 refine WD (op_assign rfl) rfl ?_
 refine WL.end (NE.code (CE.seq (CE.seq (CE.region ?_))))
 refine WD (op_move rfl) rfl ?_
 refine WD (op_gti rfl rfl) rfl ?_
 refine WL.end (NE.code ?_)
 refine CE.cond_t rfl (decide_eq_true (by omega)) ?_
 refine CE.region ?_
 refine WD (op_move rfl) rfl ?_
 refine WD (op_mul (r := ((vv1 * 256 : Nat) : Int)) rfl rfl (w_i64 (by omega) (by omega))) rfl ?_
 refine WD (op_move rfl) rfl ?_
 refine WL.call (oc_call (vs := [vP p 0]) (cap := []) rfl rfl rfl Try.call107 (c_next n c A b o xs (at_ + 1) s1 p ln hA hB (by omega) (by omega) (by omega) w1 r1 (rng0 ln nbp r m1))) rfl rfl (ltb rfl) ?_
 rintro _ w2 ⟨vv2, s2, rfl, h3, h4, r2, m2⟩
 refine WD (op_add (r := ((vv1 * 256 + vv2 : Nat) : Int)) rfl rfl (w_i64 (by omega) (by omega))) rfl ?_
 refine WD (op_assign rfl) rfl ?_
 refine WL.end (NE.code (CE.seq (CE.region ?_)))
 iterate 2 refine WD (op_move rfl) rfl ?_
 have hm1 : (vv1 * 256 + vv2) % top < top := Nat.mod_lt _ (by omega)
 refine WD (op_rem (r := (((vv1 * 256 + vv2) % top : Nat) : Int)) rfl rfl (by omega) rfl) rfl ?_
 refine WD (op_assign rfl) rfl ?_
 refine WL.end (NE.code (CE.ret' ?_))
 refine XE.leave1 Try.results54 rfl ?_
 refine ⟨((vv1 * 256 + vv2) % top), s2, rfl, ?_, ?_, (Row.congr r2 ?_), (((Mod.refl [p] w).then m1 ((aC (.inl (by simp)) aN))).then m2 ((aC (.inl (by simp)) aN)))⟩
 all_goals first | assumption | omega | rfl

end Go.Proofs.Ytnahhdnkbbdceaa

/- What giving a pipe another reed does. -/
set_option linter.unusedVariables false
set_option linter.unusedSimpArgs false
namespace Go.Proofs.Ytnahhdnkbbdceaa

end Go.Proofs.Ytnahhdnkbbdceaa

/- The pipes of the law on silence. -/
set_option linter.unusedVariables false
set_option linter.unusedSimpArgs false
set_option maxRecDepth 100000
set_option maxHeartbeats 8000000
namespace Go.Proofs.Ytnahhdnkbbdceaa

theorem c_sOnePoleP (x : Nat) (lx : x < wid .f32) (w : World) : Cl Try.prog 56 #[vF x] w fun v w' => ∃ (r_ : Nat), v = .agg #[vI 1, vF r_, vF x, vF 0, vF 0, vF 0] ∧ (cn .f32 r_ = cn .f32 (fop .sub .f32 1065353216 x)) ∧ (r_ < wid .f32) ∧ Mod [] w w' := by
 refine Cl.of Try.func56 Try.ntmps56 rfl rfl (ρ := [(0, vF x)]) rfl ?_
 refine CE.seq (CE.region ?_)
 refine WL.op (op_alloc (cs := [vI 0, vF 0, vF 0, vF 0, vF 0, vF 0]) Try.zeroValue31 rfl) rfl rfl (ltb rfl) ?_
 rintro _ w1 ⟨rfl, r1, m1, z1⟩
 refine WL.end (NE.code (CE.seq (CE.region ?_)))
 refine WD (op_move rfl) rfl ?_
 refine WL.op (op_farith (e := (fop .sub .f32 1065353216 x)) (.inr (.inl rfl)) rfl rfl rfl rfl rfl) rfl rfl (ltb rfl) ?_
 rintro _ w2 ⟨⟨f1, rfl, hf1, lf1⟩, m2⟩
 refine WD (op_move rfl) rfl ?_
 refine WD (op_build (qs := [(0, vF f1), (1, vF x), (2, vF 0)]) (cells := #[vF f1, vF x, vF 0]) rfl (by kernel_rfl)) rfl ?_
 refine WD (op_build (qs := [(0, vI 1), (1, .agg #[vF f1, vF x, vF 0])]) (cells := #[vI 1, vF f1, vF x, vF 0, vF 0, vF 0]) rfl (by kernel_rfl)) rfl ?_
 refine WL.op0 (op_store (i := 0) (cs := [vI 1, vF f1, vF x, vF 0, vF 0, vF 0]) rfl rfl rfl Try.sizeOf31 rfl (r1.ext m2) rfl (lB rfl) rfl) rfl rfl ?_
 rintro _ w3 ⟨r2, m3, z2⟩
 have r3 : Row w3 w.heap.size 0 [vI 1, vF f1, vF x, vF 0, vF 0, vF 0] := Row.congr r2 rfl
 refine WL.end (NE.code (CE.ret' ?_))
 refine XE.leaveC Try.results56 (res_agg (cs := [vI 1, vF f1, vF x, vF 0, vF 0, vF 0]) rfl Try.isAgg31 Try.sizeOf31 r3.rng rfl res_nil) ?_
 refine ⟨f1, rfl, ?_, lf1, ((((Mod.refl [] w).nt m1).nt m2).then m3 ((aC (.inr lR) aN)))⟩
 all_goals simp_all

end Go.Proofs.Ytnahhdnkbbdceaa

/- New pipes: the program. -/
set_option linter.unusedVariables false
set_option linter.unusedSimpArgs false
set_option maxRecDepth 100000
set_option maxHeartbeats 8000000
namespace Go.Proofs.Ytnahhdnkbbdceaa

end Go.Proofs.Ytnahhdnkbbdceaa
