/- Gains of drawn loops and tails. -/
import Derived.Test.YtemnjphnhmbddaaU9
set_option linter.unusedVariables false
set_option linter.unusedSimpArgs false
namespace Go.Proofs.Ytemnjphnhmbddaa

open Ieee
def glA (n m : Nat) : Nat := gF n (gT m)
def glB (n m : Nat) : Nat := gF n (fop .mul .f32 1073741824 (gT m))
theorem gl_bw {g : Nat} (h : g ≤ 1065353216) : Bw g 0 := by
  have e : wid .f32 = 4294967296 := by decide +kernel
  exact ⟨by omega, by unfold Bd; omega⟩
section
variable {n m : Nat}
theorem gl_eq (h1 : 1 ≤ n) (h2 : n ≤ 200) (h3 : 1 ≤ m) (h4 : m ≤ 5000) : fEq .f32 (glA n m) (glA n m) = true := by
  have h : glA n m ≤ 1065353216 := (gains_ok h1 h2 h3 h4).g1
  rw [fEq_self, Bw.nan (gl_bw h) (by omega)]; rfl
theorem gl_0 (h1 : 1 ≤ n) (h2 : n ≤ 200) (h3 : 1 ≤ m) (h4 : m ≤ 5000) : fGe .f32 (glA n m) 0 = true := by
  have h : glA n m ≤ 1065353216 := (gains_ok h1 h2 h3 h4).g1
  rw [fGe_pos (by omega) (by omega)]
  exact decide_eq_true (Nat.zero_le _)
theorem gl_1 (h1 : 1 ≤ n) (h2 : n ≤ 200) (h3 : 1 ≤ m) (h4 : m ≤ 5000) : fLe .f32 (glA n m) 1065353216 = true := by
  have h : glA n m ≤ 1065353216 := (gains_ok h1 h2 h3 h4).g1
  rw [fLe_pos (by omega) (by omega)]
  exact decide_eq_true h
theorem gl_2 (h1 : 1 ≤ n) (h2 : n ≤ 200) (h3 : 1 ≤ m) (h4 : m ≤ 5000) : fGe .f32 (glB n m) (glA n m) = true := by
  have g := gains_ok h1 h2 h3 h4
  have h : glA n m ≤ 1065353216 := g.g1
  have h' : glB n m ≤ 1065353216 := g.g2
  rw [fGe_pos (by omega) (by omega)]
  exact decide_eq_true g.le
theorem gl_num (h1 : 1 ≤ n) (h2 : n ≤ 200) (h3 : 1 ≤ m) (h4 : m ≤ 5000) : isNaN .f32 (fop .mul .f32 1073741824 (gT m)) = false := by
  have ht := tOk_all h3 h4
  simp only [tOk, Bool.and_eq_true, decide_eq_true_eq, beq_iff_eq] at ht
  obtain ⟨⟨⟨a, b⟩, c⟩, d, e⟩ := ht
  rw [← isNaN_wide]
  obtain ⟨k, q, hr, _⟩ := dread (b := wide (fop .mul .f32 1073741824 (gT m))) (by omega)
  cases hn : isNaN .f64 (wide (fop .mul .f32 1073741824 (gT m)))
  · rfl
  · obtain ⟨s, t, h⟩ := isNaN_iff.1 hn
    rw [h] at hr; cases hr
end
theorem w_one {u : Nat} (h : u < 1000000) : IntKind.i64.wrap ((1 : Int) + ((u : Nat) : Int)) = ((u + 1 : Nat) : Int) := by
  rw [w_i64 (by omega) (by omega)]; omega
theorem allEq_wq {a b c d x y z u : Int} (h0 : a = x) (h1 : b = y) (h2 : c = z) (h3 : d = u) (l0 : -4096 ≤ a ∧ a ≤ 4096) (l1 : -4096 ≤ b ∧ b ≤ 4096) (l2 : -4096 ≤ c ∧ c ≤ 4096) (l3 : -4096 ≤ d ∧ d ≤ 4096) : allEq [wq a, wq b, wq c, wq d] [wq x, wq y, wq z, wq u] 4 = true :=
  allEq_of4 (wq_fEq9 h0 l0.1 l0.2) (wq_fEq9 h1 l1.1 l1.2) (wq_fEq9 h2 l2.1 l2.2) (wq_fEq9 h3 l3.1 l3.2)
theorem outs_same {Lq : List Nat} {i : Nat} (h : ∀ j, j < 30 → PlQ (Lq.getD j 0)) (hi : i < 30) : fEq .f32 ((outs (fun j => Lq.getD j 0) 30).getD i 0) (Lq.getD i 0) = true := by
  have e : (outs (fun j => Lq.getD j 0) 30).getD i 0 = Lq.getD i 0 := by
    rw [List.getD_eq_getElem?_getD]
    unfold outs
    rw [List.getElem?_map, List.getElem?_range hi]; rfl
  rw [e, fEq_self, (h i hi).bw.nan (by omega)]; rfl

theorem c_iGainA (n : Nat) (m : Nat) (h1 : 1 ≤ n) (h2 : n ≤ 200) (h3 : 1 ≤ m) (h4 : m ≤ 5000) (w : World) : Cl Try.prog 14 #[vI ((n : Nat) : Int), vF (FloatKind.f32.nearest ((m : Nat) : Int))] w fun v w' => v = .tuple #[vF (glA n m), vI 0] ∧ Mod [] w w' := by
  have g := gains_ok h1 h2 h3 h4
  refine Cl.mono (c_iGainFor n (gT m) h1 (by omega) g.o1 g.n1 w) ?_
  rintro v w' ⟨y, rfl, h, hl, hm⟩
  have hb := gl_bw g.g1
  rw [Bw.of_cn h hb.2 hb.1 (by omega)]
  exact ⟨rfl, hm⟩
theorem c_sGainA (n : Nat) (m : Nat) (h1 : 1 ≤ n) (h2 : n ≤ 200) (h3 : 1 ≤ m) (h4 : m ≤ 5000) (w : World) : Cl Try.prog 15 #[vI ((n : Nat) : Int), vF (FloatKind.f32.nearest ((m : Nat) : Int))] w fun v w' => v = .tuple #[vF (glA n m), vI 0] ∧ Mod [] w w' := by
  have g := gains_ok h1 h2 h3 h4
  refine Cl.mono (c_sGainFor n (gT m) h1 (by omega) g.o1 g.n1 w) ?_
  rintro v w' ⟨y, rfl, h, hl, hm⟩
  have hb := gl_bw g.g1
  rw [Bw.of_cn h hb.2 hb.1 (by omega)]
  exact ⟨rfl, hm⟩
theorem c_iGainB (n : Nat) (m : Nat) (a : Nat) (ha : cn .f32 a = cn .f32 (fop .mul .f32 1073741824 (FloatKind.f32.nearest ((m : Nat) : Int)))) (h1 : 1 ≤ n) (h2 : n ≤ 200) (h3 : 1 ≤ m) (h4 : m ≤ 5000) (w : World) : Cl Try.prog 14 #[vI ((n : Nat) : Int), vF a] w fun v w' => v = .tuple #[vF (glB n m), vI 0] ∧ Mod [] w w' := by
  have g := gains_ok h1 h2 h3 h4
  have e : a = fop .mul .f32 1073741824 (gT m) := eq_of_cn ha (gl_num h1 h2 h3 h4)
  subst e
  refine Cl.mono (c_iGainFor n (fop .mul .f32 1073741824 (gT m)) h1 (by omega) g.o2 g.n2 w) ?_
  rintro v w' ⟨y, rfl, h, hl, hm⟩
  have hb := gl_bw g.g2
  rw [Bw.of_cn h hb.2 hb.1 (by omega)]
  exact ⟨rfl, hm⟩
end Go.Proofs.Ytemnjphnhmbddaa
