/- The gains that the law on mixing meets. -/
import Derived.Test.YtemnjphnhmbddaaU2
import Derived.Test.YtemnjphnhmbddaaF18
import Derived.Test.YtemnjphnhmbddaaF13
set_option linter.unusedVariables false
set_option linter.unusedSimpArgs false
namespace Go.Proofs.Ytemnjphnhmbddaa
open Ieee

theorem fGe_pos {a b : Nat} (ha : a < 2139095040) (hb : b < 2139095040) : fGe .f32 a b = decide (b ≤ a) := by
  unfold fGe
  rw [show FloatKind.f32.format.order a b = some (compare a b) from order_pos ha hb]
  rcases Nat.lt_trichotomy a b with c | c | c
  · rw [Std.compare_eq_lt.2 c, decide_eq_false (by omega)]; rfl
  · rw [c, Std.compare_self, decide_eq_true (Nat.le_refl _)]; rfl
  · rw [Std.compare_eq_gt.2 c, decide_eq_true (by omega)]; rfl
def gX (n : Nat) : Nat := fop .mul .f64 4619463459138379574 (FloatKind.f64.nearest ((n : Nat) : Int))
def gT (m : Nat) : Nat := FloatKind.f32.nearest ((m : Nat) : Int)
def tailOk (t : Nat) : Bool := fGe .f32 t 1065353216 && fLe .f32 t 1232348160
theorem gX_t : (List.range 200).all (fun n => decide (4616189618054758400 ≤ gX (n + 1)) && decide (gX (n + 1) ≤ 4656722014701092864)) = true := by decide +kernel
theorem gX_ok {n : Nat} (h1 : 1 ≤ n) (h2 : n ≤ 200) : 4616189618054758400 ≤ gX n ∧ gX n ≤ 4656722014701092864 := by
  have := List.all_eq_true.1 gX_t (n - 1) (List.mem_range.2 (by omega))
  rw [Bool.and_eq_true, show n - 1 + 1 = n by omega] at this
  exact ⟨of_decide_eq_true this.1, of_decide_eq_true this.2⟩
def tOk (m : Nat) : Bool := decide (4607182418800017408 ≤ wide (gT m)) && decide (wide (gT m) ≤ 4665729213955833856) && (wide (fop .mul .f32 1073741824 (gT m)) == wide (gT m) + 4503599627370496) && (tailOk (gT m) && tailOk (fop .mul .f32 1073741824 (gT m)))
theorem tOk_0 : (List.range 500).all (fun j => tOk (500 * 0 + j + 1)) = true := by decide +kernel
theorem tOk_1 : (List.range 500).all (fun j => tOk (500 * 1 + j + 1)) = true := by decide +kernel
theorem tOk_2 : (List.range 500).all (fun j => tOk (500 * 2 + j + 1)) = true := by decide +kernel
theorem tOk_3 : (List.range 500).all (fun j => tOk (500 * 3 + j + 1)) = true := by decide +kernel
theorem tOk_4 : (List.range 500).all (fun j => tOk (500 * 4 + j + 1)) = true := by decide +kernel
theorem tOk_5 : (List.range 500).all (fun j => tOk (500 * 5 + j + 1)) = true := by decide +kernel
theorem tOk_6 : (List.range 500).all (fun j => tOk (500 * 6 + j + 1)) = true := by decide +kernel
theorem tOk_7 : (List.range 500).all (fun j => tOk (500 * 7 + j + 1)) = true := by decide +kernel
theorem tOk_8 : (List.range 500).all (fun j => tOk (500 * 8 + j + 1)) = true := by decide +kernel
theorem tOk_9 : (List.range 500).all (fun j => tOk (500 * 9 + j + 1)) = true := by decide +kernel
theorem tOk_all {m : Nat} (h1 : 1 ≤ m) (h2 : m ≤ 5000) : tOk m = true := by
  have key : ∀ k, (List.range 500).all (fun j => tOk (500 * k + j + 1)) = true → 500 * k < m → m ≤ 500 * k + 500 → tOk m = true := fun k h a b => by
    have := List.all_eq_true.1 h (m - 1 - 500 * k) (List.mem_range.2 (by omega))
    rwa [show 500 * k + (m - 1 - 500 * k) + 1 = m by omega] at this
  rcases (show (500 * 0 < m ∧ m ≤ 500 * 0 + 500) ∨ (500 * 1 < m ∧ m ≤ 500 * 1 + 500) ∨ (500 * 2 < m ∧ m ≤ 500 * 2 + 500) ∨ (500 * 3 < m ∧ m ≤ 500 * 3 + 500) ∨ (500 * 4 < m ∧ m ≤ 500 * 4 + 500) ∨ (500 * 5 < m ∧ m ≤ 500 * 5 + 500) ∨ (500 * 6 < m ∧ m ≤ 500 * 6 + 500) ∨ (500 * 7 < m ∧ m ≤ 500 * 7 + 500) ∨ (500 * 8 < m ∧ m ≤ 500 * 8 + 500) ∨ (500 * 9 < m ∧ m ≤ 500 * 9 + 500) by omega) with h | h | h | h | h | h | h | h | h | h
  · exact key 0 tOk_0 h.1 h.2
  · exact key 1 tOk_1 h.1 h.2
  · exact key 2 tOk_2 h.1 h.2
  · exact key 3 tOk_3 h.1 h.2
  · exact key 4 tOk_4 h.1 h.2
  · exact key 5 tOk_5 h.1 h.2
  · exact key 6 tOk_6 h.1 h.2
  · exact key 7 tOk_7 h.1 h.2
  · exact key 8 tOk_8 h.1 h.2
  · exact key 9 tOk_9 h.1 h.2
theorem hi_dR {K : Nat} (hK : K = 1120) : dR (2 ^ K) < 9218868437227405312 := by subst hK; decide +kernel
/-- what the law asks of the gains of a tail and of the tail that is twice as long -/
theorem gain_law {n t t2 : Nat} (hX : 4616189618054758400 ≤ gX n ∧ gX n ≤ 4656722014701092864) (hT : 4607182418800017408 ≤ wide t ∧ wide t ≤ 4665729213955833856) (h2 : wide t2 = wide t + 4503599627370496) :
    gF n t ≤ 1065353216 ∧ gF n t2 ≤ 1065353216 ∧ gF n t ≤ gF n t2 ∧ (fGt .f64 (gE n t) 4607182418800017408 = false → Narrows (gS (gE n t)) (gN (gE n t))) ∧ (fGt .f64 (gE n t2) 4607182418800017408 = false → Narrows (gS (gE n t2)) (gN (gE n t2))) := by
  obtain ⟨L, hL⟩ : ∃ L : Nat, L = 1061 := ⟨_, rfl⟩
  obtain ⟨K, hK⟩ : ∃ K : Nat, K = 1074 := ⟨_, rfl⟩
  obtain ⟨J, hJ⟩ : ∃ J : Nat, J = 1120 := ⟨_, rfl⟩
  obtain ⟨W, w1, w2, w3, w4⟩ := quo_d hL hX hT h2
  have e1 : gE n t = dR (2 * W) := w1
  have e2 : gE n t2 = dR W := w2
  have hp : (2 : Nat) ^ 52 = 4503599627370496 := by decide +kernel
  have hW : 4503599627370496 ≤ W := by
    rw [← hp]
    exact Nat.le_trans (Nat.pow_le_pow_right (by omega) (by omega)) w3
  have hl : W.log2 ≤ 1900 := by
    have h9 := (log2_bounds (n := W) (by omega)).1
    rcases Nat.lt_or_ge 1900 W.log2 with c | c
    · have := Nat.pow_le_pow_right (show 0 < 2 by omega) (show L + 50 ≤ W.log2 by omega)
      omega
    · exact c
  have hd := dR_half hW hl
  have hlt : 2 * W ≤ 2 ^ J := by
    have := Nat.pow_le_pow_right (show 0 < 2 by omega) (show L + 50 + 1 ≤ J by omega)
    rw [Nat.pow_succ] at this
    omega
  have bx : dR (2 * W) < 9218868437227405312 := Nat.lt_of_le_of_lt (dR_mono hlt) (hi_dR hJ)
  have by_ : dR W < 9218868437227405312 := Nat.lt_of_le_of_lt (dR_mono (show W ≤ 2 ^ J by omega)) (hi_dR hJ)
  have ly : 2 ^ L ≤ dV (dR W) := by rw [← low_dV hL]; exact dV_le (dR_mono w3)
  have lx : 2 ^ L ≤ dV (dR (2 * W)) := by omega
  have hyx : dR W ≤ dR (2 * W) := dR_mono (by omega)
  unfold gF
  rw [e1, e2, gt_d bx (by omega), gt_d by_ (by omega)]
  generalize dR (2 * W) = x at *
  generalize dR W = y at *
  have nx : x ≤ 4607182418800017408 → gN x ≤ 1065353216 := fun h => gN_le hK hL h lx
  have ny : y ≤ 4607182418800017408 → gN y ≤ 1065353216 := fun h => gN_le hK hL h ly
  refine ⟨?_, ?_, ?_, fun h => gN_narrow hK hL (by have := of_decide_eq_false h; omega) lx, fun h => gN_narrow hK hL (by have := of_decide_eq_false h; omega) ly⟩
  · by_cases h : 4607182418800017408 < x
    · rw [if_pos (decide_eq_true h)]; omega
    · rw [if_neg (by simpa using h)]; exact nx (by omega)
  · by_cases h : 4607182418800017408 < y
    · rw [if_pos (decide_eq_true h)]; omega
    · rw [if_neg (by simpa using h)]; exact ny (by omega)
  · by_cases h : 4607182418800017408 < x
    · rw [if_pos (decide_eq_true h)]; omega
    · rw [if_neg (by simpa using h), if_neg (by simp; omega)]
      exact rungOf_mono (dV_le (gS_mono hK hL (by omega) (by omega) ly hd))
/-- the gains of short loops, the tail being 100 -/
def gOk (n : Nat) : Bool := decide (gF n 1120403456 % 2147483648 ≤ 1065353216) && decide (gF n 1120403456 < wid .f32)
theorem w100 : 4607182418800017408 ≤ wide 1120403456 ∧ wide 1120403456 ≤ 4665729213955833856 ∧ wide (fop .mul .f32 1073741824 1120403456) = wide 1120403456 + 4503599627370496 := by decide +kernel
theorem gain100 {n : Nat} (h1 : 1 ≤ n) (h2 : n ≤ 200) : Bw (gF n 1120403456) 0 ∧ (fGt .f64 (gE n 1120403456) 4607182418800017408 = false → Narrows (gS (gE n 1120403456)) (gN (gE n 1120403456))) := by
  obtain ⟨a, _, _, b, _⟩ := gain_law (gX_ok h1 h2) ⟨w100.1, w100.2.1⟩ w100.2.2
  have e : wid .f32 = 4294967296 := by decide +kernel
  refine ⟨⟨by omega, ?_⟩, b⟩
  unfold Bd; omega
structure GOk (n t t2 : Nat) : Prop where
  o1 : tailOk t = true
  o2 : tailOk t2 = true
  g1 : gF n t ≤ 1065353216
  g2 : gF n t2 ≤ 1065353216
  le : gF n t ≤ gF n t2
  n1 : fGt .f64 (gE n t) 4607182418800017408 = false → Narrows (gS (gE n t)) (gN (gE n t))
  n2 : fGt .f64 (gE n t2) 4607182418800017408 = false → Narrows (gS (gE n t2)) (gN (gE n t2))
theorem gains_ok {n m : Nat} (h1 : 1 ≤ n) (h2 : n ≤ 200) (h3 : 1 ≤ m) (h4 : m ≤ 5000) : GOk n (gT m) (fop .mul .f32 1073741824 (gT m)) := by
  have ht := tOk_all h3 h4
  simp only [tOk, Bool.and_eq_true, decide_eq_true_eq, beq_iff_eq] at ht
  obtain ⟨⟨⟨a, b⟩, c⟩, d, e⟩ := ht
  obtain ⟨g1, g2, g3, g4, g5⟩ := gain_law (gX_ok h1 h2) ⟨a, b⟩ c
  exact ⟨d, e, g1, g2, g3, g4, g5⟩
end Go.Proofs.Ytemnjphnhmbddaa
