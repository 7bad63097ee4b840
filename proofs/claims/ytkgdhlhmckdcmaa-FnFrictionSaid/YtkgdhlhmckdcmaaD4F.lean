/- The plain parts of the law on friction. -/
import Derived.Test.YtkgdhlhmckdcmaaD3F
import Derived.Test.YtkgdhlhmckdcmaaF13
set_option linter.unusedVariables false
set_option linter.unusedSimpArgs false
set_option maxRecDepth 100000
namespace Go.Proofs.Ytkgdhlhmckdcmaa

theorem fric_eq (s d : Nat) : fricF s d = frT (absF (fop .mul .f32 s d)) := by unfold fricF frT; rfl
def q16B (q : Nat) : Bool := decide (w16 q < 2139095040) && decide (w16 q ≤ 1082130432)
theorem q16_ok : ∀ q, q < 64 → q16B q = true := by decide +kernel
theorem sign_ok : ∀ u, u < 257 → (fLt .f32 (plainW u) 0 == (plainW u / 2147483648 % 2 == 1)) = true := by decide +kernel
theorem tabD_ok : ∀ j, j < 257 → decide (tabD j % 2147483648 ≤ 1073741824) = true := by decide +kernel
theorem nan_small {x : Nat} (h : x < 2139095040) : isNaN .f32 x = false := by
  rw [isNaN32, Nat.mod_eq_of_lt (by omega)]
  simp; omega
theorem q16_of {q c : Nat} (hq : q < 64) (h : cn .f32 c = cn .f32 (w16 q)) : c = w16 q ∧ c ≤ 1082130432 := by
  have k := q16_ok q hq
  simp only [q16B, Bool.and_eq_true, decide_eq_true_eq] at k
  have e := eq_of_cn h (nan_small k.1)
  exact ⟨e, by rw [e]; exact k.2⟩
/-- the second difference is not smaller -/
theorem far_plus {d q c : Nat} (hd : PlW d) (hq : q < 64) (h : cn .f32 c = cn .f32 (w16 q)) (hs : fLt .f32 d 0 = false) : d % 2147483648 ≤ fop .add .f32 d c % 2147483648 ∧ fop .add .f32 d c % 2147483648 ≤ 1086324736 := by
  obtain ⟨e, hc⟩ := q16_of hq h
  obtain ⟨u, hu, rfl⟩ := id hd
  have k := sign_ok u hu
  rw [hs, beq_iff_eq] at k
  exact far_add hd.le (by omega) (by rw [← k, Nat.div_eq_of_lt (show c < 2147483648 by omega)]; rfl)
theorem far_minus {d q c : Nat} (hd : PlW d) (hq : q < 64) (h : cn .f32 c = cn .f32 (w16 q)) (hs : fLt .f32 d 0 = true) : d % 2147483648 ≤ fop .sub .f32 d c % 2147483648 ∧ fop .sub .f32 d c % 2147483648 ≤ 1086324736 := by
  obtain ⟨e, hc⟩ := q16_of hq h
  obtain ⟨u, hu, rfl⟩ := id hd
  have k := sign_ok u hu
  rw [hs, beq_iff_eq] at k
  exact far_sub hd.le (by omega) (by rw [← k, Nat.div_eq_of_lt (show c < 2147483648 by omega)]; rfl)
theorem fr_num {p d : Nat} (hp : PlW p) (hd : d % 2147483648 ≤ 1086324736) : isNaN .f32 (fricF p d) = false := by
  rw [fric_eq]; exact nan_small (fr_one hp.le hd).2.2
theorem tabs_same {p : Nat} {xs ys : List Nat} (hx : ∀ j, j < 257 → cn .f32 (xs.getD j 0) = cn .f32 (fricF p (tabD j))) (hy : ∀ j, j < 257 → cn .f32 (ys.getD j 0) = cn .f32 (fricF p (tabD j))) (hp : PlW p) : allEq xs ys 257 = true := allEq_of fun j hj => by
  have k := of_decide_eq_true (tabD_ok j hj)
  have hn := fr_num hp (d := tabD j) (by omega)
  rw [eq_of_cn (hx j hj) hn, eq_of_cn (hy j hj) hn, fEq_self, hn]; rfl
theorem law_even {p d : Nat} (hp : PlW p) (hd : PlW d) : fEq .f32 (fricF p d) (fricF p (Op.negFloat .f32 d)) = true := by
  have h2 := hd.le
  rw [fric_eq, fric_eq, fr_even hp.le (by omega), fEq_self, ← fric_eq, fr_num hp (by omega)]; rfl
theorem law_self {p d : Nat} (hp : PlW p) (hd : PlW d) : fEq .f32 (fricF p d) (fricF p d) = true := by
  have h2 := hd.le
  rw [fEq_self, fr_num hp (by omega)]; rfl
theorem law_one {p d : Nat} (hp : PlW p) (hd : PlW d) : fGt .f32 (fricF p d) 1065353216 = false ∧ fLe .f32 (fricF p d) 0 = false := by
  have h2 := hd.le
  rw [fric_eq]
  exact ⟨(fr_one hp.le (by omega)).1, (fr_one hp.le (by omega)).2.1⟩
theorem law_less {p d e : Nat} (hp : PlW p) (h : d % 2147483648 ≤ e % 2147483648 ∧ e % 2147483648 ≤ 1086324736) : fGt .f32 (fricF p e) (fricF p d) = false := by
  rw [fric_eq, fric_eq]; exact fr_less hp.le h.1 h.2
theorem law_still {p : Nat} (hp : PlW p) : fEq .f32 (fricF p 0) 1065353216 = true := by
  have h1 : absF (fop .mul .f32 p 0) = 0 := by
    obtain ⟨K, hK⟩ : ∃ K : Nat, K = 776 := ⟨_, rfl⟩
    have e := mul_word hK (x := p) (y := 0) (by have := hp.le; omega) (by omega)
    rw [e]
    have e2 : rungOf (rungVal (p % 2147483648) * rungVal (0 % 2147483648) * 2 ^ K) = 0 := by
      rw [show rungVal (0 % 2147483648) = 0 from rfl, Nat.mul_zero, Nat.zero_mul]; rfl
    rw [e2]
    exact word_mod32 _ (by omega)
  rw [fric_eq, h1, frT_zero]; decide +kernel
def jetB (u : Nat) : Bool := (fGe .f32 (jetF (plainW u)) 3212836864 && fLe .f32 (jetF (plainW u)) 1065353216) && fEq .f32 (jetF (plainW u)) (Op.negFloat .f32 (jetF (Op.negFloat .f32 (plainW u))))
theorem jet_a : ∀ u, u < 100 → jetB u = true := by decide +kernel
theorem jet_b : ∀ u, u < 100 → jetB (100 + u) = true := by decide +kernel
theorem jet_c : ∀ u, u < 57 → jetB (200 + u) = true := by decide +kernel
theorem jet_ok {d : Nat} (h : PlW d) : (fGe .f32 (jetF d) 3212836864 = true ∧ fLe .f32 (jetF d) 1065353216 = true) ∧ fEq .f32 (jetF d) (Op.negFloat .f32 (jetF (Op.negFloat .f32 d))) = true := by
  obtain ⟨u, hu, rfl⟩ := h
  have k : jetB u = true := by
    rcases Nat.lt_or_ge u 100 with c | c
    · exact jet_a u c
    · rcases Nat.lt_or_ge u 200 with c2 | c2
      · have := jet_b (u - 100) (by omega)
        rwa [show 100 + (u - 100) = u by omega] at this
      · have := jet_c (u - 200) (by omega)
        rwa [show 200 + (u - 200) = u by omega] at this
  simp only [jetB, Bool.and_eq_true] at k
  exact k
end Go.Proofs.Ytkgdhlhmckdcmaa
