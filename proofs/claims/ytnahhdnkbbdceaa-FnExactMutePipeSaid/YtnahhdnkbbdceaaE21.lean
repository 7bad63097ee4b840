/- The engine of this claim's walks, twenty-first part: rings that get new memory. -/
import Derived.Test.YtnahhdnkbbdceaaE18
namespace Go.Proofs.Ytnahhdnkbbdceaa

section
variable {D : List RD} {P : List BC} {n i k : Nat} {lo : Nat} {w w' : World} {S : List Nat}
theorem zip_set2 (hl : D.length = n) (hp : P.length = n) (a : RD) (q : BC) : (D.zip P).set i (a, q) = (D.set i a).zip (P.set i q) := by
  apply List.ext_getElem
  · simp
  · intro j hj hj'
    by_cases e : i = j
    · subst e; simp
    · simp [List.getElem_set_ne e]
theorem olc_renew {xs' : List Nat} {at' : Int} {b c m : Nat} (hl : D.length = n) (hp : P.length = n) (hi : i < n) (hk : k = i * 2) (hn : xs'.length = m) : splice (olc D P) k [vS b 0 m c, vI at'] = olc (D.set i ⟨xs', at'⟩) (P.set i ⟨b, c⟩) := by
  subst hk; subst hn
  unfold olc
  rw [← zip_set2 hl hp]
  exact cat_set (f := olf) olf_len (zip_len hl hp) hi (⟨xs', at'⟩, ⟨b, c⟩)
theorem OF.renew {xs' : List Nat} {a : Int} {b c : Nat} (h : OF lo w D P) (hl : D.length = n) (hp : P.length = n) (hi : i < n) (m : Mod S w w') (hS : ∀ j, j < n → (P.getD j BC.d).b ∉ S) (r : Row w' b 0 (fl xs')) (hb : w.heap.size ≤ b) (hlo : lo ≤ w.heap.size) : OF lo w' (D.set i ⟨xs', a⟩) (P.set i ⟨b, c⟩) := by
  have gP : ∀ j, (P.set i (⟨b, c⟩ : BC)).getD j BC.d = if i = j ∧ j < n then ⟨b, c⟩ else P.getD j BC.d := fun j => by
    by_cases e : i = j
    · subst e; simp [List.getD_eq_getElem?_getD, hp, hi]
    · simp [List.getD_eq_getElem?_getD, List.getElem?_set_ne e, e]
  have gD : ∀ j, (D.set i (⟨xs', a⟩ : RD)).getD j RD.d = if i = j ∧ j < n then ⟨xs', a⟩ else D.getD j RD.d := fun j => by
    by_cases e : i = j
    · subst e; simp [List.getD_eq_getElem?_getD, hl, hi]
    · simp [List.getD_eq_getElem?_getD, List.getElem?_set_ne e, e]
  have lt : ∀ j, j < n → (P.getD j BC.d).b < w.heap.size := fun j hj => h.lt (by omega)
  refine ⟨fun j hj => ?_, fun j hj => ?_, fun j q hj hq hjq => ?_⟩
  · rw [gP]; split
    · exact Nat.le_trans hlo hb
    · exact h.ge j (by simpa using hj)
  · have hj' : j < n := by simpa [hl] using hj
    rw [gP, gD]; split
    · exact r
    · exact (h.row j (by omega)).mod m (hS j hj')
  · have hj' : j < n := by simpa [hl] using hj
    have hq' : q < n := by simpa [hl] using hq
    rw [gP, gP]
    split
    · split
      · rename_i e1 e2; omega
      · have := lt q hq'; show b ≠ _; omega
    · split
      · have := lt j hj'; show _ ≠ b; omega
      · exact h.ne j q (by omega) (by omega) hjq
theorem set_ne {b c' c : Nat} {j : Nat} (hp : P.length = n) (h : j < n → (P.getD j BC.d).b ≠ c) (hb : b ≠ c) (hj : j < n) : ((P.set i ⟨b, c'⟩).getD j BC.d).b ≠ c := by
  by_cases e : i = j
  · subst e
    have : (P.set i (⟨b, c'⟩ : BC)).getD i BC.d = ⟨b, c'⟩ := by simp [List.getD_eq_getElem?_getD, hp, hj]
    rw [this]; exact hb
  · have : (P.set i (⟨b, c'⟩ : BC)).getD j BC.d = P.getD j BC.d := by simp only [List.getD_eq_getElem?_getD, List.getElem?_set_ne e]
    rw [this]; exact h hj
end
end Go.Proofs.Ytnahhdnkbbdceaa
