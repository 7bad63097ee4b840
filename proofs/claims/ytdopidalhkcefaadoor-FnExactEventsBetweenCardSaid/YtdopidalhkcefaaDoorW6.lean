/- Valid scores: the program. -/
import Derived.Test.YtdopidalhkcefaaDoorW5
set_option linter.unusedVariables false
set_option linter.unusedSimpArgs false
namespace Go.Proofs.YtdopidalhkcefaaDoor

theorem c_iValidS (ra : Nat) (ba : Nat) (oc : Nat) (nD : Nat) (bD : Nat) (esD : List Nat) (nI : Nat) (bI : Nat) (esI : List InR) (nE : Nat) (bE : Nat) (es : List EvR) (lnD : esD.length = nD) (lnI : esI.length = nI) (lnE : es.length = nE) (hnD : nD ≤ 1048576) (hnI : nI ≤ 1048576) (hnE : nE ≤ 1048576) (hS : ∀ i, (esI.getD i InR.d).name.size ≤ 9223372036854775807) (hW : ∀ i, EvW (es.getD i EvR.d)) (w : World) (rD : Rng w bD 0 (fl esD)) (rI : Rng w bI 0 (cat InR.cells esI)) (rE : Rng w bE 0 (cat EvR.cells es)) : Cl Tryd.prog 16 #[.agg #[vF ra, vF ba, vF oc, vS bD 0 nD nD, vS bI 0 nI nI, vS bE 0 nE nE]] w fun v w' => v = .bool (vScS ra ba oc esD nD esI nI es nE) ∧ Mod [] w w' := by
  refine (c_iValidS0 ra ba oc nD bD esD nI bI esI nE bE es lnD lnI lnE hnD hnI hnE hS hW w rD rI rE).mono ?_
  rintro v w' ⟨hv, md⟩
  rw [vScP_eq] at hv
  exact ⟨hv, md⟩

end Go.Proofs.YtdopidalhkcefaaDoor
