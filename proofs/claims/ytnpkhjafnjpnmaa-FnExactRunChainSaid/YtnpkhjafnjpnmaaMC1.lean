/- The law on chains, for whatever comes in. -/
import Derived.Test.YtnpkhjafnjpnmaaLC1a
import Derived.Test.YtnpkhjafnjpnmaaLC1b
set_option linter.unusedVariables false
namespace Go.Proofs.Ytnpkhjafnjpnmaa

theorem lawM_C1 (w : World) (v0 : Value) (cs1 : Array Value) (h0 : Cells w [isSl [isI .i64, isF .f32, isF .f32, isF .f32, isF .f32, isF .f32]] [v0]) (h1 : Cells w (List.replicate 16 (isF .f32)) cs1.toList) : Cl Try.prog 6 #[v0, .agg cs1] w fun v w' => v = .bool true ∧ Mod [] w w' := by
  obtain ⟨u0_0, r0_0, e0, s0_0, k0_0⟩ := Cells.cons h0
  obtain rfl := Cells.nil k0_0
  obtain ⟨A, n, c, b, o, es, rfl, hA, hnn, hcc, hzz, ln, r, ok⟩ := isSl_recs FiR.of s0_0
  obtain rfl : v0 = _ := by simpa using e0
  obtain ⟨bs, e1, lb, wb⟩ := Cells.floats 16 h1
  rw [agg_of (l := fl bs) e1]
  have hW : ∀ i, (es.getD i FiR.d).s0 < wid .f32 ∧ (es.getD i FiR.d).s1 < wid .f32 := fun i => getD_all ok ⟨by decide +kernel, by decide +kernel⟩ i
  have uR : n ≤ 9223372036854775807 := Nat.le_trans hnn hcc
  by_cases hT : 1048576 < n
  · exact law_chain_over n c A b o es bs (by first | assumption | omega) (by first | assumption | omega) (by first | assumption | omega) (by first | assumption | omega) (by first | assumption | omega) (by first | assumption | omega) w r
  by_cases h0 : n = 0
  · subst h0
    exact law_chain0 c A b o es bs (by first | assumption | omega) (by first | assumption | omega) (by first | assumption | omega) (by first | assumption | omega) w r
  cases hv : vFils es n
  · exact law_chain_bad n c A b o es bs (by first | assumption | omega) (by first | assumption | omega) (by first | assumption | omega) (by first | assumption | omega) (by first | assumption | omega) (by first | assumption | omega) w r
  · by_cases h6 : 6 < n
    · exact law_chain_lim n c A b o es bs (by first | assumption | omega) (by first | assumption | omega) (by first | assumption | omega) (by first | assumption | omega) (by first | assumption | omega) (by first | assumption | omega) (by first | assumption | omega) w r
    · exact law_chain n c A b o es bs _ _ (by first | assumption | omega) (by first | assumption | omega) (by first | assumption | omega) (by first | assumption | omega) (by first | assumption | omega) (by first | assumption | omega) (by first | assumption | omega) (by first | assumption | omega) (by first | assumption | omega) rfl rfl (chF_len ln (Nat.le_refl _)) w r

end Go.Proofs.Ytnpkhjafnjpnmaa
