/- The law on tunings that are read from texts, for whatever comes in. -/
import Derived.Test.YtpjjnopjpgnlaaaDoorLG1
import Derived.Test.YtpjjnopjpgnlaaaDoorE14
set_option linter.unusedVariables false
namespace Go.Proofs.YtpjjnopjpgnlaaaDoor

theorem lawM_law_read (w : World) (T2 : LibR w LC 0 []) (T : LibT w LB 0 []) (v0 : Value) (h0 : Cells w [isS] [v0]) : Cl Tryd.prog 3 #[v0] w fun v w' => v = .bool true ∧ Mod [] w w' := by
  obtain ⟨u0_0, r0_0, e0, ⟨s, rfl, hsm⟩, k0_0⟩ := Cells.cons h0
  obtain rfl := Cells.nil k0_0
  obtain rfl : v0 = _ := by simpa using e0
  by_cases h1 : s.size ≤ 1048576
  · cases hv : okS s
    · exact law_read_no s h1 hv w T2 T
    · exact law_read s h1 hv w T2 T
  · exact law_read_over s (by omega) w

end Go.Proofs.YtpjjnopjpgnlaaaDoor
