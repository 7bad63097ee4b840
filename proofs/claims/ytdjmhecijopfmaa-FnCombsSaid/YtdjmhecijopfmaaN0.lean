/- The rounds of the law on combs, for combs of 1 samples: computed. -/
import Derived.Test.YtdjmhecijopfmaaD2
set_option maxRecDepth 100000
namespace Go.Proofs.Ytdjmhecijopfmaa
theorem cb_0_0 : combOne (1 + 0) (gainE 0) = true := by decide +kernel
theorem cb_0_1 : combOne (1 + 0) (gainE 1) = true := by decide +kernel
theorem cb_0_2 : combOne (1 + 0) (gainE 2) = true := by decide +kernel
theorem cb_0_3 : combOne (1 + 0) (gainE 3) = true := by decide +kernel
theorem cb_0_4 : combOne (1 + 0) (gainE 4) = true := by decide +kernel
theorem cb_0_5 : combOne (1 + 0) (gainE 5) = true := by decide +kernel
theorem cb_0_6 : combOne (1 + 0) (gainE 6) = true := by decide +kernel
theorem cb_0_7 : combOne (1 + 0) (gainE 7) = true := by decide +kernel
theorem cb_0_8 : combOne (1 + 0) (gainE 8) = true := by decide +kernel
theorem cb_0_9 : combOne (1 + 0) (gainE 9) = true := by decide +kernel
theorem cb_0_10 : combOne (1 + 0) (gainE 10) = true := by decide +kernel
theorem cb_0_11 : combOne (1 + 0) (gainE 11) = true := by decide +kernel
theorem cb_0_12 : combOne (1 + 0) (gainE 12) = true := by decide +kernel
end Go.Proofs.Ytdjmhecijopfmaa
