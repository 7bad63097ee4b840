/- The rounds of the law on combs, for combs of 2 samples: computed. -/
import Derived.Test.YtdjmhecijopfmaaD2
set_option maxRecDepth 100000
namespace Go.Proofs.Ytdjmhecijopfmaa
theorem cb_1_0 : combOne (1 + 1) (gainE 0) = true := by decide +kernel
theorem cb_1_1 : combOne (1 + 1) (gainE 1) = true := by decide +kernel
theorem cb_1_2 : combOne (1 + 1) (gainE 2) = true := by decide +kernel
theorem cb_1_3 : combOne (1 + 1) (gainE 3) = true := by decide +kernel
theorem cb_1_4 : combOne (1 + 1) (gainE 4) = true := by decide +kernel
theorem cb_1_5 : combOne (1 + 1) (gainE 5) = true := by decide +kernel
theorem cb_1_6 : combOne (1 + 1) (gainE 6) = true := by decide +kernel
theorem cb_1_7 : combOne (1 + 1) (gainE 7) = true := by decide +kernel
theorem cb_1_8 : combOne (1 + 1) (gainE 8) = true := by decide +kernel
theorem cb_1_9 : combOne (1 + 1) (gainE 9) = true := by decide +kernel
theorem cb_1_10 : combOne (1 + 1) (gainE 10) = true := by decide +kernel
theorem cb_1_11 : combOne (1 + 1) (gainE 11) = true := by decide +kernel
theorem cb_1_12 : combOne (1 + 1) (gainE 12) = true := by decide +kernel
end Go.Proofs.Ytdjmhecijopfmaa
