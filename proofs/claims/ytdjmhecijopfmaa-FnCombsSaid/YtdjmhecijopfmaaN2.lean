/- The rounds of the law on combs, for combs of 3 samples: computed. -/
import Derived.Test.YtdjmhecijopfmaaD2
set_option maxRecDepth 100000
namespace Go.Proofs.Ytdjmhecijopfmaa
theorem cb_2_0 : combOne (1 + 2) (gainE 0) = true := by decide +kernel
theorem cb_2_1 : combOne (1 + 2) (gainE 1) = true := by decide +kernel
theorem cb_2_2 : combOne (1 + 2) (gainE 2) = true := by decide +kernel
theorem cb_2_3 : combOne (1 + 2) (gainE 3) = true := by decide +kernel
theorem cb_2_4 : combOne (1 + 2) (gainE 4) = true := by decide +kernel
theorem cb_2_5 : combOne (1 + 2) (gainE 5) = true := by decide +kernel
theorem cb_2_6 : combOne (1 + 2) (gainE 6) = true := by decide +kernel
theorem cb_2_7 : combOne (1 + 2) (gainE 7) = true := by decide +kernel
theorem cb_2_8 : combOne (1 + 2) (gainE 8) = true := by decide +kernel
theorem cb_2_9 : combOne (1 + 2) (gainE 9) = true := by decide +kernel
theorem cb_2_10 : combOne (1 + 2) (gainE 10) = true := by decide +kernel
theorem cb_2_11 : combOne (1 + 2) (gainE 11) = true := by decide +kernel
theorem cb_2_12 : combOne (1 + 2) (gainE 12) = true := by decide +kernel
end Go.Proofs.Ytdjmhecijopfmaa
