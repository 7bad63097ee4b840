/- The rounds of the law on combs, for combs of 4 samples: computed. -/
import Derived.Test.YtdjmhecijopfmaaD2
set_option maxRecDepth 100000
namespace Go.Proofs.Ytdjmhecijopfmaa
theorem cb_3_0 : combOne (1 + 3) (gainE 0) = true := by decide +kernel
theorem cb_3_1 : combOne (1 + 3) (gainE 1) = true := by decide +kernel
theorem cb_3_2 : combOne (1 + 3) (gainE 2) = true := by decide +kernel
theorem cb_3_3 : combOne (1 + 3) (gainE 3) = true := by decide +kernel
theorem cb_3_4 : combOne (1 + 3) (gainE 4) = true := by decide +kernel
theorem cb_3_5 : combOne (1 + 3) (gainE 5) = true := by decide +kernel
theorem cb_3_6 : combOne (1 + 3) (gainE 6) = true := by decide +kernel
theorem cb_3_7 : combOne (1 + 3) (gainE 7) = true := by decide +kernel
theorem cb_3_8 : combOne (1 + 3) (gainE 8) = true := by decide +kernel
theorem cb_3_9 : combOne (1 + 3) (gainE 9) = true := by decide +kernel
theorem cb_3_10 : combOne (1 + 3) (gainE 10) = true := by decide +kernel
theorem cb_3_11 : combOne (1 + 3) (gainE 11) = true := by decide +kernel
theorem cb_3_12 : combOne (1 + 3) (gainE 12) = true := by decide +kernel
end Go.Proofs.Ytdjmhecijopfmaa
