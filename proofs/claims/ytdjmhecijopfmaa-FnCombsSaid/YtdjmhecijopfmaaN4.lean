/- The rounds of the law on combs, for combs of 5 samples: computed. -/
import Derived.Test.YtdjmhecijopfmaaD2
set_option maxRecDepth 100000
namespace Go.Proofs.Ytdjmhecijopfmaa
theorem cb_4_0 : combOne (1 + 4) (gainE 0) = true := by decide +kernel
theorem cb_4_1 : combOne (1 + 4) (gainE 1) = true := by decide +kernel
theorem cb_4_2 : combOne (1 + 4) (gainE 2) = true := by decide +kernel
theorem cb_4_3 : combOne (1 + 4) (gainE 3) = true := by decide +kernel
theorem cb_4_4 : combOne (1 + 4) (gainE 4) = true := by decide +kernel
theorem cb_4_5 : combOne (1 + 4) (gainE 5) = true := by decide +kernel
theorem cb_4_6 : combOne (1 + 4) (gainE 6) = true := by decide +kernel
theorem cb_4_7 : combOne (1 + 4) (gainE 7) = true := by decide +kernel
theorem cb_4_8 : combOne (1 + 4) (gainE 8) = true := by decide +kernel
theorem cb_4_9 : combOne (1 + 4) (gainE 9) = true := by decide +kernel
theorem cb_4_10 : combOne (1 + 4) (gainE 10) = true := by decide +kernel
theorem cb_4_11 : combOne (1 + 4) (gainE 11) = true := by decide +kernel
theorem cb_4_12 : combOne (1 + 4) (gainE 12) = true := by decide +kernel
end Go.Proofs.Ytdjmhecijopfmaa
