/- What the listed table of the library holds, read off the card's premise. -/
import Derived.Test.YteonmpphpeopiaaDoorR9
import Derived.Test.YteonmpphpeopiaaDoorRows
import Derived.LaidSub
import Derived.Lib.LaidTab
set_option linter.unusedVariables false
namespace Go.Proofs.YteonmpphpeopiaaDoor
open Go

theorem tabAt_of {W : World} (h : Lib.TabIs Tryd.prog W "math/bits.deBruijn64tab" .u8 (Lib.deBruijn64tab.map fun k : Nat => (k : Int))) : LibT W LB 0 [] := fun j hj => by
  rw [World.var?_cell (g := 6) (by kernel_rfl) h j, List.getElem?_toArray, List.getElem?_map, List.getElem?_map, List.getElem?_eq_getElem hj, List.getD_eq_getElem?_getD, List.getElem?_eq_getElem hj]
  rfl
theorem libT_of {W : World} (hL : laidMetH Tryd.prog Rows.fnExactTuningTextRow.laid W) : LibT W LB 0 [] := by
  have h1 := ((laidMetH_iff.1 hL).1).filter fun x => x.1 == "math/bits.deBruijn64tab"
  have e1 : ((Rows.fnExactTuningTextRow.laid.filter fun x => x.2.handleName?.isNone).filter fun x => x.1 == "math/bits.deBruijn64tab") = [("math/bits.deBruijn64tab", Lib.tabData .u8 (Lib.deBruijn64tab.map fun k : Nat => (k : Int)))] := by kernel_rfl
  rw [e1] at h1
  exact tabAt_of (Lib.tabIs_of_head (g := 6) (by kernel_rfl) (by kernel_rfl) Tryd.underlying123 Tryd.underlying5 (by kernel_rfl) (by kernel_rfl) h1)
end Go.Proofs.YteonmpphpeopiaaDoor
