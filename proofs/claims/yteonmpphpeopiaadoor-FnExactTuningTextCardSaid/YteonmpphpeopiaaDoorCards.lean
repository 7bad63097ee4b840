/-
  DERIVED. GIVEN WITH THE SEED: THE CARDS: each row of YteonmpphpeopiaaDoorRows.lean that lists a variable, with what it lists TIED to the program's text (the seventh form; the later family's looks); each row that meets fmt, with fmt's text TOLD by the authors' own Lean function (tested against real Go, not proved from fmt's source: count such statements apart). THE CARD IS WHAT COUNTS. Prove the row's statement (the work); the ties are given (YteonmpphpeopiaaDoorTie.lean); close each card by the builder's one call (the guide's Derived/Test/ToyasCard.lean, 'card_holds'). Laid BY PROGRAM, IN A SANDBOX (cutbox-door.mjs). By AI agents, Wed Nov 11 2026. No macro, syntax, notation, axiom, sorry.
-/
import Derived.Test.YteonmpphpeopiaaDoorRows
import GoSem.ClaimSeven
namespace Go.Proofs.YteonmpphpeopiaaDoor
namespace Rows

/-- THE TIED CARD OF 'laws.FnExactTuningText'. -/
def fnExactTuningTextCard : Claim7 := { stood := { row := fnExactTuningTextRow, standIns := [], harness := (true, "ca4e419765c0e96e72ac3446c7140fec547581b716a3f5e68a81f0d7f5c9d10b"), looks := true }, kinds := [], alts := [], laidByText := true, laidKinds := [.data, .data, .data], laidTests := true, laidLooks := .later }
def FnExactTuningTextCardSaid : Prop := Claim7.holds Tryd.pinned (.plain (OpenSpec.ofChange fnExactTuningTextSpec)) fnExactTuningTextCard

/-- THE TIED CARD OF 'laws.FnExactReadFraction'. -/
def fnExactReadFractionCard : Claim7 := { stood := { row := fnExactReadFractionRow, standIns := [], harness := (true, "ca4e419765c0e96e72ac3446c7140fec547581b716a3f5e68a81f0d7f5c9d10b"), looks := true }, kinds := [], alts := [], laidByText := true, laidKinds := [.data, .data, .data, .sentinel, .sentinel], laidTests := true, laidLooks := .later }
def FnExactReadFractionCardSaid : Prop := Claim7.holds Tryd.pinned (.plain (OpenSpec.ofChange fnExactReadFractionSpec)) fnExactReadFractionCard

/-- THE SECOND FORM's CARD OF 'laws.FnExactTuningText'. -/
def fnExactTuningTextUptoCard : Claim7 := { stood := { row := fnExactTuningTextUptoRow, standIns := [], harness := (true, "ca4e419765c0e96e72ac3446c7140fec547581b716a3f5e68a81f0d7f5c9d10b"), looks := true }, kinds := [], alts := [], laidByText := true, laidKinds := [.data, .data, .data], laidTests := true, laidLooks := .later }
def FnExactTuningTextUptoCardSaid : Prop := Claim7.holds Tryd.pinned (.plain (OpenSpec.upto fnExactTuningTextSpec)) fnExactTuningTextUptoCard

/-- THE SECOND FORM's CARD OF 'laws.FnExactReadFraction'. -/
def fnExactReadFractionUptoCard : Claim7 := { stood := { row := fnExactReadFractionUptoRow, standIns := [], harness := (true, "ca4e419765c0e96e72ac3446c7140fec547581b716a3f5e68a81f0d7f5c9d10b"), looks := true }, kinds := [], alts := [], laidByText := true, laidKinds := [.data, .data, .data, .sentinel, .sentinel], laidTests := true, laidLooks := .later }
def FnExactReadFractionUptoCardSaid : Prop := Claim7.holds Tryd.pinned (.plain (OpenSpec.upto fnExactReadFractionSpec)) fnExactReadFractionUptoCard
end Rows
end Go.Proofs.YteonmpphpeopiaaDoor
