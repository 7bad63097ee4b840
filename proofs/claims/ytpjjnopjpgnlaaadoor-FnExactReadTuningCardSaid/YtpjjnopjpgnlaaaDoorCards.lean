/-
  DERIVED. GIVEN WITH THE SEED: THE CARDS: each row of YtpjjnopjpgnlaaaDoorRows.lean that lists a variable, with what it lists TIED to the program's text (the seventh form; the later family's looks); each row that meets fmt, with fmt's text TOLD by the authors' own Lean function (tested against real Go, not proved from fmt's source: count such statements apart). THE CARD IS WHAT COUNTS. Prove the row's statement (the work); the ties are given (YtpjjnopjpgnlaaaDoorTie.lean); close each card by the builder's one call (the guide's Derived/Test/ToyasCard.lean, 'card_holds'). Laid BY PROGRAM, IN A SANDBOX (cutbox-door.mjs). By AI agents, Wed Nov 11 2026. No macro, syntax, notation, axiom, sorry.
-/
import Derived.Test.YtpjjnopjpgnlaaaDoorRows
import GoSem.ClaimSeven
namespace Go.Proofs.YtpjjnopjpgnlaaaDoor
namespace Rows

/-- THE TIED CARD OF 'laws.FnExactReadTuning'. -/
def fnExactReadTuningCard : Claim7 := { stood := { row := fnExactReadTuningRow, standIns := [], harness := (true, "1d64ff57c0ad73b6cd791263db1787cd4ae37709253033da1229865112d9be1a"), looks := true }, kinds := [], alts := [], laidByText := true, laidKinds := [.data, .data, .data, .data, .sentinel, .sentinel, .pinned], laidTests := true, laidLooks := .later }
def FnExactReadTuningCardSaid : Prop := Claim7.holds Tryd.pinned (.plain (OpenSpec.ofChange fnExactReadTuningSpec)) fnExactReadTuningCard

/-- THE SECOND FORM's CARD OF 'laws.FnExactReadTuning'. -/
def fnExactReadTuningUptoCard : Claim7 := { stood := { row := fnExactReadTuningUptoRow, standIns := [], harness := (true, "1d64ff57c0ad73b6cd791263db1787cd4ae37709253033da1229865112d9be1a"), looks := true }, kinds := [], alts := [], laidByText := true, laidKinds := [.data, .data, .data, .data, .sentinel, .sentinel, .pinned], laidTests := true, laidLooks := .later }
def FnExactReadTuningUptoCardSaid : Prop := Claim7.holds Tryd.pinned (.plain (OpenSpec.upto fnExactReadTuningSpec)) fnExactReadTuningUptoCard
end Rows
end Go.Proofs.YtpjjnopjpgnlaaaDoor
