/-
  DERIVED. GIVEN WITH THE SEED: THE CARDS: each row of YtdopidalhkcefaaDoorRows.lean that lists a variable, with what it lists TIED to the program's text (the seventh form; the later family's looks); each row that meets fmt, with fmt's text TOLD by the authors' own Lean function (tested against real Go, not proved from fmt's source: count such statements apart). THE CARD IS WHAT COUNTS. Prove the row's statement (the work); the ties are given (YtdopidalhkcefaaDoorTie.lean); close each card by the builder's one call (the guide's Derived/Test/ToyasCard.lean, 'card_holds'). Laid BY PROGRAM, IN A SANDBOX (cutbox-door.mjs). By AI agents, Wed Nov 11 2026. No macro, syntax, notation, axiom, sorry.
-/
import Derived.Test.YtdopidalhkcefaaDoorRows
import GoSem.ClaimSeven
namespace Go.Proofs.YtdopidalhkcefaaDoor
namespace Rows

/-- THE TIED CARD OF 'laws.FnExactValidInstrument'. -/
def fnExactValidInstrumentCard : Claim7 := { stood := { row := fnExactValidInstrumentRow, standIns := [], harness := (true, "43174e73a4928ac1d3074685850013c0e3c2bae2a408e3b7eb05f031f147b162"), looks := false }, kinds := [], alts := [], laidByText := true, laidKinds := [.data, .pinned], laidTests := true, laidLooks := .later }
def FnExactValidInstrumentCardSaid : Prop := Claim7.holds Tryd.pinned (.plain (OpenSpec.ofChange fnExactValidInstrumentSpec)) fnExactValidInstrumentCard

/-- THE TIED CARD OF 'laws.FnExactValidScore'. -/
def fnExactValidScoreCard : Claim7 := { stood := { row := fnExactValidScoreRow, standIns := [], harness := (true, "43174e73a4928ac1d3074685850013c0e3c2bae2a408e3b7eb05f031f147b162"), looks := false }, kinds := [], alts := [], laidByText := true, laidKinds := [.data, .pinned], laidTests := true, laidLooks := .later }
def FnExactValidScoreCardSaid : Prop := Claim7.holds Tryd.pinned (.plain (OpenSpec.ofChange fnExactValidScoreSpec)) fnExactValidScoreCard

/-- THE TIED CARD OF 'laws.FnExactNotesOf'. -/
def fnExactNotesOfCard : Claim7 := { stood := { row := fnExactNotesOfRow, standIns := [], harness := (true, "43174e73a4928ac1d3074685850013c0e3c2bae2a408e3b7eb05f031f147b162"), looks := false }, kinds := [], alts := [], laidByText := true, laidKinds := [.data, .pinned], laidTests := true, laidLooks := .later }
def FnExactNotesOfCardSaid : Prop := Claim7.holds Tryd.pinned (.plain (OpenSpec.ofChange fnExactNotesOfSpec)) fnExactNotesOfCard

/-- THE TIED CARD OF 'laws.FnExactEndOfScore'. -/
def fnExactEndOfScoreCard : Claim7 := { stood := { row := fnExactEndOfScoreRow, standIns := [], harness := (true, "43174e73a4928ac1d3074685850013c0e3c2bae2a408e3b7eb05f031f147b162"), looks := false }, kinds := [], alts := [], laidByText := true, laidKinds := [.data, .pinned], laidTests := true, laidLooks := .later }
def FnExactEndOfScoreCardSaid : Prop := Claim7.holds Tryd.pinned (.plain (OpenSpec.ofChange fnExactEndOfScoreSpec)) fnExactEndOfScoreCard

/-- THE TIED CARD OF 'laws.FnExactMostAtOnce'. -/
def fnExactMostAtOnceCard : Claim7 := { stood := { row := fnExactMostAtOnceRow, standIns := [], harness := (true, "43174e73a4928ac1d3074685850013c0e3c2bae2a408e3b7eb05f031f147b162"), looks := false }, kinds := [], alts := [], laidByText := true, laidKinds := [.data, .pinned], laidTests := true, laidLooks := .later }
def FnExactMostAtOnceCardSaid : Prop := Claim7.holds Tryd.pinned (.plain (OpenSpec.ofChange fnExactMostAtOnceSpec)) fnExactMostAtOnceCard

/-- THE TIED CARD OF 'laws.FnExactEventsBetween'. -/
def fnExactEventsBetweenCard : Claim7 := { stood := { row := fnExactEventsBetweenRow, standIns := [], harness := (true, "43174e73a4928ac1d3074685850013c0e3c2bae2a408e3b7eb05f031f147b162"), looks := false }, kinds := [], alts := [], laidByText := true, laidKinds := [.data, .pinned], laidTests := true, laidLooks := .later }
def FnExactEventsBetweenCardSaid : Prop := Claim7.holds Tryd.pinned (.plain (OpenSpec.ofChange fnExactEventsBetweenSpec)) fnExactEventsBetweenCard

/-- THE SECOND FORM's CARD OF 'laws.FnExactValidInstrument'. -/
def fnExactValidInstrumentUptoCard : Claim7 := { stood := { row := fnExactValidInstrumentUptoRow, standIns := [], harness := (true, "43174e73a4928ac1d3074685850013c0e3c2bae2a408e3b7eb05f031f147b162"), looks := false }, kinds := [], alts := [], laidByText := true, laidKinds := [.data, .pinned], laidTests := true, laidLooks := .later }
def FnExactValidInstrumentUptoCardSaid : Prop := Claim7.holds Tryd.pinned (.plain (OpenSpec.upto fnExactValidInstrumentSpec)) fnExactValidInstrumentUptoCard

/-- THE SECOND FORM's CARD OF 'laws.FnExactValidScore'. -/
def fnExactValidScoreUptoCard : Claim7 := { stood := { row := fnExactValidScoreUptoRow, standIns := [], harness := (true, "43174e73a4928ac1d3074685850013c0e3c2bae2a408e3b7eb05f031f147b162"), looks := false }, kinds := [], alts := [], laidByText := true, laidKinds := [.data, .pinned], laidTests := true, laidLooks := .later }
def FnExactValidScoreUptoCardSaid : Prop := Claim7.holds Tryd.pinned (.plain (OpenSpec.upto fnExactValidScoreSpec)) fnExactValidScoreUptoCard

/-- THE SECOND FORM's CARD OF 'laws.FnExactNotesOf'. -/
def fnExactNotesOfUptoCard : Claim7 := { stood := { row := fnExactNotesOfUptoRow, standIns := [], harness := (true, "43174e73a4928ac1d3074685850013c0e3c2bae2a408e3b7eb05f031f147b162"), looks := false }, kinds := [], alts := [], laidByText := true, laidKinds := [.data, .pinned], laidTests := true, laidLooks := .later }
def FnExactNotesOfUptoCardSaid : Prop := Claim7.holds Tryd.pinned (.plain (OpenSpec.upto fnExactNotesOfSpec)) fnExactNotesOfUptoCard

/-- THE SECOND FORM's CARD OF 'laws.FnExactEndOfScore'. -/
def fnExactEndOfScoreUptoCard : Claim7 := { stood := { row := fnExactEndOfScoreUptoRow, standIns := [], harness := (true, "43174e73a4928ac1d3074685850013c0e3c2bae2a408e3b7eb05f031f147b162"), looks := false }, kinds := [], alts := [], laidByText := true, laidKinds := [.data, .pinned], laidTests := true, laidLooks := .later }
def FnExactEndOfScoreUptoCardSaid : Prop := Claim7.holds Tryd.pinned (.plain (OpenSpec.upto fnExactEndOfScoreSpec)) fnExactEndOfScoreUptoCard

/-- THE SECOND FORM's CARD OF 'laws.FnExactMostAtOnce'. -/
def fnExactMostAtOnceUptoCard : Claim7 := { stood := { row := fnExactMostAtOnceUptoRow, standIns := [], harness := (true, "43174e73a4928ac1d3074685850013c0e3c2bae2a408e3b7eb05f031f147b162"), looks := false }, kinds := [], alts := [], laidByText := true, laidKinds := [.data, .pinned], laidTests := true, laidLooks := .later }
def FnExactMostAtOnceUptoCardSaid : Prop := Claim7.holds Tryd.pinned (.plain (OpenSpec.upto fnExactMostAtOnceSpec)) fnExactMostAtOnceUptoCard

/-- THE SECOND FORM's CARD OF 'laws.FnExactEventsBetween'. -/
def fnExactEventsBetweenUptoCard : Claim7 := { stood := { row := fnExactEventsBetweenUptoRow, standIns := [], harness := (true, "43174e73a4928ac1d3074685850013c0e3c2bae2a408e3b7eb05f031f147b162"), looks := false }, kinds := [], alts := [], laidByText := true, laidKinds := [.data, .pinned], laidTests := true, laidLooks := .later }
def FnExactEventsBetweenUptoCardSaid : Prop := Claim7.holds Tryd.pinned (.plain (OpenSpec.upto fnExactEventsBetweenSpec)) fnExactEventsBetweenUptoCard
end Rows
end Go.Proofs.YtdopidalhkcefaaDoor
