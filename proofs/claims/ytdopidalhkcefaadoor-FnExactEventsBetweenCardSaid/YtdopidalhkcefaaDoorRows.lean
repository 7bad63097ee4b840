/-
  NARROWER THAN 'FOR EVERY INPUT', by the rows' own cells (each row's printed sentence says how): FnExactValidInstrument: laid · FnExactValidScore: laid · FnExactNotesOf: laid · FnExactEndOfScore: laid · FnExactMostAtOnce: laid · FnExactEventsBetween: laid.
  DERIVED. THE GIVEN ROWS OF THIS SEAT. 6 by the template 'for every input the law returns true; each argument reads behind the call as it read before'; 0 by the template 'total and deterministic' (their statements: YtdopidalhkcefaaDoorTotals.lean).
  GIVEN WITH THE SEED: the statements are not yours to turn. If you find one false, say at which input.
  Laid BY PROGRAM, IN A SANDBOX (cutbox-rows.mjs): the forced cells as the released guide's own fill.sh prints them over the translation fce52e5b76c6fc34… (all of the seat's roots in one cut). By AI agents, Wed Nov 11 2026. No macro, syntax, notation, axiom, sorry.
-/
import Derived.Test.YtdopidalhkcefaaDoorChecked
import GoSem.PinnedTables
import GoSem.Claim
import GoSem.ClaimJoined
import GoSem.ClaimMapViews
import Derived.JoinedTies
import Derived.KernelRfl
namespace Go.Proofs.YtdopidalhkcefaaDoor
/- THE CELL 'sum', in the pinned program and in every row, IS THE sha256 OF THE DUMP (.gsa) THAT YtdopidalhkcefaaDoorProg.lean LOADS. Nothing in Lean hashes anything: it is a label: what it is worth is what the hold of that sum in a sandbox is worth. -/
noncomputable def Tryd.pinned : Pinned := { name := "ytdopidalhkcefaadoor", sum := "fce52e5b76c6fc348c34c7354e4c7403cefae13116392b1de0e68ac435ba9503", checked := Tryd.checked }
namespace Rows
def none {H : Type} : Left H := { results := [], args := [] }

/- WHAT THE LISTED PACKAGE-LEVEL VARIABLES READ AS WHEN THE CALL BEGINS. Each datum BY PROGRAM (the guide's laid-datum.mjs) off the statement by which the dump's own 'gosem.cut.vars' lays the variable. In a bare row this is a premise. The card (YtdopidalhkcefaaDoorCards.lean) ties it to the program's text. -/
def laid_unicode_utf8_acceptRanges {H : Type} : DataW H := .agg [.agg [.lit (.int .u8 128), .lit (.int .u8 191)], .agg [.lit (.int .u8 160), .lit (.int .u8 191)], .agg [.lit (.int .u8 128), .lit (.int .u8 159)], .agg [.lit (.int .u8 144), .lit (.int .u8 191)], .agg [.lit (.int .u8 128), .lit (.int .u8 143)], .agg [.lit (.int .u8 0), .lit (.int .u8 0)], .agg [.lit (.int .u8 0), .lit (.int .u8 0)], .agg [.lit (.int .u8 0), .lit (.int .u8 0)], .agg [.lit (.int .u8 0), .lit (.int .u8 0)], .agg [.lit (.int .u8 0), .lit (.int .u8 0)], .agg [.lit (.int .u8 0), .lit (.int .u8 0)], .agg [.lit (.int .u8 0), .lit (.int .u8 0)], .agg [.lit (.int .u8 0), .lit (.int .u8 0)], .agg [.lit (.int .u8 0), .lit (.int .u8 0)], .agg [.lit (.int .u8 0), .lit (.int .u8 0)], .agg [.lit (.int .u8 0), .lit (.int .u8 0)]]
/-- One of Go's own tables, pinned by name: the form's constant. -/
def laid_unicode_utf8_first : DataW Unit := Go.Pinned.utf8First

/-- 'laws.FnExactValidInstrument': WHATEVER THE INPUT: true; the input reads as it did. -/
def fnExactValidInstrumentSpec : ChangeSpec := { name := "fnExactValidInstrument", fn := fun _ => fun
  | [d] => { results := [.lit (.bool true)], args := [d] }
  | _ => none }
def fnExactValidInstrumentRow : OpenClaim := { program := "ytdopidalhkcefaadoor", sum := "fce52e5b76c6fc348c34c7354e4c7403cefae13116392b1de0e68ac435ba9503", func := "loop.example/g01173/laws.FnExactValidInstrument", spec := "fnExactValidInstrument", inPlace := ["internal/bytealg.IndexByteString", "internal/bytealg.IndexString"], named := ["unicode/utf8.first", "unicode/utf8.acceptRanges", "internal/bytealg.MaxLen"], apart := false, laid := [("unicode/utf8.acceptRanges", laid_unicode_utf8_acceptRanges), ("unicode/utf8.first", laid_unicode_utf8_first)] }
def FnExactValidInstrumentSaid : Prop := fnExactValidInstrumentRow.holds Tryd.pinned (OpenSpec.ofChange fnExactValidInstrumentSpec)

/-- ITS FALSE NEIGHBOUR: 'it returns false'. Refute it at one input. -/
def fnExactValidInstrumentWrong : ChangeSpec := { name := "fnExactValidInstrument", fn := fun _ => fun
  | [d] => { results := [.lit (.bool false)], args := [d] }
  | _ => none }
def FnExactValidInstrumentWrongFalsely : Prop := fnExactValidInstrumentRow.holds Tryd.pinned (OpenSpec.ofChange fnExactValidInstrumentWrong)

/-- 'laws.FnExactValidScore': WHATEVER THE INPUT: true; the input reads as it did. -/
def fnExactValidScoreSpec : ChangeSpec := { name := "fnExactValidScore", fn := fun _ => fun
  | [d] => { results := [.lit (.bool true)], args := [d] }
  | _ => none }
def fnExactValidScoreRow : OpenClaim := { program := "ytdopidalhkcefaadoor", sum := "fce52e5b76c6fc348c34c7354e4c7403cefae13116392b1de0e68ac435ba9503", func := "loop.example/g01173/laws.FnExactValidScore", spec := "fnExactValidScore", inPlace := ["math.Float32bits", "internal/bytealg.IndexByteString", "internal/bytealg.IndexString"], unfollowed := true, recurses := true, named := ["unicode/utf8.first", "unicode/utf8.acceptRanges", "internal/bytealg.MaxLen"], apart := false, laid := [("unicode/utf8.acceptRanges", laid_unicode_utf8_acceptRanges), ("unicode/utf8.first", laid_unicode_utf8_first)] }
def FnExactValidScoreSaid : Prop := fnExactValidScoreRow.holds Tryd.pinned (OpenSpec.ofChange fnExactValidScoreSpec)

/-- ITS FALSE NEIGHBOUR: 'it returns false'. Refute it at one input. -/
def fnExactValidScoreWrong : ChangeSpec := { name := "fnExactValidScore", fn := fun _ => fun
  | [d] => { results := [.lit (.bool false)], args := [d] }
  | _ => none }
def FnExactValidScoreWrongFalsely : Prop := fnExactValidScoreRow.holds Tryd.pinned (OpenSpec.ofChange fnExactValidScoreWrong)

/-- 'laws.FnExactNotesOf': WHATEVER THE INPUT: true; the input reads as it did. -/
def fnExactNotesOfSpec : ChangeSpec := { name := "fnExactNotesOf", fn := fun _ => fun
  | [d] => { results := [.lit (.bool true)], args := [d] }
  | _ => none }
def fnExactNotesOfRow : OpenClaim := { program := "ytdopidalhkcefaadoor", sum := "fce52e5b76c6fc348c34c7354e4c7403cefae13116392b1de0e68ac435ba9503", func := "loop.example/g01173/laws.FnExactNotesOf", spec := "fnExactNotesOf", inPlace := ["math.Float32bits", "internal/bytealg.IndexByteString", "internal/bytealg.IndexString"], unfollowed := true, recurses := true, named := ["unicode/utf8.first", "unicode/utf8.acceptRanges", "internal/bytealg.MaxLen"], apart := false, laid := [("unicode/utf8.acceptRanges", laid_unicode_utf8_acceptRanges), ("unicode/utf8.first", laid_unicode_utf8_first)] }
def FnExactNotesOfSaid : Prop := fnExactNotesOfRow.holds Tryd.pinned (OpenSpec.ofChange fnExactNotesOfSpec)

/-- ITS FALSE NEIGHBOUR: 'it returns false'. Refute it at one input. -/
def fnExactNotesOfWrong : ChangeSpec := { name := "fnExactNotesOf", fn := fun _ => fun
  | [d] => { results := [.lit (.bool false)], args := [d] }
  | _ => none }
def FnExactNotesOfWrongFalsely : Prop := fnExactNotesOfRow.holds Tryd.pinned (OpenSpec.ofChange fnExactNotesOfWrong)

/-- 'laws.FnExactEndOfScore': WHATEVER THE INPUT: true; the input reads as it did. -/
def fnExactEndOfScoreSpec : ChangeSpec := { name := "fnExactEndOfScore", fn := fun _ => fun
  | [d] => { results := [.lit (.bool true)], args := [d] }
  | _ => none }
def fnExactEndOfScoreRow : OpenClaim := { program := "ytdopidalhkcefaadoor", sum := "fce52e5b76c6fc348c34c7354e4c7403cefae13116392b1de0e68ac435ba9503", func := "loop.example/g01173/laws.FnExactEndOfScore", spec := "fnExactEndOfScore", inPlace := ["math.Float32bits", "internal/bytealg.IndexByteString", "internal/bytealg.IndexString"], unfollowed := true, recurses := true, named := ["unicode/utf8.first", "unicode/utf8.acceptRanges", "internal/bytealg.MaxLen"], apart := false, laid := [("unicode/utf8.acceptRanges", laid_unicode_utf8_acceptRanges), ("unicode/utf8.first", laid_unicode_utf8_first)] }
def FnExactEndOfScoreSaid : Prop := fnExactEndOfScoreRow.holds Tryd.pinned (OpenSpec.ofChange fnExactEndOfScoreSpec)

/-- ITS FALSE NEIGHBOUR: 'it returns false'. Refute it at one input. -/
def fnExactEndOfScoreWrong : ChangeSpec := { name := "fnExactEndOfScore", fn := fun _ => fun
  | [d] => { results := [.lit (.bool false)], args := [d] }
  | _ => none }
def FnExactEndOfScoreWrongFalsely : Prop := fnExactEndOfScoreRow.holds Tryd.pinned (OpenSpec.ofChange fnExactEndOfScoreWrong)

/-- 'laws.FnExactMostAtOnce': WHATEVER THE INPUT: true; the input reads as it did. -/
def fnExactMostAtOnceSpec : ChangeSpec := { name := "fnExactMostAtOnce", fn := fun _ => fun
  | [d] => { results := [.lit (.bool true)], args := [d] }
  | _ => none }
def fnExactMostAtOnceRow : OpenClaim := { program := "ytdopidalhkcefaadoor", sum := "fce52e5b76c6fc348c34c7354e4c7403cefae13116392b1de0e68ac435ba9503", func := "loop.example/g01173/laws.FnExactMostAtOnce", spec := "fnExactMostAtOnce", inPlace := ["math.Float32bits", "internal/bytealg.IndexByteString", "internal/bytealg.IndexString"], unfollowed := true, recurses := true, named := ["unicode/utf8.first", "unicode/utf8.acceptRanges", "internal/bytealg.MaxLen"], apart := false, laid := [("unicode/utf8.acceptRanges", laid_unicode_utf8_acceptRanges), ("unicode/utf8.first", laid_unicode_utf8_first)] }
def FnExactMostAtOnceSaid : Prop := fnExactMostAtOnceRow.holds Tryd.pinned (OpenSpec.ofChange fnExactMostAtOnceSpec)

/-- ITS FALSE NEIGHBOUR: 'it returns false'. Refute it at one input. -/
def fnExactMostAtOnceWrong : ChangeSpec := { name := "fnExactMostAtOnce", fn := fun _ => fun
  | [d] => { results := [.lit (.bool false)], args := [d] }
  | _ => none }
def FnExactMostAtOnceWrongFalsely : Prop := fnExactMostAtOnceRow.holds Tryd.pinned (OpenSpec.ofChange fnExactMostAtOnceWrong)

/-- 'laws.FnExactEventsBetween': WHATEVER THE INPUT: true; the input reads as it did. -/
def fnExactEventsBetweenSpec : ChangeSpec := { name := "fnExactEventsBetween", fn := fun _ => fun
  | [d1, d2, d3] => { results := [.lit (.bool true)], args := [d1, d2, d3] }
  | _ => none }
def fnExactEventsBetweenRow : OpenClaim := { program := "ytdopidalhkcefaadoor", sum := "fce52e5b76c6fc348c34c7354e4c7403cefae13116392b1de0e68ac435ba9503", func := "loop.example/g01173/laws.FnExactEventsBetween", spec := "fnExactEventsBetween", inPlace := ["math.Float32bits", "internal/bytealg.IndexByteString", "internal/bytealg.IndexString"], unfollowed := true, recurses := true, named := ["unicode/utf8.first", "unicode/utf8.acceptRanges", "internal/bytealg.MaxLen"], apart := false, laid := [("unicode/utf8.acceptRanges", laid_unicode_utf8_acceptRanges), ("unicode/utf8.first", laid_unicode_utf8_first)] }
def FnExactEventsBetweenSaid : Prop := fnExactEventsBetweenRow.holds Tryd.pinned (OpenSpec.ofChange fnExactEventsBetweenSpec)

/-- ITS FALSE NEIGHBOUR: 'it returns false'. Refute it at one input. -/
def fnExactEventsBetweenWrong : ChangeSpec := { name := "fnExactEventsBetween", fn := fun _ => fun
  | [d1, d2, d3] => { results := [.lit (.bool false)], args := [d1, d2, d3] }
  | _ => none }
def FnExactEventsBetweenWrongFalsely : Prop := fnExactEventsBetweenRow.holds Tryd.pinned (OpenSpec.ofChange fnExactEventsBetweenWrong)

/- THE SECOND FORM. 'bulk': how many values and letters a reading holds, each counted each time it is reached (what is shared counts as often as it is met; a slice's spare places count too). A statement '..UptoSaid' is the law's where the arguments, and the package variables that the reading takes, are together of bulk at most 1048576: NARROWER than '..Said'. Prove '..Said' where nothing that the law and all that it calls make is longer than what came in: it says more and counts as full. Else prove '..UptoSaid'. A law counts once. -/
mutual
def uptoBulk {H : Type} : DataW H → Nat
  | .lit (.string bytes) => bytes.length + 1
  | .lit _ => 1
  | .nil => 1
  | .ptr d => uptoBulk d + 1
  | .slice elems spare => uptoBulkAll elems + uptoBulkAll spare + 1
  | .agg parts => uptoBulkAll parts + 1
  | .iface _ d => uptoBulk d + 1
  | .map entries => uptoBulkEntries entries + 1
  | .held _ => 1
def uptoBulkAll {H : Type} : List (DataW H) → Nat
  | [] => 0
  | d :: r => uptoBulk d + uptoBulkAll r
def uptoBulkEntries {H : Type} : List (Lit × DataW H) → Nat
  | [] => 0
  | x :: r => uptoBulkEntry x + uptoBulkEntries r
def uptoBulkEntry {H : Type} : Lit × DataW H → Nat
  | (.string bytes, d) => bytes.length + uptoBulk d + 1
  | (_, d) => uptoBulk d + 1
 end
def uptoSmall : (H : Type) → List (DataW H) → Bool := fun _ ds => decide (uptoBulkAll ds ≤ 1048576)
def OpenSpec.upto (s : _root_.Go.ChangeSpec) : _root_.Go.OpenSpec := { _root_.Go.OpenSpec.ofChange s with cond := some uptoSmall }

/-- 'laws.FnExactValidInstrument', WHERE WHAT IT READS IS OF BULK AT MOST 1048576: true; the input reads as it did. -/
def fnExactValidInstrumentUptoRow : OpenClaim := { program := "ytdopidalhkcefaadoor", sum := "fce52e5b76c6fc348c34c7354e4c7403cefae13116392b1de0e68ac435ba9503", func := "loop.example/g01173/laws.FnExactValidInstrument", spec := "fnExactValidInstrument", inPlace := ["internal/bytealg.IndexByteString", "internal/bytealg.IndexString"], named := ["unicode/utf8.first", "unicode/utf8.acceptRanges", "internal/bytealg.MaxLen"], apart := false, laid := [("unicode/utf8.acceptRanges", laid_unicode_utf8_acceptRanges), ("unicode/utf8.first", laid_unicode_utf8_first)], narrowed := true }
def FnExactValidInstrumentUptoSaid : Prop := fnExactValidInstrumentUptoRow.holds Tryd.pinned (OpenSpec.upto fnExactValidInstrumentSpec)

/-- 'laws.FnExactValidScore', WHERE WHAT IT READS IS OF BULK AT MOST 1048576: true; the input reads as it did. -/
def fnExactValidScoreUptoRow : OpenClaim := { program := "ytdopidalhkcefaadoor", sum := "fce52e5b76c6fc348c34c7354e4c7403cefae13116392b1de0e68ac435ba9503", func := "loop.example/g01173/laws.FnExactValidScore", spec := "fnExactValidScore", inPlace := ["math.Float32bits", "internal/bytealg.IndexByteString", "internal/bytealg.IndexString"], unfollowed := true, recurses := true, named := ["unicode/utf8.first", "unicode/utf8.acceptRanges", "internal/bytealg.MaxLen"], apart := false, laid := [("unicode/utf8.acceptRanges", laid_unicode_utf8_acceptRanges), ("unicode/utf8.first", laid_unicode_utf8_first)], narrowed := true }
def FnExactValidScoreUptoSaid : Prop := fnExactValidScoreUptoRow.holds Tryd.pinned (OpenSpec.upto fnExactValidScoreSpec)

/-- 'laws.FnExactNotesOf', WHERE WHAT IT READS IS OF BULK AT MOST 1048576: true; the input reads as it did. -/
def fnExactNotesOfUptoRow : OpenClaim := { program := "ytdopidalhkcefaadoor", sum := "fce52e5b76c6fc348c34c7354e4c7403cefae13116392b1de0e68ac435ba9503", func := "loop.example/g01173/laws.FnExactNotesOf", spec := "fnExactNotesOf", inPlace := ["math.Float32bits", "internal/bytealg.IndexByteString", "internal/bytealg.IndexString"], unfollowed := true, recurses := true, named := ["unicode/utf8.first", "unicode/utf8.acceptRanges", "internal/bytealg.MaxLen"], apart := false, laid := [("unicode/utf8.acceptRanges", laid_unicode_utf8_acceptRanges), ("unicode/utf8.first", laid_unicode_utf8_first)], narrowed := true }
def FnExactNotesOfUptoSaid : Prop := fnExactNotesOfUptoRow.holds Tryd.pinned (OpenSpec.upto fnExactNotesOfSpec)

/-- 'laws.FnExactEndOfScore', WHERE WHAT IT READS IS OF BULK AT MOST 1048576: true; the input reads as it did. -/
def fnExactEndOfScoreUptoRow : OpenClaim := { program := "ytdopidalhkcefaadoor", sum := "fce52e5b76c6fc348c34c7354e4c7403cefae13116392b1de0e68ac435ba9503", func := "loop.example/g01173/laws.FnExactEndOfScore", spec := "fnExactEndOfScore", inPlace := ["math.Float32bits", "internal/bytealg.IndexByteString", "internal/bytealg.IndexString"], unfollowed := true, recurses := true, named := ["unicode/utf8.first", "unicode/utf8.acceptRanges", "internal/bytealg.MaxLen"], apart := false, laid := [("unicode/utf8.acceptRanges", laid_unicode_utf8_acceptRanges), ("unicode/utf8.first", laid_unicode_utf8_first)], narrowed := true }
def FnExactEndOfScoreUptoSaid : Prop := fnExactEndOfScoreUptoRow.holds Tryd.pinned (OpenSpec.upto fnExactEndOfScoreSpec)

/-- 'laws.FnExactMostAtOnce', WHERE WHAT IT READS IS OF BULK AT MOST 1048576: true; the input reads as it did. -/
def fnExactMostAtOnceUptoRow : OpenClaim := { program := "ytdopidalhkcefaadoor", sum := "fce52e5b76c6fc348c34c7354e4c7403cefae13116392b1de0e68ac435ba9503", func := "loop.example/g01173/laws.FnExactMostAtOnce", spec := "fnExactMostAtOnce", inPlace := ["math.Float32bits", "internal/bytealg.IndexByteString", "internal/bytealg.IndexString"], unfollowed := true, recurses := true, named := ["unicode/utf8.first", "unicode/utf8.acceptRanges", "internal/bytealg.MaxLen"], apart := false, laid := [("unicode/utf8.acceptRanges", laid_unicode_utf8_acceptRanges), ("unicode/utf8.first", laid_unicode_utf8_first)], narrowed := true }
def FnExactMostAtOnceUptoSaid : Prop := fnExactMostAtOnceUptoRow.holds Tryd.pinned (OpenSpec.upto fnExactMostAtOnceSpec)

/-- 'laws.FnExactEventsBetween', WHERE WHAT IT READS IS OF BULK AT MOST 1048576: true; the input reads as it did. -/
def fnExactEventsBetweenUptoRow : OpenClaim := { program := "ytdopidalhkcefaadoor", sum := "fce52e5b76c6fc348c34c7354e4c7403cefae13116392b1de0e68ac435ba9503", func := "loop.example/g01173/laws.FnExactEventsBetween", spec := "fnExactEventsBetween", inPlace := ["math.Float32bits", "internal/bytealg.IndexByteString", "internal/bytealg.IndexString"], unfollowed := true, recurses := true, named := ["unicode/utf8.first", "unicode/utf8.acceptRanges", "internal/bytealg.MaxLen"], apart := false, laid := [("unicode/utf8.acceptRanges", laid_unicode_utf8_acceptRanges), ("unicode/utf8.first", laid_unicode_utf8_first)], narrowed := true }
def FnExactEventsBetweenUptoSaid : Prop := fnExactEventsBetweenUptoRow.holds Tryd.pinned (OpenSpec.upto fnExactEventsBetweenSpec)

end Rows
end Go.Proofs.YtdopidalhkcefaaDoor
