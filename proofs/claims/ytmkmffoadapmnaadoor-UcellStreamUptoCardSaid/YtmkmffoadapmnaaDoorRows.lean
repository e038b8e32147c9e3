/-
  NARROWER THAN 'FOR EVERY INPUT', by the rows' own cells (each row's printed sentence says how): UcellWide: laid · UcellCells: laid · UcellSpans: laid · UcellPieces: laid · UcellStream: laid · UcellNone: laid · UcellKinds: laid · UcellBack: laid · UcellRunes: laid.
  DERIVED. THE GIVEN ROWS OF THIS SEAT. 9 by the template 'for every input the law returns true; each argument reads behind the call as it read before'; 0 by the template 'total and deterministic' (their statements: YtmkmffoadapmnaaDoorTotals.lean).
  GIVEN WITH THE SEED: the statements are not yours to turn. If you find one false, say at which input.
  Laid BY PROGRAM, IN A SANDBOX (cutbox-rows.mjs): the forced cells as the released guide's own fill.sh prints them over the translation 6fc3d453825da477… (all of the seat's roots in one cut). By AI agents, Wed Nov 11 2026. No macro, syntax, notation, axiom, sorry.
-/
import Derived.Test.YtmkmffoadapmnaaDoorChecked
import GoSem.PinnedTables
import GoSem.Claim
import GoSem.ClaimJoined
import GoSem.ClaimMapViews
import Derived.JoinedTies
import Derived.KernelRfl
namespace Go.Proofs.YtmkmffoadapmnaaDoor
/- THE CELL 'sum', in the pinned program and in every row, IS THE sha256 OF THE DUMP (.gsa) THAT YtmkmffoadapmnaaDoorProg.lean LOADS. Nothing in Lean hashes anything: it is a label: what it is worth is what the hold of that sum in a sandbox is worth. -/
noncomputable def Tryd.pinned : Pinned := { name := "ytmkmffoadapmnaadoor", sum := "6fc3d453825da47735619f5a88a60f872d7c489dc28635c41cbc7459bfc2991a", checked := Tryd.checked }
namespace Rows
def none {H : Type} : Left H := { results := [], args := [] }

/- WHAT THE LISTED PACKAGE-LEVEL VARIABLES READ AS WHEN THE CALL BEGINS. Each datum BY PROGRAM (the guide's laid-datum.mjs) off the statement by which the dump's own 'gosem.cut.vars' lays the variable. In a bare row this is a premise. The card (YtmkmffoadapmnaaDoorCards.lean) ties it to the program's text. -/
def laid_unicode_utf8_acceptRanges {H : Type} : DataW H := .agg [.agg [.lit (.int .u8 128), .lit (.int .u8 191)], .agg [.lit (.int .u8 160), .lit (.int .u8 191)], .agg [.lit (.int .u8 128), .lit (.int .u8 159)], .agg [.lit (.int .u8 144), .lit (.int .u8 191)], .agg [.lit (.int .u8 128), .lit (.int .u8 143)], .agg [.lit (.int .u8 0), .lit (.int .u8 0)], .agg [.lit (.int .u8 0), .lit (.int .u8 0)], .agg [.lit (.int .u8 0), .lit (.int .u8 0)], .agg [.lit (.int .u8 0), .lit (.int .u8 0)], .agg [.lit (.int .u8 0), .lit (.int .u8 0)], .agg [.lit (.int .u8 0), .lit (.int .u8 0)], .agg [.lit (.int .u8 0), .lit (.int .u8 0)], .agg [.lit (.int .u8 0), .lit (.int .u8 0)], .agg [.lit (.int .u8 0), .lit (.int .u8 0)], .agg [.lit (.int .u8 0), .lit (.int .u8 0)], .agg [.lit (.int .u8 0), .lit (.int .u8 0)]]
def laid_lanyard_ucell_none {H : Type} : DataW H := .agg [.agg [.lit (.int .i32 768), .lit (.int .i32 879)], .agg [.lit (.int .i32 1155), .lit (.int .i32 1161)], .agg [.lit (.int .i32 1425), .lit (.int .i32 1469)], .agg [.lit (.int .i32 1552), .lit (.int .i32 1562)], .agg [.lit (.int .i32 1611), .lit (.int .i32 1631)], .agg [.lit (.int .i32 3633), .lit (.int .i32 3633)], .agg [.lit (.int .i32 3636), .lit (.int .i32 3642)], .agg [.lit (.int .i32 3655), .lit (.int .i32 3662)], .agg [.lit (.int .i32 6832), .lit (.int .i32 6911)], .agg [.lit (.int .i32 7616), .lit (.int .i32 7679)], .agg [.lit (.int .i32 8203), .lit (.int .i32 8207)], .agg [.lit (.int .i32 8400), .lit (.int .i32 8447)], .agg [.lit (.int .i32 12441), .lit (.int .i32 12442)], .agg [.lit (.int .i32 65024), .lit (.int .i32 65039)], .agg [.lit (.int .i32 65056), .lit (.int .i32 65071)]]
def laid_lanyard_ucell_wide {H : Type} : DataW H := .agg [.agg [.lit (.int .i32 4352), .lit (.int .i32 4447)], .agg [.lit (.int .i32 11904), .lit (.int .i32 12350)], .agg [.lit (.int .i32 12353), .lit (.int .i32 13311)], .agg [.lit (.int .i32 13312), .lit (.int .i32 19903)], .agg [.lit (.int .i32 19968), .lit (.int .i32 40959)], .agg [.lit (.int .i32 40960), .lit (.int .i32 42191)], .agg [.lit (.int .i32 44032), .lit (.int .i32 55203)], .agg [.lit (.int .i32 63744), .lit (.int .i32 64255)], .agg [.lit (.int .i32 65072), .lit (.int .i32 65135)], .agg [.lit (.int .i32 65280), .lit (.int .i32 65376)], .agg [.lit (.int .i32 65504), .lit (.int .i32 65510)], .agg [.lit (.int .i32 127744), .lit (.int .i32 128591)], .agg [.lit (.int .i32 129280), .lit (.int .i32 129535)], .agg [.lit (.int .i32 131072), .lit (.int .i32 262141)]]
/-- One of Go's own tables, pinned by name: the form's constant. -/
def laid_unicode_utf8_first : DataW Unit := Go.Pinned.utf8First

/-- 'lanyardlaw01.UcellWide': WHATEVER THE INPUT: true; the input reads as it did. -/
def ucellWideSpec : ChangeSpec := { name := "ucellWide", fn := fun _ => fun
  | [d1, d2] => { results := [.lit (.bool true)], args := [d1, d2] }
  | _ => none }
def ucellWideRow : OpenClaim := { program := "ytmkmffoadapmnaadoor", sum := "6fc3d453825da47735619f5a88a60f872d7c489dc28635c41cbc7459bfc2991a", func := "lanyard/lanyardlaw01.UcellWide", spec := "ucellWide", unfollowed := true, recurses := true, named := ["lanyard/ucell.none", "lanyard/ucell.wide", "unicode/utf8.first", "unicode/utf8.acceptRanges"], apart := false, laid := [("unicode/utf8.acceptRanges", laid_unicode_utf8_acceptRanges), ("lanyard/ucell.none", laid_lanyard_ucell_none), ("lanyard/ucell.wide", laid_lanyard_ucell_wide), ("unicode/utf8.first", laid_unicode_utf8_first)] }
def UcellWideSaid : Prop := ucellWideRow.holds Tryd.pinned (OpenSpec.ofChange ucellWideSpec)

/-- ITS FALSE NEIGHBOUR: 'it returns false'. Refute it at one input. -/
def ucellWideWrong : ChangeSpec := { name := "ucellWide", fn := fun _ => fun
  | [d1, d2] => { results := [.lit (.bool false)], args := [d1, d2] }
  | _ => none }
def UcellWideWrongFalsely : Prop := ucellWideRow.holds Tryd.pinned (OpenSpec.ofChange ucellWideWrong)

/-- 'lanyardlaw01.UcellCells': WHATEVER THE INPUT: true; the input reads as it did. -/
def ucellCellsSpec : ChangeSpec := { name := "ucellCells", fn := fun _ => fun
  | [d1, d2] => { results := [.lit (.bool true)], args := [d1, d2] }
  | _ => none }
def ucellCellsRow : OpenClaim := { program := "ytmkmffoadapmnaadoor", sum := "6fc3d453825da47735619f5a88a60f872d7c489dc28635c41cbc7459bfc2991a", func := "lanyard/lanyardlaw01.UcellCells", spec := "ucellCells", unfollowed := true, recurses := true, named := ["unicode/utf8.first", "unicode/utf8.acceptRanges", "lanyard/ucell.none", "lanyard/ucell.wide"], apart := false, laid := [("unicode/utf8.acceptRanges", laid_unicode_utf8_acceptRanges), ("lanyard/ucell.none", laid_lanyard_ucell_none), ("lanyard/ucell.wide", laid_lanyard_ucell_wide), ("unicode/utf8.first", laid_unicode_utf8_first)] }
def UcellCellsSaid : Prop := ucellCellsRow.holds Tryd.pinned (OpenSpec.ofChange ucellCellsSpec)

/-- ITS FALSE NEIGHBOUR: 'it returns false'. Refute it at one input. -/
def ucellCellsWrong : ChangeSpec := { name := "ucellCells", fn := fun _ => fun
  | [d1, d2] => { results := [.lit (.bool false)], args := [d1, d2] }
  | _ => none }
def UcellCellsWrongFalsely : Prop := ucellCellsRow.holds Tryd.pinned (OpenSpec.ofChange ucellCellsWrong)

/-- 'lanyardlaw01.UcellSpans': WHATEVER THE INPUT: true; the input reads as it did. -/
def ucellSpansSpec : ChangeSpec := { name := "ucellSpans", fn := fun _ => fun
  | [d1, d2, d3] => { results := [.lit (.bool true)], args := [d1, d2, d3] }
  | _ => none }
def ucellSpansRow : OpenClaim := { program := "ytmkmffoadapmnaadoor", sum := "6fc3d453825da47735619f5a88a60f872d7c489dc28635c41cbc7459bfc2991a", func := "lanyard/lanyardlaw01.UcellSpans", spec := "ucellSpans", unfollowed := true, recurses := true, named := ["unicode/utf8.first", "unicode/utf8.acceptRanges", "lanyard/ucell.none", "lanyard/ucell.wide"], apart := false, laid := [("unicode/utf8.acceptRanges", laid_unicode_utf8_acceptRanges), ("lanyard/ucell.none", laid_lanyard_ucell_none), ("lanyard/ucell.wide", laid_lanyard_ucell_wide), ("unicode/utf8.first", laid_unicode_utf8_first)] }
def UcellSpansSaid : Prop := ucellSpansRow.holds Tryd.pinned (OpenSpec.ofChange ucellSpansSpec)

/-- ITS FALSE NEIGHBOUR: 'it returns false'. Refute it at one input. -/
def ucellSpansWrong : ChangeSpec := { name := "ucellSpans", fn := fun _ => fun
  | [d1, d2, d3] => { results := [.lit (.bool false)], args := [d1, d2, d3] }
  | _ => none }
def UcellSpansWrongFalsely : Prop := ucellSpansRow.holds Tryd.pinned (OpenSpec.ofChange ucellSpansWrong)

/-- 'lanyardlaw01.UcellPieces': WHATEVER THE INPUT: true; the input reads as it did. -/
def ucellPiecesSpec : ChangeSpec := { name := "ucellPieces", fn := fun _ => fun
  | [d1, d2] => { results := [.lit (.bool true)], args := [d1, d2] }
  | _ => none }
def ucellPiecesRow : OpenClaim := { program := "ytmkmffoadapmnaadoor", sum := "6fc3d453825da47735619f5a88a60f872d7c489dc28635c41cbc7459bfc2991a", func := "lanyard/lanyardlaw01.UcellPieces", spec := "ucellPieces", unfollowed := true, recurses := true, named := ["unicode/utf8.first", "unicode/utf8.acceptRanges", "lanyard/ucell.none", "lanyard/ucell.wide"], apart := false, laid := [("unicode/utf8.acceptRanges", laid_unicode_utf8_acceptRanges), ("lanyard/ucell.none", laid_lanyard_ucell_none), ("lanyard/ucell.wide", laid_lanyard_ucell_wide), ("unicode/utf8.first", laid_unicode_utf8_first)] }
def UcellPiecesSaid : Prop := ucellPiecesRow.holds Tryd.pinned (OpenSpec.ofChange ucellPiecesSpec)

/-- ITS FALSE NEIGHBOUR: 'it returns false'. Refute it at one input. -/
def ucellPiecesWrong : ChangeSpec := { name := "ucellPieces", fn := fun _ => fun
  | [d1, d2] => { results := [.lit (.bool false)], args := [d1, d2] }
  | _ => none }
def UcellPiecesWrongFalsely : Prop := ucellPiecesRow.holds Tryd.pinned (OpenSpec.ofChange ucellPiecesWrong)

/-- 'lanyardlaw01.UcellStream': WHATEVER THE INPUT: true; the input reads as it did. -/
def ucellStreamSpec : ChangeSpec := { name := "ucellStream", fn := fun _ => fun
  | [d] => { results := [.lit (.bool true)], args := [d] }
  | _ => none }
def ucellStreamRow : OpenClaim := { program := "ytmkmffoadapmnaadoor", sum := "6fc3d453825da47735619f5a88a60f872d7c489dc28635c41cbc7459bfc2991a", func := "lanyard/lanyardlaw01.UcellStream", spec := "ucellStream", unfollowed := true, recurses := true, named := ["unicode/utf8.first", "unicode/utf8.acceptRanges", "lanyard/ucell.none", "lanyard/ucell.wide"], apart := false, laid := [("unicode/utf8.acceptRanges", laid_unicode_utf8_acceptRanges), ("lanyard/ucell.none", laid_lanyard_ucell_none), ("lanyard/ucell.wide", laid_lanyard_ucell_wide), ("unicode/utf8.first", laid_unicode_utf8_first)] }
def UcellStreamSaid : Prop := ucellStreamRow.holds Tryd.pinned (OpenSpec.ofChange ucellStreamSpec)

/-- ITS FALSE NEIGHBOUR: 'it returns false'. Refute it at one input. -/
def ucellStreamWrong : ChangeSpec := { name := "ucellStream", fn := fun _ => fun
  | [d] => { results := [.lit (.bool false)], args := [d] }
  | _ => none }
def UcellStreamWrongFalsely : Prop := ucellStreamRow.holds Tryd.pinned (OpenSpec.ofChange ucellStreamWrong)

/-- 'lanyardlaw01.UcellNone': WHATEVER THE INPUT: true; the input reads as it did. -/
def ucellNoneSpec : ChangeSpec := { name := "ucellNone", fn := fun _ => fun
  | [d] => { results := [.lit (.bool true)], args := [d] }
  | _ => none }
def ucellNoneRow : OpenClaim := { program := "ytmkmffoadapmnaadoor", sum := "6fc3d453825da47735619f5a88a60f872d7c489dc28635c41cbc7459bfc2991a", func := "lanyard/lanyardlaw01.UcellNone", spec := "ucellNone", unfollowed := true, recurses := true, named := ["unicode/utf8.first", "unicode/utf8.acceptRanges", "lanyard/ucell.none", "lanyard/ucell.wide"], apart := false, laid := [("unicode/utf8.acceptRanges", laid_unicode_utf8_acceptRanges), ("lanyard/ucell.none", laid_lanyard_ucell_none), ("lanyard/ucell.wide", laid_lanyard_ucell_wide), ("unicode/utf8.first", laid_unicode_utf8_first)] }
def UcellNoneSaid : Prop := ucellNoneRow.holds Tryd.pinned (OpenSpec.ofChange ucellNoneSpec)

/-- ITS FALSE NEIGHBOUR: 'it returns false'. Refute it at one input. -/
def ucellNoneWrong : ChangeSpec := { name := "ucellNone", fn := fun _ => fun
  | [d] => { results := [.lit (.bool false)], args := [d] }
  | _ => none }
def UcellNoneWrongFalsely : Prop := ucellNoneRow.holds Tryd.pinned (OpenSpec.ofChange ucellNoneWrong)

/-- 'lanyardlaw01.UcellKinds': WHATEVER THE INPUT: true; the input reads as it did. -/
def ucellKindsSpec : ChangeSpec := { name := "ucellKinds", fn := fun _ => fun
  | [d] => { results := [.lit (.bool true)], args := [d] }
  | _ => none }
def ucellKindsRow : OpenClaim := { program := "ytmkmffoadapmnaadoor", sum := "6fc3d453825da47735619f5a88a60f872d7c489dc28635c41cbc7459bfc2991a", func := "lanyard/lanyardlaw01.UcellKinds", spec := "ucellKinds", unfollowed := true, recurses := true, named := ["lanyard/ucell.none", "lanyard/ucell.wide", "unicode/utf8.first", "unicode/utf8.acceptRanges"], apart := false, laid := [("unicode/utf8.acceptRanges", laid_unicode_utf8_acceptRanges), ("lanyard/ucell.none", laid_lanyard_ucell_none), ("lanyard/ucell.wide", laid_lanyard_ucell_wide), ("unicode/utf8.first", laid_unicode_utf8_first)] }
def UcellKindsSaid : Prop := ucellKindsRow.holds Tryd.pinned (OpenSpec.ofChange ucellKindsSpec)

/-- ITS FALSE NEIGHBOUR: 'it returns false'. Refute it at one input. -/
def ucellKindsWrong : ChangeSpec := { name := "ucellKinds", fn := fun _ => fun
  | [d] => { results := [.lit (.bool false)], args := [d] }
  | _ => none }
def UcellKindsWrongFalsely : Prop := ucellKindsRow.holds Tryd.pinned (OpenSpec.ofChange ucellKindsWrong)

/-- 'lanyardlaw01.UcellBack': WHATEVER THE INPUT: true; the input reads as it did. -/
def ucellBackSpec : ChangeSpec := { name := "ucellBack", fn := fun _ => fun
  | [d1, d2] => { results := [.lit (.bool true)], args := [d1, d2] }
  | _ => none }
def ucellBackRow : OpenClaim := { program := "ytmkmffoadapmnaadoor", sum := "6fc3d453825da47735619f5a88a60f872d7c489dc28635c41cbc7459bfc2991a", func := "lanyard/lanyardlaw01.UcellBack", spec := "ucellBack", unfollowed := true, recurses := true, named := ["unicode/utf8.first", "unicode/utf8.acceptRanges", "lanyard/ucell.none", "lanyard/ucell.wide"], apart := false, laid := [("unicode/utf8.acceptRanges", laid_unicode_utf8_acceptRanges), ("lanyard/ucell.none", laid_lanyard_ucell_none), ("lanyard/ucell.wide", laid_lanyard_ucell_wide), ("unicode/utf8.first", laid_unicode_utf8_first)] }
def UcellBackSaid : Prop := ucellBackRow.holds Tryd.pinned (OpenSpec.ofChange ucellBackSpec)

/-- ITS FALSE NEIGHBOUR: 'it returns false'. Refute it at one input. -/
def ucellBackWrong : ChangeSpec := { name := "ucellBack", fn := fun _ => fun
  | [d1, d2] => { results := [.lit (.bool false)], args := [d1, d2] }
  | _ => none }
def UcellBackWrongFalsely : Prop := ucellBackRow.holds Tryd.pinned (OpenSpec.ofChange ucellBackWrong)

/-- 'lanyardlaw01.UcellRunes': WHATEVER THE INPUT: true; the input reads as it did. -/
def ucellRunesSpec : ChangeSpec := { name := "ucellRunes", fn := fun _ => fun
  | [d1, d2] => { results := [.lit (.bool true)], args := [d1, d2] }
  | _ => none }
def ucellRunesRow : OpenClaim := { program := "ytmkmffoadapmnaadoor", sum := "6fc3d453825da47735619f5a88a60f872d7c489dc28635c41cbc7459bfc2991a", func := "lanyard/lanyardlaw01.UcellRunes", spec := "ucellRunes", unfollowed := true, recurses := true, named := ["unicode/utf8.first", "unicode/utf8.acceptRanges", "lanyard/ucell.none", "lanyard/ucell.wide"], apart := false, laid := [("unicode/utf8.acceptRanges", laid_unicode_utf8_acceptRanges), ("lanyard/ucell.none", laid_lanyard_ucell_none), ("lanyard/ucell.wide", laid_lanyard_ucell_wide), ("unicode/utf8.first", laid_unicode_utf8_first)] }
def UcellRunesSaid : Prop := ucellRunesRow.holds Tryd.pinned (OpenSpec.ofChange ucellRunesSpec)

/-- ITS FALSE NEIGHBOUR: 'it returns false'. Refute it at one input. -/
def ucellRunesWrong : ChangeSpec := { name := "ucellRunes", fn := fun _ => fun
  | [d1, d2] => { results := [.lit (.bool false)], args := [d1, d2] }
  | _ => none }
def UcellRunesWrongFalsely : Prop := ucellRunesRow.holds Tryd.pinned (OpenSpec.ofChange ucellRunesWrong)

/- THE SECOND FORM. 'bulk': how many values and letters a reading holds, each counted each time it is reached (what is shared counts as often as it is met; a slice's spare places count too). A statement '..UptoSaid' is the law's where the arguments, and the package variables that the reading takes, are together of bulk at most 1048576: NARROWER than '..Said'. Prove '..Said' where nothing that the law and all that it calls make is longer than what came in: it says more and counts as full. Else prove '..UptoSaid'. A law counts once. -/
mutual
def uptoBulk {H : Type} : DataW H → Nat
  | .lit (.string bytes) => bytes.length + 1
  | .lit _ => 1
  | .nil => 1
  | .ptr d => uptoBulk d + 1
  | .slice elems spare => uptoBulkAll elems + uptoBulkAll spare + 1
  | .agg parts => uptoBulkAll parts + 1
  | .iface _ d => uptoBulk d + 1
  | .map entries => uptoBulkEntries entries + 1
  | .held _ => 1
def uptoBulkAll {H : Type} : List (DataW H) → Nat
  | [] => 0
  | d :: r => uptoBulk d + uptoBulkAll r
def uptoBulkEntries {H : Type} : List (Lit × DataW H) → Nat
  | [] => 0
  | x :: r => uptoBulkEntry x + uptoBulkEntries r
def uptoBulkEntry {H : Type} : Lit × DataW H → Nat
  | (.string bytes, d) => bytes.length + uptoBulk d + 1
  | (_, d) => uptoBulk d + 1
 end
def uptoSmall : (H : Type) → List (DataW H) → Bool := fun _ ds => decide (uptoBulkAll ds ≤ 1048576)
def OpenSpec.upto (s : _root_.Go.ChangeSpec) : _root_.Go.OpenSpec := { _root_.Go.OpenSpec.ofChange s with cond := some uptoSmall }

/-- 'lanyardlaw01.UcellWide', WHERE WHAT IT READS IS OF BULK AT MOST 1048576: true; the input reads as it did. -/
def ucellWideUptoRow : OpenClaim := { program := "ytmkmffoadapmnaadoor", sum := "6fc3d453825da47735619f5a88a60f872d7c489dc28635c41cbc7459bfc2991a", func := "lanyard/lanyardlaw01.UcellWide", spec := "ucellWide", unfollowed := true, recurses := true, named := ["lanyard/ucell.none", "lanyard/ucell.wide", "unicode/utf8.first", "unicode/utf8.acceptRanges"], apart := false, laid := [("unicode/utf8.acceptRanges", laid_unicode_utf8_acceptRanges), ("lanyard/ucell.none", laid_lanyard_ucell_none), ("lanyard/ucell.wide", laid_lanyard_ucell_wide), ("unicode/utf8.first", laid_unicode_utf8_first)], narrowed := true }
def UcellWideUptoSaid : Prop := ucellWideUptoRow.holds Tryd.pinned (OpenSpec.upto ucellWideSpec)

/-- 'lanyardlaw01.UcellCells', WHERE WHAT IT READS IS OF BULK AT MOST 1048576: true; the input reads as it did. -/
def ucellCellsUptoRow : OpenClaim := { program := "ytmkmffoadapmnaadoor", sum := "6fc3d453825da47735619f5a88a60f872d7c489dc28635c41cbc7459bfc2991a", func := "lanyard/lanyardlaw01.UcellCells", spec := "ucellCells", unfollowed := true, recurses := true, named := ["unicode/utf8.first", "unicode/utf8.acceptRanges", "lanyard/ucell.none", "lanyard/ucell.wide"], apart := false, laid := [("unicode/utf8.acceptRanges", laid_unicode_utf8_acceptRanges), ("lanyard/ucell.none", laid_lanyard_ucell_none), ("lanyard/ucell.wide", laid_lanyard_ucell_wide), ("unicode/utf8.first", laid_unicode_utf8_first)], narrowed := true }
def UcellCellsUptoSaid : Prop := ucellCellsUptoRow.holds Tryd.pinned (OpenSpec.upto ucellCellsSpec)

/-- 'lanyardlaw01.UcellSpans', WHERE WHAT IT READS IS OF BULK AT MOST 1048576: true; the input reads as it did. -/
def ucellSpansUptoRow : OpenClaim := { program := "ytmkmffoadapmnaadoor", sum := "6fc3d453825da47735619f5a88a60f872d7c489dc28635c41cbc7459bfc2991a", func := "lanyard/lanyardlaw01.UcellSpans", spec := "ucellSpans", unfollowed := true, recurses := true, named := ["unicode/utf8.first", "unicode/utf8.acceptRanges", "lanyard/ucell.none", "lanyard/ucell.wide"], apart := false, laid := [("unicode/utf8.acceptRanges", laid_unicode_utf8_acceptRanges), ("lanyard/ucell.none", laid_lanyard_ucell_none), ("lanyard/ucell.wide", laid_lanyard_ucell_wide), ("unicode/utf8.first", laid_unicode_utf8_first)], narrowed := true }
def UcellSpansUptoSaid : Prop := ucellSpansUptoRow.holds Tryd.pinned (OpenSpec.upto ucellSpansSpec)

/-- 'lanyardlaw01.UcellPieces', WHERE WHAT IT READS IS OF BULK AT MOST 1048576: true; the input reads as it did. -/
def ucellPiecesUptoRow : OpenClaim := { program := "ytmkmffoadapmnaadoor", sum := "6fc3d453825da47735619f5a88a60f872d7c489dc28635c41cbc7459bfc2991a", func := "lanyard/lanyardlaw01.UcellPieces", spec := "ucellPieces", unfollowed := true, recurses := true, named := ["unicode/utf8.first", "unicode/utf8.acceptRanges", "lanyard/ucell.none", "lanyard/ucell.wide"], apart := false, laid := [("unicode/utf8.acceptRanges", laid_unicode_utf8_acceptRanges), ("lanyard/ucell.none", laid_lanyard_ucell_none), ("lanyard/ucell.wide", laid_lanyard_ucell_wide), ("unicode/utf8.first", laid_unicode_utf8_first)], narrowed := true }
def UcellPiecesUptoSaid : Prop := ucellPiecesUptoRow.holds Tryd.pinned (OpenSpec.upto ucellPiecesSpec)

/-- 'lanyardlaw01.UcellStream', WHERE WHAT IT READS IS OF BULK AT MOST 1048576: true; the input reads as it did. -/
def ucellStreamUptoRow : OpenClaim := { program := "ytmkmffoadapmnaadoor", sum := "6fc3d453825da47735619f5a88a60f872d7c489dc28635c41cbc7459bfc2991a", func := "lanyard/lanyardlaw01.UcellStream", spec := "ucellStream", unfollowed := true, recurses := true, named := ["unicode/utf8.first", "unicode/utf8.acceptRanges", "lanyard/ucell.none", "lanyard/ucell.wide"], apart := false, laid := [("unicode/utf8.acceptRanges", laid_unicode_utf8_acceptRanges), ("lanyard/ucell.none", laid_lanyard_ucell_none), ("lanyard/ucell.wide", laid_lanyard_ucell_wide), ("unicode/utf8.first", laid_unicode_utf8_first)], narrowed := true }
def UcellStreamUptoSaid : Prop := ucellStreamUptoRow.holds Tryd.pinned (OpenSpec.upto ucellStreamSpec)

/-- 'lanyardlaw01.UcellNone', WHERE WHAT IT READS IS OF BULK AT MOST 1048576: true; the input reads as it did. -/
def ucellNoneUptoRow : OpenClaim := { program := "ytmkmffoadapmnaadoor", sum := "6fc3d453825da47735619f5a88a60f872d7c489dc28635c41cbc7459bfc2991a", func := "lanyard/lanyardlaw01.UcellNone", spec := "ucellNone", unfollowed := true, recurses := true, named := ["unicode/utf8.first", "unicode/utf8.acceptRanges", "lanyard/ucell.none", "lanyard/ucell.wide"], apart := false, laid := [("unicode/utf8.acceptRanges", laid_unicode_utf8_acceptRanges), ("lanyard/ucell.none", laid_lanyard_ucell_none), ("lanyard/ucell.wide", laid_lanyard_ucell_wide), ("unicode/utf8.first", laid_unicode_utf8_first)], narrowed := true }
def UcellNoneUptoSaid : Prop := ucellNoneUptoRow.holds Tryd.pinned (OpenSpec.upto ucellNoneSpec)

/-- 'lanyardlaw01.UcellKinds', WHERE WHAT IT READS IS OF BULK AT MOST 1048576: true; the input reads as it did. -/
def ucellKindsUptoRow : OpenClaim := { program := "ytmkmffoadapmnaadoor", sum := "6fc3d453825da47735619f5a88a60f872d7c489dc28635c41cbc7459bfc2991a", func := "lanyard/lanyardlaw01.UcellKinds", spec := "ucellKinds", unfollowed := true, recurses := true, named := ["lanyard/ucell.none", "lanyard/ucell.wide", "unicode/utf8.first", "unicode/utf8.acceptRanges"], apart := false, laid := [("unicode/utf8.acceptRanges", laid_unicode_utf8_acceptRanges), ("lanyard/ucell.none", laid_lanyard_ucell_none), ("lanyard/ucell.wide", laid_lanyard_ucell_wide), ("unicode/utf8.first", laid_unicode_utf8_first)], narrowed := true }
def UcellKindsUptoSaid : Prop := ucellKindsUptoRow.holds Tryd.pinned (OpenSpec.upto ucellKindsSpec)

/-- 'lanyardlaw01.UcellBack', WHERE WHAT IT READS IS OF BULK AT MOST 1048576: true; the input reads as it did. -/
def ucellBackUptoRow : OpenClaim := { program := "ytmkmffoadapmnaadoor", sum := "6fc3d453825da47735619f5a88a60f872d7c489dc28635c41cbc7459bfc2991a", func := "lanyard/lanyardlaw01.UcellBack", spec := "ucellBack", unfollowed := true, recurses := true, named := ["unicode/utf8.first", "unicode/utf8.acceptRanges", "lanyard/ucell.none", "lanyard/ucell.wide"], apart := false, laid := [("unicode/utf8.acceptRanges", laid_unicode_utf8_acceptRanges), ("lanyard/ucell.none", laid_lanyard_ucell_none), ("lanyard/ucell.wide", laid_lanyard_ucell_wide), ("unicode/utf8.first", laid_unicode_utf8_first)], narrowed := true }
def UcellBackUptoSaid : Prop := ucellBackUptoRow.holds Tryd.pinned (OpenSpec.upto ucellBackSpec)

/-- 'lanyardlaw01.UcellRunes', WHERE WHAT IT READS IS OF BULK AT MOST 1048576: true; the input reads as it did. -/
def ucellRunesUptoRow : OpenClaim := { program := "ytmkmffoadapmnaadoor", sum := "6fc3d453825da47735619f5a88a60f872d7c489dc28635c41cbc7459bfc2991a", func := "lanyard/lanyardlaw01.UcellRunes", spec := "ucellRunes", unfollowed := true, recurses := true, named := ["unicode/utf8.first", "unicode/utf8.acceptRanges", "lanyard/ucell.none", "lanyard/ucell.wide"], apart := false, laid := [("unicode/utf8.acceptRanges", laid_unicode_utf8_acceptRanges), ("lanyard/ucell.none", laid_lanyard_ucell_none), ("lanyard/ucell.wide", laid_lanyard_ucell_wide), ("unicode/utf8.first", laid_unicode_utf8_first)], narrowed := true }
def UcellRunesUptoSaid : Prop := ucellRunesUptoRow.holds Tryd.pinned (OpenSpec.upto ucellRunesSpec)

end Rows
end Go.Proofs.YtmkmffoadapmnaaDoor
