/-
  NARROWER THAN 'FOR EVERY INPUT', by the rows' own cells (each row's printed sentence says how): EmacsNone: laid · EmacsNames: laid · EmacsRefuses: laid · EmacsBack: laid · EmacsKillsAll: laid · EmacsYanksAll: laid · EmacsUndoes: laid.
  DERIVED. THE GIVEN ROWS OF THIS SEAT. 7 by the template 'for every input the law returns true; each argument reads behind the call as it read before'; 0 by the template 'total and deterministic' (their statements: YtgndbccogcofjaaGreatDoorTotals.lean).
  GIVEN WITH THE SEED: the statements are not yours to turn. If you find one false, say at which input.
  Laid BY PROGRAM, IN A SANDBOX (cutbox-rows.mjs): the forced cells as the released guide's own fill.sh prints them over the translation 6b653a26b16f1beb… (all of the seat's roots in one cut). By AI agents, Wed Nov 11 2026. No macro, syntax, notation, axiom, sorry.
-/
import Derived.Test.YtgndbccogcofjaaGreatDoorChecked
import GoSem.PinnedTables
import GoSem.Claim
import GoSem.ClaimJoined
import GoSem.ClaimMapViews
import Derived.JoinedTies
import Derived.KernelRfl
namespace Go.Proofs.YtgndbccogcofjaaGreatDoor
/- THE CELL 'sum', in the pinned program and in every row, IS THE sha256 OF THE DUMP (.gsa) THAT YtgndbccogcofjaaGreatDoorProg.lean LOADS. Nothing in Lean hashes anything: it is a label: what it is worth is what the hold of that sum in a sandbox is worth. -/
noncomputable def Tryz.pinned : Pinned := { name := "ytgndbccogcofjaagreatdoor", sum := "6b653a26b16f1bebc951551db955b4b991524ab2c882630c7feb95350dd1b7a8", checked := Tryz.checked }
namespace Rows
def none {H : Type} : Left H := { results := [], args := [] }

/- WHAT THE LISTED PACKAGE-LEVEL VARIABLES READ AS WHEN THE CALL BEGINS. Each datum BY PROGRAM (the guide's laid-datum.mjs) off the statement by which the dump's own 'gosem.cut.vars' lays the variable. In a bare row this is a premise. The card (YtgndbccogcofjaaGreatDoorCards.lean) ties it to the program's text. -/
def laid_unicode_utf8_acceptRanges {H : Type} : DataW H := .agg [.agg [.lit (.int .u8 128), .lit (.int .u8 191)], .agg [.lit (.int .u8 160), .lit (.int .u8 191)], .agg [.lit (.int .u8 128), .lit (.int .u8 159)], .agg [.lit (.int .u8 144), .lit (.int .u8 191)], .agg [.lit (.int .u8 128), .lit (.int .u8 143)], .agg [.lit (.int .u8 0), .lit (.int .u8 0)], .agg [.lit (.int .u8 0), .lit (.int .u8 0)], .agg [.lit (.int .u8 0), .lit (.int .u8 0)], .agg [.lit (.int .u8 0), .lit (.int .u8 0)], .agg [.lit (.int .u8 0), .lit (.int .u8 0)], .agg [.lit (.int .u8 0), .lit (.int .u8 0)], .agg [.lit (.int .u8 0), .lit (.int .u8 0)], .agg [.lit (.int .u8 0), .lit (.int .u8 0)], .agg [.lit (.int .u8 0), .lit (.int .u8 0)], .agg [.lit (.int .u8 0), .lit (.int .u8 0)], .agg [.lit (.int .u8 0), .lit (.int .u8 0)]]
def laid_lanyard_ucell_none {H : Type} : DataW H := .agg [.agg [.lit (.int .i32 768), .lit (.int .i32 879)], .agg [.lit (.int .i32 1155), .lit (.int .i32 1161)], .agg [.lit (.int .i32 1425), .lit (.int .i32 1469)], .agg [.lit (.int .i32 1552), .lit (.int .i32 1562)], .agg [.lit (.int .i32 1611), .lit (.int .i32 1631)], .agg [.lit (.int .i32 3633), .lit (.int .i32 3633)], .agg [.lit (.int .i32 3636), .lit (.int .i32 3642)], .agg [.lit (.int .i32 3655), .lit (.int .i32 3662)], .agg [.lit (.int .i32 6832), .lit (.int .i32 6911)], .agg [.lit (.int .i32 7616), .lit (.int .i32 7679)], .agg [.lit (.int .i32 8203), .lit (.int .i32 8207)], .agg [.lit (.int .i32 8400), .lit (.int .i32 8447)], .agg [.lit (.int .i32 12441), .lit (.int .i32 12442)], .agg [.lit (.int .i32 65024), .lit (.int .i32 65039)], .agg [.lit (.int .i32 65056), .lit (.int .i32 65071)]]
def laid_lanyard_ucell_wide {H : Type} : DataW H := .agg [.agg [.lit (.int .i32 4352), .lit (.int .i32 4447)], .agg [.lit (.int .i32 11904), .lit (.int .i32 12350)], .agg [.lit (.int .i32 12353), .lit (.int .i32 13311)], .agg [.lit (.int .i32 13312), .lit (.int .i32 19903)], .agg [.lit (.int .i32 19968), .lit (.int .i32 40959)], .agg [.lit (.int .i32 40960), .lit (.int .i32 42191)], .agg [.lit (.int .i32 44032), .lit (.int .i32 55203)], .agg [.lit (.int .i32 63744), .lit (.int .i32 64255)], .agg [.lit (.int .i32 65072), .lit (.int .i32 65135)], .agg [.lit (.int .i32 65280), .lit (.int .i32 65376)], .agg [.lit (.int .i32 65504), .lit (.int .i32 65510)], .agg [.lit (.int .i32 127744), .lit (.int .i32 128591)], .agg [.lit (.int .i32 129280), .lit (.int .i32 129535)], .agg [.lit (.int .i32 131072), .lit (.int .i32 262141)]]
/-- One of Go's own tables, pinned by name: the form's constant. -/
def laid_unicode_utf8_first : DataW Unit := Go.Pinned.utf8First

/-- 'lanyardlaw18.EmacsNone': WHATEVER THE INPUT: true; the input reads as it did. -/
def emacsNoneSpec : ChangeSpec := { name := "emacsNone", fn := fun _ => fun
  | [d] => { results := [.lit (.bool true)], args := [d] }
  | _ => none }
def emacsNoneRow : OpenClaim := { program := "ytgndbccogcofjaagreatdoor", sum := "6b653a26b16f1bebc951551db955b4b991524ab2c882630c7feb95350dd1b7a8", func := "lanyard/lanyardlaw18.EmacsNone", spec := "emacsNone", inPlace := ["sync/atomic.AddInt64", "sync/atomic.LoadInt64", "sync/atomic.StoreInt64", "internal/bytealg.IndexByteString", "internal/bytealg.IndexString"], unfollowed := true, recurses := true, named := ["lanyard/ucell.none", "lanyard/ucell.wide", "unicode/utf8.first", "unicode/utf8.acceptRanges", "internal/bytealg.MaxLen"], apart := false, laid := [("unicode/utf8.acceptRanges", laid_unicode_utf8_acceptRanges), ("lanyard/ucell.none", laid_lanyard_ucell_none), ("lanyard/ucell.wide", laid_lanyard_ucell_wide), ("unicode/utf8.first", laid_unicode_utf8_first)] }
def EmacsNoneSaid : Prop := emacsNoneRow.holds Tryz.pinned (OpenSpec.ofChange emacsNoneSpec)

/-- ITS FALSE NEIGHBOUR: 'it returns false'. Refute it at one input. -/
def emacsNoneWrong : ChangeSpec := { name := "emacsNone", fn := fun _ => fun
  | [d] => { results := [.lit (.bool false)], args := [d] }
  | _ => none }
def EmacsNoneWrongFalsely : Prop := emacsNoneRow.holds Tryz.pinned (OpenSpec.ofChange emacsNoneWrong)

/-- 'lanyardlaw18.EmacsNames': WHATEVER THE INPUT: true; the input reads as it did. -/
def emacsNamesSpec : ChangeSpec := { name := "emacsNames", fn := fun _ => fun
  | [d1, d2] => { results := [.lit (.bool true)], args := [d1, d2] }
  | _ => none }
def emacsNamesRow : OpenClaim := { program := "ytgndbccogcofjaagreatdoor", sum := "6b653a26b16f1bebc951551db955b4b991524ab2c882630c7feb95350dd1b7a8", func := "lanyard/lanyardlaw18.EmacsNames", spec := "emacsNames", inPlace := ["sync/atomic.LoadInt64", "internal/bytealg.IndexByteString", "internal/bytealg.IndexString", "sync/atomic.AddInt64", "sync/atomic.StoreInt64"], unfollowed := true, recurses := true, named := ["lanyard/ucell.none", "lanyard/ucell.wide", "unicode/utf8.first", "unicode/utf8.acceptRanges", "internal/bytealg.MaxLen"], apart := false, laid := [("unicode/utf8.acceptRanges", laid_unicode_utf8_acceptRanges), ("lanyard/ucell.none", laid_lanyard_ucell_none), ("lanyard/ucell.wide", laid_lanyard_ucell_wide), ("unicode/utf8.first", laid_unicode_utf8_first)] }
def EmacsNamesSaid : Prop := emacsNamesRow.holds Tryz.pinned (OpenSpec.ofChange emacsNamesSpec)

/-- ITS FALSE NEIGHBOUR: 'it returns false'. Refute it at one input. -/
def emacsNamesWrong : ChangeSpec := { name := "emacsNames", fn := fun _ => fun
  | [d1, d2] => { results := [.lit (.bool false)], args := [d1, d2] }
  | _ => none }
def EmacsNamesWrongFalsely : Prop := emacsNamesRow.holds Tryz.pinned (OpenSpec.ofChange emacsNamesWrong)

/-- 'lanyardlaw18.EmacsRefuses': WHATEVER THE INPUT: true; the input reads as it did. -/
def emacsRefusesSpec : ChangeSpec := { name := "emacsRefuses", fn := fun _ => fun
  | [d1, d2, d3] => { results := [.lit (.bool true)], args := [d1, d2, d3] }
  | _ => none }
def emacsRefusesRow : OpenClaim := { program := "ytgndbccogcofjaagreatdoor", sum := "6b653a26b16f1bebc951551db955b4b991524ab2c882630c7feb95350dd1b7a8", func := "lanyard/lanyardlaw18.EmacsRefuses", spec := "emacsRefuses", inPlace := ["sync/atomic.AddInt64", "sync/atomic.LoadInt64", "sync/atomic.StoreInt64", "internal/bytealg.IndexByteString", "internal/bytealg.IndexString"], unfollowed := true, recurses := true, named := ["lanyard/ucell.none", "lanyard/ucell.wide", "unicode/utf8.first", "unicode/utf8.acceptRanges", "internal/bytealg.MaxLen"], apart := false, laid := [("unicode/utf8.acceptRanges", laid_unicode_utf8_acceptRanges), ("lanyard/ucell.none", laid_lanyard_ucell_none), ("lanyard/ucell.wide", laid_lanyard_ucell_wide), ("unicode/utf8.first", laid_unicode_utf8_first)] }
def EmacsRefusesSaid : Prop := emacsRefusesRow.holds Tryz.pinned (OpenSpec.ofChange emacsRefusesSpec)

/-- ITS FALSE NEIGHBOUR: 'it returns false'. Refute it at one input. -/
def emacsRefusesWrong : ChangeSpec := { name := "emacsRefuses", fn := fun _ => fun
  | [d1, d2, d3] => { results := [.lit (.bool false)], args := [d1, d2, d3] }
  | _ => none }
def EmacsRefusesWrongFalsely : Prop := emacsRefusesRow.holds Tryz.pinned (OpenSpec.ofChange emacsRefusesWrong)

/-- 'lanyardlaw18.EmacsBack': WHATEVER THE INPUT: true; the input reads as it did. -/
def emacsBackSpec : ChangeSpec := { name := "emacsBack", fn := fun _ => fun
  | [d1, d2] => { results := [.lit (.bool true)], args := [d1, d2] }
  | _ => none }
def emacsBackRow : OpenClaim := { program := "ytgndbccogcofjaagreatdoor", sum := "6b653a26b16f1bebc951551db955b4b991524ab2c882630c7feb95350dd1b7a8", func := "lanyard/lanyardlaw18.EmacsBack", spec := "emacsBack", inPlace := ["sync/atomic.AddInt64", "sync/atomic.LoadInt64", "sync/atomic.StoreInt64", "internal/bytealg.IndexByteString", "internal/bytealg.IndexString"], unfollowed := true, recurses := true, named := ["lanyard/ucell.none", "lanyard/ucell.wide", "unicode/utf8.first", "unicode/utf8.acceptRanges", "internal/bytealg.MaxLen"], apart := false, laid := [("unicode/utf8.acceptRanges", laid_unicode_utf8_acceptRanges), ("lanyard/ucell.none", laid_lanyard_ucell_none), ("lanyard/ucell.wide", laid_lanyard_ucell_wide), ("unicode/utf8.first", laid_unicode_utf8_first)] }
def EmacsBackSaid : Prop := emacsBackRow.holds Tryz.pinned (OpenSpec.ofChange emacsBackSpec)

/-- ITS FALSE NEIGHBOUR: 'it returns false'. Refute it at one input. -/
def emacsBackWrong : ChangeSpec := { name := "emacsBack", fn := fun _ => fun
  | [d1, d2] => { results := [.lit (.bool false)], args := [d1, d2] }
  | _ => none }
def EmacsBackWrongFalsely : Prop := emacsBackRow.holds Tryz.pinned (OpenSpec.ofChange emacsBackWrong)

/-- 'lanyardlaw18.EmacsKillsAll': WHATEVER THE INPUT: true; the input reads as it did. -/
def emacsKillsAllSpec : ChangeSpec := { name := "emacsKillsAll", fn := fun _ => fun
  | [d1, d2] => { results := [.lit (.bool true)], args := [d1, d2] }
  | _ => none }
def emacsKillsAllRow : OpenClaim := { program := "ytgndbccogcofjaagreatdoor", sum := "6b653a26b16f1bebc951551db955b4b991524ab2c882630c7feb95350dd1b7a8", func := "lanyard/lanyardlaw18.EmacsKillsAll", spec := "emacsKillsAll", inPlace := ["sync/atomic.AddInt64", "sync/atomic.LoadInt64", "sync/atomic.StoreInt64", "internal/bytealg.IndexByteString", "internal/bytealg.IndexString"], unfollowed := true, recurses := true, named := ["lanyard/ucell.none", "lanyard/ucell.wide", "unicode/utf8.first", "unicode/utf8.acceptRanges", "internal/bytealg.MaxLen"], apart := false, laid := [("unicode/utf8.acceptRanges", laid_unicode_utf8_acceptRanges), ("lanyard/ucell.none", laid_lanyard_ucell_none), ("lanyard/ucell.wide", laid_lanyard_ucell_wide), ("unicode/utf8.first", laid_unicode_utf8_first)] }
def EmacsKillsAllSaid : Prop := emacsKillsAllRow.holds Tryz.pinned (OpenSpec.ofChange emacsKillsAllSpec)

/-- ITS FALSE NEIGHBOUR: 'it returns false'. Refute it at one input. -/
def emacsKillsAllWrong : ChangeSpec := { name := "emacsKillsAll", fn := fun _ => fun
  | [d1, d2] => { results := [.lit (.bool false)], args := [d1, d2] }
  | _ => none }
def EmacsKillsAllWrongFalsely : Prop := emacsKillsAllRow.holds Tryz.pinned (OpenSpec.ofChange emacsKillsAllWrong)

/-- 'lanyardlaw18.EmacsYanksAll': WHATEVER THE INPUT: true; the input reads as it did. -/
def emacsYanksAllSpec : ChangeSpec := { name := "emacsYanksAll", fn := fun _ => fun
  | [d1, d2, d3] => { results := [.lit (.bool true)], args := [d1, d2, d3] }
  | _ => none }
def emacsYanksAllRow : OpenClaim := { program := "ytgndbccogcofjaagreatdoor", sum := "6b653a26b16f1bebc951551db955b4b991524ab2c882630c7feb95350dd1b7a8", func := "lanyard/lanyardlaw18.EmacsYanksAll", spec := "emacsYanksAll", inPlace := ["sync/atomic.AddInt64", "sync/atomic.LoadInt64", "sync/atomic.StoreInt64", "internal/bytealg.IndexByteString", "internal/bytealg.IndexString"], unfollowed := true, recurses := true, named := ["lanyard/ucell.none", "lanyard/ucell.wide", "unicode/utf8.first", "unicode/utf8.acceptRanges", "internal/bytealg.MaxLen"], apart := false, laid := [("unicode/utf8.acceptRanges", laid_unicode_utf8_acceptRanges), ("lanyard/ucell.none", laid_lanyard_ucell_none), ("lanyard/ucell.wide", laid_lanyard_ucell_wide), ("unicode/utf8.first", laid_unicode_utf8_first)] }
def EmacsYanksAllSaid : Prop := emacsYanksAllRow.holds Tryz.pinned (OpenSpec.ofChange emacsYanksAllSpec)

/-- ITS FALSE NEIGHBOUR: 'it returns false'. Refute it at one input. -/
def emacsYanksAllWrong : ChangeSpec := { name := "emacsYanksAll", fn := fun _ => fun
  | [d1, d2, d3] => { results := [.lit (.bool false)], args := [d1, d2, d3] }
  | _ => none }
def EmacsYanksAllWrongFalsely : Prop := emacsYanksAllRow.holds Tryz.pinned (OpenSpec.ofChange emacsYanksAllWrong)

/-- 'lanyardlaw18.EmacsUndoes': WHATEVER THE INPUT: true; the input reads as it did. -/
def emacsUndoesSpec : ChangeSpec := { name := "emacsUndoes", fn := fun _ => fun
  | [d1, d2, d3] => { results := [.lit (.bool true)], args := [d1, d2, d3] }
  | _ => none }
def emacsUndoesRow : OpenClaim := { program := "ytgndbccogcofjaagreatdoor", sum := "6b653a26b16f1bebc951551db955b4b991524ab2c882630c7feb95350dd1b7a8", func := "lanyard/lanyardlaw18.EmacsUndoes", spec := "emacsUndoes", inPlace := ["sync/atomic.AddInt64", "sync/atomic.LoadInt64", "sync/atomic.StoreInt64", "internal/bytealg.IndexByteString", "internal/bytealg.IndexString"], unfollowed := true, recurses := true, named := ["lanyard/ucell.none", "lanyard/ucell.wide", "unicode/utf8.first", "unicode/utf8.acceptRanges", "internal/bytealg.MaxLen"], apart := false, laid := [("unicode/utf8.acceptRanges", laid_unicode_utf8_acceptRanges), ("lanyard/ucell.none", laid_lanyard_ucell_none), ("lanyard/ucell.wide", laid_lanyard_ucell_wide), ("unicode/utf8.first", laid_unicode_utf8_first)] }
def EmacsUndoesSaid : Prop := emacsUndoesRow.holds Tryz.pinned (OpenSpec.ofChange emacsUndoesSpec)

/-- ITS FALSE NEIGHBOUR: 'it returns false'. Refute it at one input. -/
def emacsUndoesWrong : ChangeSpec := { name := "emacsUndoes", fn := fun _ => fun
  | [d1, d2, d3] => { results := [.lit (.bool false)], args := [d1, d2, d3] }
  | _ => none }
def EmacsUndoesWrongFalsely : Prop := emacsUndoesRow.holds Tryz.pinned (OpenSpec.ofChange emacsUndoesWrong)

/- THE SECOND FORM. 'bulk': how many values and letters a reading holds, each counted each time it is reached (what is shared counts as often as it is met; a slice's spare places count too). A statement '..UptoSaid' is the law's where the arguments, and the package variables that the reading takes, are together of bulk at most 1048576: NARROWER than '..Said'. Prove '..Said' where nothing that the law and all that it calls make is longer than what came in: it says more and counts as full. Else prove '..UptoSaid'. A law counts once. -/
mutual
def uptoBulk {H : Type} : DataW H → Nat
  | .lit (.string bytes) => bytes.length + 1
  | .lit _ => 1
  | .nil => 1
  | .ptr d => uptoBulk d + 1
  | .slice elems spare => uptoBulkAll elems + uptoBulkAll spare + 1
  | .agg parts => uptoBulkAll parts + 1
  | .iface _ d => uptoBulk d + 1
  | .map entries => uptoBulkEntries entries + 1
  | .held _ => 1
def uptoBulkAll {H : Type} : List (DataW H) → Nat
  | [] => 0
  | d :: r => uptoBulk d + uptoBulkAll r
def uptoBulkEntries {H : Type} : List (Lit × DataW H) → Nat
  | [] => 0
  | x :: r => uptoBulkEntry x + uptoBulkEntries r
def uptoBulkEntry {H : Type} : Lit × DataW H → Nat
  | (.string bytes, d) => bytes.length + uptoBulk d + 1
  | (_, d) => uptoBulk d + 1
 end
def uptoSmall : (H : Type) → List (DataW H) → Bool := fun _ ds => decide (uptoBulkAll ds ≤ 1048576)
def OpenSpec.upto (s : _root_.Go.ChangeSpec) : _root_.Go.OpenSpec := { _root_.Go.OpenSpec.ofChange s with cond := some uptoSmall }

/-- 'lanyardlaw18.EmacsNone', WHERE WHAT IT READS IS OF BULK AT MOST 1048576: true; the input reads as it did. -/
def emacsNoneUptoRow : OpenClaim := { program := "ytgndbccogcofjaagreatdoor", sum := "6b653a26b16f1bebc951551db955b4b991524ab2c882630c7feb95350dd1b7a8", func := "lanyard/lanyardlaw18.EmacsNone", spec := "emacsNone", inPlace := ["sync/atomic.AddInt64", "sync/atomic.LoadInt64", "sync/atomic.StoreInt64", "internal/bytealg.IndexByteString", "internal/bytealg.IndexString"], unfollowed := true, recurses := true, named := ["lanyard/ucell.none", "lanyard/ucell.wide", "unicode/utf8.first", "unicode/utf8.acceptRanges", "internal/bytealg.MaxLen"], apart := false, laid := [("unicode/utf8.acceptRanges", laid_unicode_utf8_acceptRanges), ("lanyard/ucell.none", laid_lanyard_ucell_none), ("lanyard/ucell.wide", laid_lanyard_ucell_wide), ("unicode/utf8.first", laid_unicode_utf8_first)], narrowed := true }
def EmacsNoneUptoSaid : Prop := emacsNoneUptoRow.holds Tryz.pinned (OpenSpec.upto emacsNoneSpec)

/-- 'lanyardlaw18.EmacsNames', WHERE WHAT IT READS IS OF BULK AT MOST 1048576: true; the input reads as it did. -/
def emacsNamesUptoRow : OpenClaim := { program := "ytgndbccogcofjaagreatdoor", sum := "6b653a26b16f1bebc951551db955b4b991524ab2c882630c7feb95350dd1b7a8", func := "lanyard/lanyardlaw18.EmacsNames", spec := "emacsNames", inPlace := ["sync/atomic.LoadInt64", "internal/bytealg.IndexByteString", "internal/bytealg.IndexString", "sync/atomic.AddInt64", "sync/atomic.StoreInt64"], unfollowed := true, recurses := true, named := ["lanyard/ucell.none", "lanyard/ucell.wide", "unicode/utf8.first", "unicode/utf8.acceptRanges", "internal/bytealg.MaxLen"], apart := false, laid := [("unicode/utf8.acceptRanges", laid_unicode_utf8_acceptRanges), ("lanyard/ucell.none", laid_lanyard_ucell_none), ("lanyard/ucell.wide", laid_lanyard_ucell_wide), ("unicode/utf8.first", laid_unicode_utf8_first)], narrowed := true }
def EmacsNamesUptoSaid : Prop := emacsNamesUptoRow.holds Tryz.pinned (OpenSpec.upto emacsNamesSpec)

/-- 'lanyardlaw18.EmacsRefuses', WHERE WHAT IT READS IS OF BULK AT MOST 1048576: true; the input reads as it did. -/
def emacsRefusesUptoRow : OpenClaim := { program := "ytgndbccogcofjaagreatdoor", sum := "6b653a26b16f1bebc951551db955b4b991524ab2c882630c7feb95350dd1b7a8", func := "lanyard/lanyardlaw18.EmacsRefuses", spec := "emacsRefuses", inPlace := ["sync/atomic.AddInt64", "sync/atomic.LoadInt64", "sync/atomic.StoreInt64", "internal/bytealg.IndexByteString", "internal/bytealg.IndexString"], unfollowed := true, recurses := true, named := ["lanyard/ucell.none", "lanyard/ucell.wide", "unicode/utf8.first", "unicode/utf8.acceptRanges", "internal/bytealg.MaxLen"], apart := false, laid := [("unicode/utf8.acceptRanges", laid_unicode_utf8_acceptRanges), ("lanyard/ucell.none", laid_lanyard_ucell_none), ("lanyard/ucell.wide", laid_lanyard_ucell_wide), ("unicode/utf8.first", laid_unicode_utf8_first)], narrowed := true }
def EmacsRefusesUptoSaid : Prop := emacsRefusesUptoRow.holds Tryz.pinned (OpenSpec.upto emacsRefusesSpec)

/-- 'lanyardlaw18.EmacsBack', WHERE WHAT IT READS IS OF BULK AT MOST 1048576: true; the input reads as it did. -/
def emacsBackUptoRow : OpenClaim := { program := "ytgndbccogcofjaagreatdoor", sum := "6b653a26b16f1bebc951551db955b4b991524ab2c882630c7feb95350dd1b7a8", func := "lanyard/lanyardlaw18.EmacsBack", spec := "emacsBack", inPlace := ["sync/atomic.AddInt64", "sync/atomic.LoadInt64", "sync/atomic.StoreInt64", "internal/bytealg.IndexByteString", "internal/bytealg.IndexString"], unfollowed := true, recurses := true, named := ["lanyard/ucell.none", "lanyard/ucell.wide", "unicode/utf8.first", "unicode/utf8.acceptRanges", "internal/bytealg.MaxLen"], apart := false, laid := [("unicode/utf8.acceptRanges", laid_unicode_utf8_acceptRanges), ("lanyard/ucell.none", laid_lanyard_ucell_none), ("lanyard/ucell.wide", laid_lanyard_ucell_wide), ("unicode/utf8.first", laid_unicode_utf8_first)], narrowed := true }
def EmacsBackUptoSaid : Prop := emacsBackUptoRow.holds Tryz.pinned (OpenSpec.upto emacsBackSpec)

/-- 'lanyardlaw18.EmacsKillsAll', WHERE WHAT IT READS IS OF BULK AT MOST 1048576: true; the input reads as it did. -/
def emacsKillsAllUptoRow : OpenClaim := { program := "ytgndbccogcofjaagreatdoor", sum := "6b653a26b16f1bebc951551db955b4b991524ab2c882630c7feb95350dd1b7a8", func := "lanyard/lanyardlaw18.EmacsKillsAll", spec := "emacsKillsAll", inPlace := ["sync/atomic.AddInt64", "sync/atomic.LoadInt64", "sync/atomic.StoreInt64", "internal/bytealg.IndexByteString", "internal/bytealg.IndexString"], unfollowed := true, recurses := true, named := ["lanyard/ucell.none", "lanyard/ucell.wide", "unicode/utf8.first", "unicode/utf8.acceptRanges", "internal/bytealg.MaxLen"], apart := false, laid := [("unicode/utf8.acceptRanges", laid_unicode_utf8_acceptRanges), ("lanyard/ucell.none", laid_lanyard_ucell_none), ("lanyard/ucell.wide", laid_lanyard_ucell_wide), ("unicode/utf8.first", laid_unicode_utf8_first)], narrowed := true }
def EmacsKillsAllUptoSaid : Prop := emacsKillsAllUptoRow.holds Tryz.pinned (OpenSpec.upto emacsKillsAllSpec)

/-- 'lanyardlaw18.EmacsYanksAll', WHERE WHAT IT READS IS OF BULK AT MOST 1048576: true; the input reads as it did. -/
def emacsYanksAllUptoRow : OpenClaim := { program := "ytgndbccogcofjaagreatdoor", sum := "6b653a26b16f1bebc951551db955b4b991524ab2c882630c7feb95350dd1b7a8", func := "lanyard/lanyardlaw18.EmacsYanksAll", spec := "emacsYanksAll", inPlace := ["sync/atomic.AddInt64", "sync/atomic.LoadInt64", "sync/atomic.StoreInt64", "internal/bytealg.IndexByteString", "internal/bytealg.IndexString"], unfollowed := true, recurses := true, named := ["lanyard/ucell.none", "lanyard/ucell.wide", "unicode/utf8.first", "unicode/utf8.acceptRanges", "internal/bytealg.MaxLen"], apart := false, laid := [("unicode/utf8.acceptRanges", laid_unicode_utf8_acceptRanges), ("lanyard/ucell.none", laid_lanyard_ucell_none), ("lanyard/ucell.wide", laid_lanyard_ucell_wide), ("unicode/utf8.first", laid_unicode_utf8_first)], narrowed := true }
def EmacsYanksAllUptoSaid : Prop := emacsYanksAllUptoRow.holds Tryz.pinned (OpenSpec.upto emacsYanksAllSpec)

/-- 'lanyardlaw18.EmacsUndoes', WHERE WHAT IT READS IS OF BULK AT MOST 1048576: true; the input reads as it did. -/
def emacsUndoesUptoRow : OpenClaim := { program := "ytgndbccogcofjaagreatdoor", sum := "6b653a26b16f1bebc951551db955b4b991524ab2c882630c7feb95350dd1b7a8", func := "lanyard/lanyardlaw18.EmacsUndoes", spec := "emacsUndoes", inPlace := ["sync/atomic.AddInt64", "sync/atomic.LoadInt64", "sync/atomic.StoreInt64", "internal/bytealg.IndexByteString", "internal/bytealg.IndexString"], unfollowed := true, recurses := true, named := ["lanyard/ucell.none", "lanyard/ucell.wide", "unicode/utf8.first", "unicode/utf8.acceptRanges", "internal/bytealg.MaxLen"], apart := false, laid := [("unicode/utf8.acceptRanges", laid_unicode_utf8_acceptRanges), ("lanyard/ucell.none", laid_lanyard_ucell_none), ("lanyard/ucell.wide", laid_lanyard_ucell_wide), ("unicode/utf8.first", laid_unicode_utf8_first)], narrowed := true }
def EmacsUndoesUptoSaid : Prop := emacsUndoesUptoRow.holds Tryz.pinned (OpenSpec.upto emacsUndoesSpec)

end Rows
end Go.Proofs.YtgndbccogcofjaaGreatDoor
