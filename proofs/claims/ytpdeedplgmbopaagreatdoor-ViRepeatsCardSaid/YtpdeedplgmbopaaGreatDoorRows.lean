/-
  NARROWER THAN 'FOR EVERY INPUT', by the rows' own cells (each row's printed sentence says how): ViTargets: laid · ViWants: laid · ViStays: laid · ViFinds: laid · ViRepeats: laid · ViPuts: laid · ViCounts: laid · ViNone: laid.
  DERIVED. THE GIVEN ROWS OF THIS SEAT. 8 by the template 'for every input the law returns true; each argument reads behind the call as it read before'; 0 by the template 'total and deterministic' (their statements: YtpdeedplgmbopaaGreatDoorTotals.lean).
  GIVEN WITH THE SEED: the statements are not yours to turn. If you find one false, say at which input.
  Laid BY PROGRAM, IN A SANDBOX (cutbox-rows.mjs): the forced cells as the released guide's own fill.sh prints them over the translation bf41a87d0d776613… (all of the seat's roots in one cut). By AI agents, Wed Nov 11 2026. No macro, syntax, notation, axiom, sorry.
-/
import Derived.Test.YtpdeedplgmbopaaGreatDoorChecked
import GoSem.Claim
import GoSem.ClaimJoined
import GoSem.ClaimMapViews
import Derived.JoinedTies
import Derived.KernelRfl
namespace Go.Proofs.YtpdeedplgmbopaaGreatDoor
/- THE CELL 'sum', in the pinned program and in every row, IS THE sha256 OF THE DUMP (.gsa) THAT YtpdeedplgmbopaaGreatDoorProg.lean LOADS. Nothing in Lean hashes anything: it is a label: what it is worth is what the hold of that sum in a sandbox is worth. -/
noncomputable def Tryz.pinned : Pinned := { name := "ytpdeedplgmbopaagreatdoor", sum := "bf41a87d0d776613eea370ef6e4bc6f4cd7237421c4a65104c355e78675a411f", checked := Tryz.checked }
namespace Rows
def none {H : Type} : Left H := { results := [], args := [] }

/- WHAT THE LISTED PACKAGE-LEVEL VARIABLES READ AS WHEN THE CALL BEGINS. Each datum BY PROGRAM (the guide's laid-datum.mjs) off the statement by which the dump's own 'gosem.cut.vars' lays the variable. In a bare row this is a premise. The card (YtpdeedplgmbopaaGreatDoorCards.lean) ties it to the program's text. -/
def laid_lanyard_ucell_none {H : Type} : DataW H := .agg [.agg [.lit (.int .i32 768), .lit (.int .i32 879)], .agg [.lit (.int .i32 1155), .lit (.int .i32 1161)], .agg [.lit (.int .i32 1425), .lit (.int .i32 1469)], .agg [.lit (.int .i32 1552), .lit (.int .i32 1562)], .agg [.lit (.int .i32 1611), .lit (.int .i32 1631)], .agg [.lit (.int .i32 3633), .lit (.int .i32 3633)], .agg [.lit (.int .i32 3636), .lit (.int .i32 3642)], .agg [.lit (.int .i32 3655), .lit (.int .i32 3662)], .agg [.lit (.int .i32 6832), .lit (.int .i32 6911)], .agg [.lit (.int .i32 7616), .lit (.int .i32 7679)], .agg [.lit (.int .i32 8203), .lit (.int .i32 8207)], .agg [.lit (.int .i32 8400), .lit (.int .i32 8447)], .agg [.lit (.int .i32 12441), .lit (.int .i32 12442)], .agg [.lit (.int .i32 65024), .lit (.int .i32 65039)], .agg [.lit (.int .i32 65056), .lit (.int .i32 65071)]]
def laid_lanyard_ucell_wide {H : Type} : DataW H := .agg [.agg [.lit (.int .i32 4352), .lit (.int .i32 4447)], .agg [.lit (.int .i32 11904), .lit (.int .i32 12350)], .agg [.lit (.int .i32 12353), .lit (.int .i32 13311)], .agg [.lit (.int .i32 13312), .lit (.int .i32 19903)], .agg [.lit (.int .i32 19968), .lit (.int .i32 40959)], .agg [.lit (.int .i32 40960), .lit (.int .i32 42191)], .agg [.lit (.int .i32 44032), .lit (.int .i32 55203)], .agg [.lit (.int .i32 63744), .lit (.int .i32 64255)], .agg [.lit (.int .i32 65072), .lit (.int .i32 65135)], .agg [.lit (.int .i32 65280), .lit (.int .i32 65376)], .agg [.lit (.int .i32 65504), .lit (.int .i32 65510)], .agg [.lit (.int .i32 127744), .lit (.int .i32 128591)], .agg [.lit (.int .i32 129280), .lit (.int .i32 129535)], .agg [.lit (.int .i32 131072), .lit (.int .i32 262141)]]

/-- 'lanyardlaw19.ViTargets': WHATEVER THE INPUT: true; the input reads as it did. -/
def viTargetsSpec : ChangeSpec := { name := "viTargets", fn := fun _ => fun
  | [d1, d2] => { results := [.lit (.bool true)], args := [d1, d2] }
  | _ => none }
def viTargetsRow : OpenClaim := { program := "ytpdeedplgmbopaagreatdoor", sum := "bf41a87d0d776613eea370ef6e4bc6f4cd7237421c4a65104c355e78675a411f", func := "lanyard/lanyardlaw19.ViTargets", spec := "viTargets", inPlace := ["internal/bytealg.IndexByteString", "sync/atomic.AddInt64", "sync/atomic.LoadInt64", "sync/atomic.StoreInt64"], unfollowed := true, recurses := true, named := ["lanyard/ucell.none", "lanyard/ucell.wide"], apart := false, laid := [("lanyard/ucell.none", laid_lanyard_ucell_none), ("lanyard/ucell.wide", laid_lanyard_ucell_wide)] }
def ViTargetsSaid : Prop := viTargetsRow.holds Tryz.pinned (OpenSpec.ofChange viTargetsSpec)

/-- ITS FALSE NEIGHBOUR: 'it returns false'. Refute it at one input. -/
def viTargetsWrong : ChangeSpec := { name := "viTargets", fn := fun _ => fun
  | [d1, d2] => { results := [.lit (.bool false)], args := [d1, d2] }
  | _ => none }
def ViTargetsWrongFalsely : Prop := viTargetsRow.holds Tryz.pinned (OpenSpec.ofChange viTargetsWrong)

/-- 'lanyardlaw19.ViWants': WHATEVER THE INPUT: true; the input reads as it did. -/
def viWantsSpec : ChangeSpec := { name := "viWants", fn := fun _ => fun
  | [d1, d2] => { results := [.lit (.bool true)], args := [d1, d2] }
  | _ => none }
def viWantsRow : OpenClaim := { program := "ytpdeedplgmbopaagreatdoor", sum := "bf41a87d0d776613eea370ef6e4bc6f4cd7237421c4a65104c355e78675a411f", func := "lanyard/lanyardlaw19.ViWants", spec := "viWants", inPlace := ["sync/atomic.AddInt64", "internal/bytealg.IndexByteString", "sync/atomic.LoadInt64", "sync/atomic.StoreInt64"], unfollowed := true, recurses := true, named := ["lanyard/ucell.none", "lanyard/ucell.wide"], apart := false, laid := [("lanyard/ucell.none", laid_lanyard_ucell_none), ("lanyard/ucell.wide", laid_lanyard_ucell_wide)] }
def ViWantsSaid : Prop := viWantsRow.holds Tryz.pinned (OpenSpec.ofChange viWantsSpec)

/-- ITS FALSE NEIGHBOUR: 'it returns false'. Refute it at one input. -/
def viWantsWrong : ChangeSpec := { name := "viWants", fn := fun _ => fun
  | [d1, d2] => { results := [.lit (.bool false)], args := [d1, d2] }
  | _ => none }
def ViWantsWrongFalsely : Prop := viWantsRow.holds Tryz.pinned (OpenSpec.ofChange viWantsWrong)

/-- 'lanyardlaw19.ViStays': WHATEVER THE INPUT: true; the input reads as it did. -/
def viStaysSpec : ChangeSpec := { name := "viStays", fn := fun _ => fun
  | [d1, d2] => { results := [.lit (.bool true)], args := [d1, d2] }
  | _ => none }
def viStaysRow : OpenClaim := { program := "ytpdeedplgmbopaagreatdoor", sum := "bf41a87d0d776613eea370ef6e4bc6f4cd7237421c4a65104c355e78675a411f", func := "lanyard/lanyardlaw19.ViStays", spec := "viStays", inPlace := ["sync/atomic.AddInt64", "internal/bytealg.IndexByteString", "sync/atomic.LoadInt64", "sync/atomic.StoreInt64"], unfollowed := true, recurses := true, named := ["lanyard/ucell.none", "lanyard/ucell.wide"], apart := false, laid := [("lanyard/ucell.none", laid_lanyard_ucell_none), ("lanyard/ucell.wide", laid_lanyard_ucell_wide)] }
def ViStaysSaid : Prop := viStaysRow.holds Tryz.pinned (OpenSpec.ofChange viStaysSpec)

/-- ITS FALSE NEIGHBOUR: 'it returns false'. Refute it at one input. -/
def viStaysWrong : ChangeSpec := { name := "viStays", fn := fun _ => fun
  | [d1, d2] => { results := [.lit (.bool false)], args := [d1, d2] }
  | _ => none }
def ViStaysWrongFalsely : Prop := viStaysRow.holds Tryz.pinned (OpenSpec.ofChange viStaysWrong)

/-- 'lanyardlaw19.ViFinds': WHATEVER THE INPUT: true; the input reads as it did. -/
def viFindsSpec : ChangeSpec := { name := "viFinds", fn := fun _ => fun
  | [d1, d2, d3] => { results := [.lit (.bool true)], args := [d1, d2, d3] }
  | _ => none }
def viFindsRow : OpenClaim := { program := "ytpdeedplgmbopaagreatdoor", sum := "bf41a87d0d776613eea370ef6e4bc6f4cd7237421c4a65104c355e78675a411f", func := "lanyard/lanyardlaw19.ViFinds", spec := "viFinds", inPlace := ["sync/atomic.AddInt64", "internal/bytealg.IndexByteString", "sync/atomic.LoadInt64", "sync/atomic.StoreInt64"], unfollowed := true, recurses := true, named := ["lanyard/ucell.none", "lanyard/ucell.wide"], apart := false, laid := [("lanyard/ucell.none", laid_lanyard_ucell_none), ("lanyard/ucell.wide", laid_lanyard_ucell_wide)] }
def ViFindsSaid : Prop := viFindsRow.holds Tryz.pinned (OpenSpec.ofChange viFindsSpec)

/-- ITS FALSE NEIGHBOUR: 'it returns false'. Refute it at one input. -/
def viFindsWrong : ChangeSpec := { name := "viFinds", fn := fun _ => fun
  | [d1, d2, d3] => { results := [.lit (.bool false)], args := [d1, d2, d3] }
  | _ => none }
def ViFindsWrongFalsely : Prop := viFindsRow.holds Tryz.pinned (OpenSpec.ofChange viFindsWrong)

/-- 'lanyardlaw19.ViRepeats': WHATEVER THE INPUT: true; the input reads as it did. -/
def viRepeatsSpec : ChangeSpec := { name := "viRepeats", fn := fun _ => fun
  | [d1, d2, d3] => { results := [.lit (.bool true)], args := [d1, d2, d3] }
  | _ => none }
def viRepeatsRow : OpenClaim := { program := "ytpdeedplgmbopaagreatdoor", sum := "bf41a87d0d776613eea370ef6e4bc6f4cd7237421c4a65104c355e78675a411f", func := "lanyard/lanyardlaw19.ViRepeats", spec := "viRepeats", inPlace := ["sync/atomic.AddInt64", "internal/bytealg.IndexByteString", "sync/atomic.LoadInt64", "sync/atomic.StoreInt64"], unfollowed := true, recurses := true, named := ["lanyard/ucell.none", "lanyard/ucell.wide"], apart := false, laid := [("lanyard/ucell.none", laid_lanyard_ucell_none), ("lanyard/ucell.wide", laid_lanyard_ucell_wide)] }
def ViRepeatsSaid : Prop := viRepeatsRow.holds Tryz.pinned (OpenSpec.ofChange viRepeatsSpec)

/-- ITS FALSE NEIGHBOUR: 'it returns false'. Refute it at one input. -/
def viRepeatsWrong : ChangeSpec := { name := "viRepeats", fn := fun _ => fun
  | [d1, d2, d3] => { results := [.lit (.bool false)], args := [d1, d2, d3] }
  | _ => none }
def ViRepeatsWrongFalsely : Prop := viRepeatsRow.holds Tryz.pinned (OpenSpec.ofChange viRepeatsWrong)

/-- 'lanyardlaw19.ViPuts': WHATEVER THE INPUT: true; the input reads as it did. -/
def viPutsSpec : ChangeSpec := { name := "viPuts", fn := fun _ => fun
  | [d1, d2, d3] => { results := [.lit (.bool true)], args := [d1, d2, d3] }
  | _ => none }
def viPutsRow : OpenClaim := { program := "ytpdeedplgmbopaagreatdoor", sum := "bf41a87d0d776613eea370ef6e4bc6f4cd7237421c4a65104c355e78675a411f", func := "lanyard/lanyardlaw19.ViPuts", spec := "viPuts", inPlace := ["sync/atomic.AddInt64", "internal/bytealg.IndexByteString", "sync/atomic.LoadInt64", "sync/atomic.StoreInt64"], unfollowed := true, recurses := true, named := ["lanyard/ucell.none", "lanyard/ucell.wide"], apart := false, laid := [("lanyard/ucell.none", laid_lanyard_ucell_none), ("lanyard/ucell.wide", laid_lanyard_ucell_wide)] }
def ViPutsSaid : Prop := viPutsRow.holds Tryz.pinned (OpenSpec.ofChange viPutsSpec)

/-- ITS FALSE NEIGHBOUR: 'it returns false'. Refute it at one input. -/
def viPutsWrong : ChangeSpec := { name := "viPuts", fn := fun _ => fun
  | [d1, d2, d3] => { results := [.lit (.bool false)], args := [d1, d2, d3] }
  | _ => none }
def ViPutsWrongFalsely : Prop := viPutsRow.holds Tryz.pinned (OpenSpec.ofChange viPutsWrong)

/-- 'lanyardlaw19.ViCounts': WHATEVER THE INPUT: true; the input reads as it did. -/
def viCountsSpec : ChangeSpec := { name := "viCounts", fn := fun _ => fun
  | [d1, d2] => { results := [.lit (.bool true)], args := [d1, d2] }
  | _ => none }
def viCountsRow : OpenClaim := { program := "ytpdeedplgmbopaagreatdoor", sum := "bf41a87d0d776613eea370ef6e4bc6f4cd7237421c4a65104c355e78675a411f", func := "lanyard/lanyardlaw19.ViCounts", spec := "viCounts", inPlace := ["sync/atomic.AddInt64", "internal/bytealg.IndexByteString", "sync/atomic.LoadInt64", "sync/atomic.StoreInt64"], unfollowed := true, recurses := true, named := ["lanyard/ucell.none", "lanyard/ucell.wide"], apart := false, laid := [("lanyard/ucell.none", laid_lanyard_ucell_none), ("lanyard/ucell.wide", laid_lanyard_ucell_wide)] }
def ViCountsSaid : Prop := viCountsRow.holds Tryz.pinned (OpenSpec.ofChange viCountsSpec)

/-- ITS FALSE NEIGHBOUR: 'it returns false'. Refute it at one input. -/
def viCountsWrong : ChangeSpec := { name := "viCounts", fn := fun _ => fun
  | [d1, d2] => { results := [.lit (.bool false)], args := [d1, d2] }
  | _ => none }
def ViCountsWrongFalsely : Prop := viCountsRow.holds Tryz.pinned (OpenSpec.ofChange viCountsWrong)

/-- 'lanyardlaw19.ViNone': WHATEVER THE INPUT: true; the input reads as it did. -/
def viNoneSpec : ChangeSpec := { name := "viNone", fn := fun _ => fun
  | [d] => { results := [.lit (.bool true)], args := [d] }
  | _ => none }
def viNoneRow : OpenClaim := { program := "ytpdeedplgmbopaagreatdoor", sum := "bf41a87d0d776613eea370ef6e4bc6f4cd7237421c4a65104c355e78675a411f", func := "lanyard/lanyardlaw19.ViNone", spec := "viNone", inPlace := ["sync/atomic.AddInt64", "internal/bytealg.IndexByteString", "sync/atomic.LoadInt64", "sync/atomic.StoreInt64"], unfollowed := true, recurses := true, named := ["lanyard/ucell.none", "lanyard/ucell.wide"], apart := false, laid := [("lanyard/ucell.none", laid_lanyard_ucell_none), ("lanyard/ucell.wide", laid_lanyard_ucell_wide)] }
def ViNoneSaid : Prop := viNoneRow.holds Tryz.pinned (OpenSpec.ofChange viNoneSpec)

/-- ITS FALSE NEIGHBOUR: 'it returns false'. Refute it at one input. -/
def viNoneWrong : ChangeSpec := { name := "viNone", fn := fun _ => fun
  | [d] => { results := [.lit (.bool false)], args := [d] }
  | _ => none }
def ViNoneWrongFalsely : Prop := viNoneRow.holds Tryz.pinned (OpenSpec.ofChange viNoneWrong)

/- THE SECOND FORM. 'bulk': how many values and letters a reading holds, each counted each time it is reached (what is shared counts as often as it is met; a slice's spare places count too). A statement '..UptoSaid' is the law's where the arguments, and the package variables that the reading takes, are together of bulk at most 1048576: NARROWER than '..Said'. Prove '..Said' where nothing that the law and all that it calls make is longer than what came in: it says more and counts as full. Else prove '..UptoSaid'. A law counts once. -/
mutual
def uptoBulk {H : Type} : DataW H → Nat
  | .lit (.string bytes) => bytes.length + 1
  | .lit _ => 1
  | .nil => 1
  | .ptr d => uptoBulk d + 1
  | .slice elems spare => uptoBulkAll elems + uptoBulkAll spare + 1
  | .agg parts => uptoBulkAll parts + 1
  | .iface _ d => uptoBulk d + 1
  | .map entries => uptoBulkEntries entries + 1
  | .held _ => 1
def uptoBulkAll {H : Type} : List (DataW H) → Nat
  | [] => 0
  | d :: r => uptoBulk d + uptoBulkAll r
def uptoBulkEntries {H : Type} : List (Lit × DataW H) → Nat
  | [] => 0
  | x :: r => uptoBulkEntry x + uptoBulkEntries r
def uptoBulkEntry {H : Type} : Lit × DataW H → Nat
  | (.string bytes, d) => bytes.length + uptoBulk d + 1
  | (_, d) => uptoBulk d + 1
 end
def uptoSmall : (H : Type) → List (DataW H) → Bool := fun _ ds => decide (uptoBulkAll ds ≤ 1048576)
def OpenSpec.upto (s : _root_.Go.ChangeSpec) : _root_.Go.OpenSpec := { _root_.Go.OpenSpec.ofChange s with cond := some uptoSmall }

/-- 'lanyardlaw19.ViTargets', WHERE WHAT IT READS IS OF BULK AT MOST 1048576: true; the input reads as it did. -/
def viTargetsUptoRow : OpenClaim := { program := "ytpdeedplgmbopaagreatdoor", sum := "bf41a87d0d776613eea370ef6e4bc6f4cd7237421c4a65104c355e78675a411f", func := "lanyard/lanyardlaw19.ViTargets", spec := "viTargets", inPlace := ["internal/bytealg.IndexByteString", "sync/atomic.AddInt64", "sync/atomic.LoadInt64", "sync/atomic.StoreInt64"], unfollowed := true, recurses := true, named := ["lanyard/ucell.none", "lanyard/ucell.wide"], apart := false, laid := [("lanyard/ucell.none", laid_lanyard_ucell_none), ("lanyard/ucell.wide", laid_lanyard_ucell_wide)], narrowed := true }
def ViTargetsUptoSaid : Prop := viTargetsUptoRow.holds Tryz.pinned (OpenSpec.upto viTargetsSpec)

/-- 'lanyardlaw19.ViWants', WHERE WHAT IT READS IS OF BULK AT MOST 1048576: true; the input reads as it did. -/
def viWantsUptoRow : OpenClaim := { program := "ytpdeedplgmbopaagreatdoor", sum := "bf41a87d0d776613eea370ef6e4bc6f4cd7237421c4a65104c355e78675a411f", func := "lanyard/lanyardlaw19.ViWants", spec := "viWants", inPlace := ["sync/atomic.AddInt64", "internal/bytealg.IndexByteString", "sync/atomic.LoadInt64", "sync/atomic.StoreInt64"], unfollowed := true, recurses := true, named := ["lanyard/ucell.none", "lanyard/ucell.wide"], apart := false, laid := [("lanyard/ucell.none", laid_lanyard_ucell_none), ("lanyard/ucell.wide", laid_lanyard_ucell_wide)], narrowed := true }
def ViWantsUptoSaid : Prop := viWantsUptoRow.holds Tryz.pinned (OpenSpec.upto viWantsSpec)

/-- 'lanyardlaw19.ViStays', WHERE WHAT IT READS IS OF BULK AT MOST 1048576: true; the input reads as it did. -/
def viStaysUptoRow : OpenClaim := { program := "ytpdeedplgmbopaagreatdoor", sum := "bf41a87d0d776613eea370ef6e4bc6f4cd7237421c4a65104c355e78675a411f", func := "lanyard/lanyardlaw19.ViStays", spec := "viStays", inPlace := ["sync/atomic.AddInt64", "internal/bytealg.IndexByteString", "sync/atomic.LoadInt64", "sync/atomic.StoreInt64"], unfollowed := true, recurses := true, named := ["lanyard/ucell.none", "lanyard/ucell.wide"], apart := false, laid := [("lanyard/ucell.none", laid_lanyard_ucell_none), ("lanyard/ucell.wide", laid_lanyard_ucell_wide)], narrowed := true }
def ViStaysUptoSaid : Prop := viStaysUptoRow.holds Tryz.pinned (OpenSpec.upto viStaysSpec)

/-- 'lanyardlaw19.ViFinds', WHERE WHAT IT READS IS OF BULK AT MOST 1048576: true; the input reads as it did. -/
def viFindsUptoRow : OpenClaim := { program := "ytpdeedplgmbopaagreatdoor", sum := "bf41a87d0d776613eea370ef6e4bc6f4cd7237421c4a65104c355e78675a411f", func := "lanyard/lanyardlaw19.ViFinds", spec := "viFinds", inPlace := ["sync/atomic.AddInt64", "internal/bytealg.IndexByteString", "sync/atomic.LoadInt64", "sync/atomic.StoreInt64"], unfollowed := true, recurses := true, named := ["lanyard/ucell.none", "lanyard/ucell.wide"], apart := false, laid := [("lanyard/ucell.none", laid_lanyard_ucell_none), ("lanyard/ucell.wide", laid_lanyard_ucell_wide)], narrowed := true }
def ViFindsUptoSaid : Prop := viFindsUptoRow.holds Tryz.pinned (OpenSpec.upto viFindsSpec)

/-- 'lanyardlaw19.ViRepeats', WHERE WHAT IT READS IS OF BULK AT MOST 1048576: true; the input reads as it did. -/
def viRepeatsUptoRow : OpenClaim := { program := "ytpdeedplgmbopaagreatdoor", sum := "bf41a87d0d776613eea370ef6e4bc6f4cd7237421c4a65104c355e78675a411f", func := "lanyard/lanyardlaw19.ViRepeats", spec := "viRepeats", inPlace := ["sync/atomic.AddInt64", "internal/bytealg.IndexByteString", "sync/atomic.LoadInt64", "sync/atomic.StoreInt64"], unfollowed := true, recurses := true, named := ["lanyard/ucell.none", "lanyard/ucell.wide"], apart := false, laid := [("lanyard/ucell.none", laid_lanyard_ucell_none), ("lanyard/ucell.wide", laid_lanyard_ucell_wide)], narrowed := true }
def ViRepeatsUptoSaid : Prop := viRepeatsUptoRow.holds Tryz.pinned (OpenSpec.upto viRepeatsSpec)

/-- 'lanyardlaw19.ViPuts', WHERE WHAT IT READS IS OF BULK AT MOST 1048576: true; the input reads as it did. -/
def viPutsUptoRow : OpenClaim := { program := "ytpdeedplgmbopaagreatdoor", sum := "bf41a87d0d776613eea370ef6e4bc6f4cd7237421c4a65104c355e78675a411f", func := "lanyard/lanyardlaw19.ViPuts", spec := "viPuts", inPlace := ["sync/atomic.AddInt64", "internal/bytealg.IndexByteString", "sync/atomic.LoadInt64", "sync/atomic.StoreInt64"], unfollowed := true, recurses := true, named := ["lanyard/ucell.none", "lanyard/ucell.wide"], apart := false, laid := [("lanyard/ucell.none", laid_lanyard_ucell_none), ("lanyard/ucell.wide", laid_lanyard_ucell_wide)], narrowed := true }
def ViPutsUptoSaid : Prop := viPutsUptoRow.holds Tryz.pinned (OpenSpec.upto viPutsSpec)

/-- 'lanyardlaw19.ViCounts', WHERE WHAT IT READS IS OF BULK AT MOST 1048576: true; the input reads as it did. -/
def viCountsUptoRow : OpenClaim := { program := "ytpdeedplgmbopaagreatdoor", sum := "bf41a87d0d776613eea370ef6e4bc6f4cd7237421c4a65104c355e78675a411f", func := "lanyard/lanyardlaw19.ViCounts", spec := "viCounts", inPlace := ["sync/atomic.AddInt64", "internal/bytealg.IndexByteString", "sync/atomic.LoadInt64", "sync/atomic.StoreInt64"], unfollowed := true, recurses := true, named := ["lanyard/ucell.none", "lanyard/ucell.wide"], apart := false, laid := [("lanyard/ucell.none", laid_lanyard_ucell_none), ("lanyard/ucell.wide", laid_lanyard_ucell_wide)], narrowed := true }
def ViCountsUptoSaid : Prop := viCountsUptoRow.holds Tryz.pinned (OpenSpec.upto viCountsSpec)

/-- 'lanyardlaw19.ViNone', WHERE WHAT IT READS IS OF BULK AT MOST 1048576: true; the input reads as it did. -/
def viNoneUptoRow : OpenClaim := { program := "ytpdeedplgmbopaagreatdoor", sum := "bf41a87d0d776613eea370ef6e4bc6f4cd7237421c4a65104c355e78675a411f", func := "lanyard/lanyardlaw19.ViNone", spec := "viNone", inPlace := ["sync/atomic.AddInt64", "internal/bytealg.IndexByteString", "sync/atomic.LoadInt64", "sync/atomic.StoreInt64"], unfollowed := true, recurses := true, named := ["lanyard/ucell.none", "lanyard/ucell.wide"], apart := false, laid := [("lanyard/ucell.none", laid_lanyard_ucell_none), ("lanyard/ucell.wide", laid_lanyard_ucell_wide)], narrowed := true }
def ViNoneUptoSaid : Prop := viNoneUptoRow.holds Tryz.pinned (OpenSpec.upto viNoneSpec)

end Rows
end Go.Proofs.YtpdeedplgmbopaaGreatDoor
