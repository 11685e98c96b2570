/-
  NARROWER THAN 'FOR EVERY INPUT', by the rows' own cells (each row's printed sentence says how): FnExactUnlink: laid · FnExactRename: laid · FnExactApply: laid · FnIdsRise: laid · FnQuotaEdge: laid · FnApart: laid · FnRootStays: laid · FnRemoved: laid · FnMoved: laid · FnTreesBent: laid · FnUnlinked: laid · FnDirs: laid · FnLinked: laid · FnMade: laid · FnHeldFast: laid · FnQuota: laid.
  DERIVED. THE GIVEN ROWS OF THIS SEAT. 16 by the template 'for every input the law returns true; each argument reads behind the call as it read before'; 0 by the template 'total and deterministic' (their statements: YtnhdalnfboiooaaGreatDoorTotals.lean).
  GIVEN WITH THE SEED: the statements are not yours to turn. If you find one false, say at which input.
  Laid BY PROGRAM, IN A SANDBOX (cutbox-rows.mjs): the forced cells as the released guide's own fill.sh prints them over the translation ccfa97355999119d… (all of the seat's roots in one cut). By AI agents, Wed Nov 11 2026. No macro, syntax, notation, axiom, sorry.
-/
import Derived.Test.YtnhdalnfboiooaaGreatDoorChecked
import GoSem.PinnedTables
import GoSem.Claim
import GoSem.ClaimJoined
import GoSem.ClaimMapViews
import Derived.JoinedTies
import Derived.KernelRfl
namespace Go.Proofs.YtnhdalnfboiooaaGreatDoor
/- THE CELL 'sum', in the pinned program and in every row, IS THE sha256 OF THE DUMP (.gsa) THAT YtnhdalnfboiooaaGreatDoorProg.lean LOADS. Nothing in Lean hashes anything: it is a label: what it is worth is what the hold of that sum in a sandbox is worth. -/
noncomputable def Tryz.pinned : Pinned := { name := "ytnhdalnfboiooaagreatdoor", sum := "ccfa97355999119d3a3e4292e36d79a4062a93939dcecd4fc659a5e6e5d75e0f", checked := Tryz.checked }
namespace Rows
def none {H : Type} : Left H := { results := [], args := [] }

/- WHAT THE LISTED PACKAGE-LEVEL VARIABLES READ AS WHEN THE CALL BEGINS. Each datum BY PROGRAM (the guide's laid-datum.mjs) off the statement by which the dump's own 'gosem.cut.vars' lays the variable. In a bare row this is a premise. The card (YtnhdalnfboiooaaGreatDoorCards.lean) ties it to the program's text. -/
def laid_unicode_utf8_acceptRanges {H : Type} : DataW H := .agg [.agg [.lit (.int .u8 128), .lit (.int .u8 191)], .agg [.lit (.int .u8 160), .lit (.int .u8 191)], .agg [.lit (.int .u8 128), .lit (.int .u8 159)], .agg [.lit (.int .u8 144), .lit (.int .u8 191)], .agg [.lit (.int .u8 128), .lit (.int .u8 143)], .agg [.lit (.int .u8 0), .lit (.int .u8 0)], .agg [.lit (.int .u8 0), .lit (.int .u8 0)], .agg [.lit (.int .u8 0), .lit (.int .u8 0)], .agg [.lit (.int .u8 0), .lit (.int .u8 0)], .agg [.lit (.int .u8 0), .lit (.int .u8 0)], .agg [.lit (.int .u8 0), .lit (.int .u8 0)], .agg [.lit (.int .u8 0), .lit (.int .u8 0)], .agg [.lit (.int .u8 0), .lit (.int .u8 0)], .agg [.lit (.int .u8 0), .lit (.int .u8 0)], .agg [.lit (.int .u8 0), .lit (.int .u8 0)], .agg [.lit (.int .u8 0), .lit (.int .u8 0)]]
/-- One of Go's own tables, pinned by name: the form's constant. -/
def laid_unicode_utf8_first : DataW Unit := Go.Pinned.utf8First

/-- 'laws.FnExactUnlink': WHATEVER THE INPUT: true; the input reads as it did. -/
def fnExactUnlinkSpec : ChangeSpec := { name := "fnExactUnlink", fn := fun _ => fun
  | [d1, d2] => { results := [.lit (.bool true)], args := [d1, d2] }
  | _ => none }
def fnExactUnlinkRow : OpenClaim := { program := "ytnhdalnfboiooaagreatdoor", sum := "ccfa97355999119d3a3e4292e36d79a4062a93939dcecd4fc659a5e6e5d75e0f", func := "loop.example/g00285/laws.FnExactUnlink", spec := "fnExactUnlink", inPlace := ["internal/bytealg.CountString", "internal/bytealg.IndexByteString", "internal/bytealg.IndexString", "internal/abi.NoEscape", "internal/bytealg.MakeNoZero", "slices.overlaps[loop.example/g00285/impl.Inode]"], unfollowed := true, recurses := true, named := ["unicode/utf8.first", "unicode/utf8.acceptRanges", "internal/bytealg.MaxLen"], apart := false, laid := [("unicode/utf8.acceptRanges", laid_unicode_utf8_acceptRanges), ("unicode/utf8.first", laid_unicode_utf8_first)] }
def FnExactUnlinkSaid : Prop := fnExactUnlinkRow.holds Tryz.pinned (OpenSpec.ofChange fnExactUnlinkSpec)

/-- ITS FALSE NEIGHBOUR: 'it returns false'. Refute it at one input. -/
def fnExactUnlinkWrong : ChangeSpec := { name := "fnExactUnlink", fn := fun _ => fun
  | [d1, d2] => { results := [.lit (.bool false)], args := [d1, d2] }
  | _ => none }
def FnExactUnlinkWrongFalsely : Prop := fnExactUnlinkRow.holds Tryz.pinned (OpenSpec.ofChange fnExactUnlinkWrong)

/-- 'laws.FnExactRename': WHATEVER THE INPUT: true; the input reads as it did. -/
def fnExactRenameSpec : ChangeSpec := { name := "fnExactRename", fn := fun _ => fun
  | [d1, d2, d3] => { results := [.lit (.bool true)], args := [d1, d2, d3] }
  | _ => none }
def fnExactRenameRow : OpenClaim := { program := "ytnhdalnfboiooaagreatdoor", sum := "ccfa97355999119d3a3e4292e36d79a4062a93939dcecd4fc659a5e6e5d75e0f", func := "loop.example/g00285/laws.FnExactRename", spec := "fnExactRename", inPlace := ["internal/bytealg.CountString", "internal/bytealg.IndexByteString", "internal/bytealg.IndexString", "internal/abi.NoEscape", "internal/bytealg.MakeNoZero", "slices.overlaps[loop.example/g00285/impl.Inode]", "slices.overlaps[loop.example/g00285/impl.Ent]"], unfollowed := true, recurses := true, named := ["unicode/utf8.first", "unicode/utf8.acceptRanges", "internal/bytealg.MaxLen"], apart := false, laid := [("unicode/utf8.acceptRanges", laid_unicode_utf8_acceptRanges), ("unicode/utf8.first", laid_unicode_utf8_first)] }
def FnExactRenameSaid : Prop := fnExactRenameRow.holds Tryz.pinned (OpenSpec.ofChange fnExactRenameSpec)

/-- ITS FALSE NEIGHBOUR: 'it returns false'. Refute it at one input. -/
def fnExactRenameWrong : ChangeSpec := { name := "fnExactRename", fn := fun _ => fun
  | [d1, d2, d3] => { results := [.lit (.bool false)], args := [d1, d2, d3] }
  | _ => none }
def FnExactRenameWrongFalsely : Prop := fnExactRenameRow.holds Tryz.pinned (OpenSpec.ofChange fnExactRenameWrong)

/-- 'laws.FnExactApply': WHATEVER THE INPUT: true; the input reads as it did. -/
def fnExactApplySpec : ChangeSpec := { name := "fnExactApply", fn := fun _ => fun
  | [d1, d2] => { results := [.lit (.bool true)], args := [d1, d2] }
  | _ => none }
def fnExactApplyRow : OpenClaim := { program := "ytnhdalnfboiooaagreatdoor", sum := "ccfa97355999119d3a3e4292e36d79a4062a93939dcecd4fc659a5e6e5d75e0f", func := "loop.example/g00285/laws.FnExactApply", spec := "fnExactApply", inPlace := ["internal/bytealg.CountString", "internal/bytealg.IndexByteString", "internal/bytealg.IndexString", "internal/abi.NoEscape", "internal/bytealg.MakeNoZero", "slices.overlaps[loop.example/g00285/impl.Ent]", "slices.overlaps[loop.example/g00285/impl.Inode]", "slices.overlaps[loop.example/g00285/impl.Attr]"], unfollowed := true, recurses := true, named := ["unicode/utf8.first", "unicode/utf8.acceptRanges", "internal/bytealg.MaxLen"], apart := false, laid := [("unicode/utf8.acceptRanges", laid_unicode_utf8_acceptRanges), ("unicode/utf8.first", laid_unicode_utf8_first)] }
def FnExactApplySaid : Prop := fnExactApplyRow.holds Tryz.pinned (OpenSpec.ofChange fnExactApplySpec)

/-- ITS FALSE NEIGHBOUR: 'it returns false'. Refute it at one input. -/
def fnExactApplyWrong : ChangeSpec := { name := "fnExactApply", fn := fun _ => fun
  | [d1, d2] => { results := [.lit (.bool false)], args := [d1, d2] }
  | _ => none }
def FnExactApplyWrongFalsely : Prop := fnExactApplyRow.holds Tryz.pinned (OpenSpec.ofChange fnExactApplyWrong)

/-- 'laws.FnIdsRise': WHATEVER THE INPUT: true; the input reads as it did. -/
def fnIdsRiseSpec : ChangeSpec := { name := "fnIdsRise", fn := fun _ => fun
  | [d] => { results := [.lit (.bool true)], args := [d] }
  | _ => none }
def fnIdsRiseRow : OpenClaim := { program := "ytnhdalnfboiooaagreatdoor", sum := "ccfa97355999119d3a3e4292e36d79a4062a93939dcecd4fc659a5e6e5d75e0f", func := "loop.example/g00285/laws.FnIdsRise", spec := "fnIdsRise", inPlace := ["internal/bytealg.CountString", "internal/bytealg.IndexByteString", "internal/bytealg.IndexString", "internal/abi.NoEscape", "internal/bytealg.MakeNoZero", "slices.overlaps[loop.example/g00285/impl.Ent]", "slices.overlaps[loop.example/g00285/impl.Inode]", "slices.overlaps[loop.example/g00285/impl.Attr]"], unfollowed := true, recurses := true, named := ["unicode/utf8.first", "unicode/utf8.acceptRanges", "internal/bytealg.MaxLen"], apart := false, laid := [("unicode/utf8.acceptRanges", laid_unicode_utf8_acceptRanges), ("unicode/utf8.first", laid_unicode_utf8_first)] }
def FnIdsRiseSaid : Prop := fnIdsRiseRow.holds Tryz.pinned (OpenSpec.ofChange fnIdsRiseSpec)

/-- ITS FALSE NEIGHBOUR: 'it returns false'. Refute it at one input. -/
def fnIdsRiseWrong : ChangeSpec := { name := "fnIdsRise", fn := fun _ => fun
  | [d] => { results := [.lit (.bool false)], args := [d] }
  | _ => none }
def FnIdsRiseWrongFalsely : Prop := fnIdsRiseRow.holds Tryz.pinned (OpenSpec.ofChange fnIdsRiseWrong)

/-- 'laws.FnQuotaEdge': WHATEVER THE INPUT: true; the input reads as it did. -/
def fnQuotaEdgeSpec : ChangeSpec := { name := "fnQuotaEdge", fn := fun _ => fun
  | [d] => { results := [.lit (.bool true)], args := [d] }
  | _ => none }
def fnQuotaEdgeRow : OpenClaim := { program := "ytnhdalnfboiooaagreatdoor", sum := "ccfa97355999119d3a3e4292e36d79a4062a93939dcecd4fc659a5e6e5d75e0f", func := "loop.example/g00285/laws.FnQuotaEdge", spec := "fnQuotaEdge", inPlace := ["internal/bytealg.CountString", "internal/bytealg.IndexByteString", "internal/bytealg.IndexString", "internal/abi.NoEscape", "internal/bytealg.MakeNoZero", "slices.overlaps[loop.example/g00285/impl.Ent]", "slices.overlaps[loop.example/g00285/impl.Inode]", "slices.overlaps[loop.example/g00285/impl.Attr]"], unfollowed := true, recurses := true, named := ["unicode/utf8.first", "unicode/utf8.acceptRanges", "internal/bytealg.MaxLen"], apart := false, laid := [("unicode/utf8.acceptRanges", laid_unicode_utf8_acceptRanges), ("unicode/utf8.first", laid_unicode_utf8_first)] }
def FnQuotaEdgeSaid : Prop := fnQuotaEdgeRow.holds Tryz.pinned (OpenSpec.ofChange fnQuotaEdgeSpec)

/-- ITS FALSE NEIGHBOUR: 'it returns false'. Refute it at one input. -/
def fnQuotaEdgeWrong : ChangeSpec := { name := "fnQuotaEdge", fn := fun _ => fun
  | [d] => { results := [.lit (.bool false)], args := [d] }
  | _ => none }
def FnQuotaEdgeWrongFalsely : Prop := fnQuotaEdgeRow.holds Tryz.pinned (OpenSpec.ofChange fnQuotaEdgeWrong)

/-- 'laws.FnApart': WHATEVER THE INPUT: true; the input reads as it did. -/
def fnApartSpec : ChangeSpec := { name := "fnApart", fn := fun _ => fun
  | [d] => { results := [.lit (.bool true)], args := [d] }
  | _ => none }
def fnApartRow : OpenClaim := { program := "ytnhdalnfboiooaagreatdoor", sum := "ccfa97355999119d3a3e4292e36d79a4062a93939dcecd4fc659a5e6e5d75e0f", func := "loop.example/g00285/laws.FnApart", spec := "fnApart", inPlace := ["internal/bytealg.CountString", "internal/bytealg.IndexByteString", "internal/bytealg.IndexString", "internal/abi.NoEscape", "internal/bytealg.MakeNoZero", "slices.overlaps[loop.example/g00285/impl.Ent]", "slices.overlaps[loop.example/g00285/impl.Inode]", "slices.overlaps[loop.example/g00285/impl.Attr]"], unfollowed := true, recurses := true, named := ["unicode/utf8.first", "unicode/utf8.acceptRanges", "internal/bytealg.MaxLen"], apart := false, laid := [("unicode/utf8.acceptRanges", laid_unicode_utf8_acceptRanges), ("unicode/utf8.first", laid_unicode_utf8_first)] }
def FnApartSaid : Prop := fnApartRow.holds Tryz.pinned (OpenSpec.ofChange fnApartSpec)

/-- ITS FALSE NEIGHBOUR: 'it returns false'. Refute it at one input. -/
def fnApartWrong : ChangeSpec := { name := "fnApart", fn := fun _ => fun
  | [d] => { results := [.lit (.bool false)], args := [d] }
  | _ => none }
def FnApartWrongFalsely : Prop := fnApartRow.holds Tryz.pinned (OpenSpec.ofChange fnApartWrong)

/-- 'laws.FnRootStays': WHATEVER THE INPUT: true; the input reads as it did. -/
def fnRootStaysSpec : ChangeSpec := { name := "fnRootStays", fn := fun _ => fun
  | [d] => { results := [.lit (.bool true)], args := [d] }
  | _ => none }
def fnRootStaysRow : OpenClaim := { program := "ytnhdalnfboiooaagreatdoor", sum := "ccfa97355999119d3a3e4292e36d79a4062a93939dcecd4fc659a5e6e5d75e0f", func := "loop.example/g00285/laws.FnRootStays", spec := "fnRootStays", inPlace := ["internal/bytealg.CountString", "internal/bytealg.IndexByteString", "internal/bytealg.IndexString", "internal/abi.NoEscape", "internal/bytealg.MakeNoZero", "slices.overlaps[loop.example/g00285/impl.Ent]", "slices.overlaps[loop.example/g00285/impl.Inode]"], unfollowed := true, recurses := true, named := ["unicode/utf8.first", "unicode/utf8.acceptRanges", "internal/bytealg.MaxLen"], apart := false, laid := [("unicode/utf8.acceptRanges", laid_unicode_utf8_acceptRanges), ("unicode/utf8.first", laid_unicode_utf8_first)] }
def FnRootStaysSaid : Prop := fnRootStaysRow.holds Tryz.pinned (OpenSpec.ofChange fnRootStaysSpec)

/-- ITS FALSE NEIGHBOUR: 'it returns false'. Refute it at one input. -/
def fnRootStaysWrong : ChangeSpec := { name := "fnRootStays", fn := fun _ => fun
  | [d] => { results := [.lit (.bool false)], args := [d] }
  | _ => none }
def FnRootStaysWrongFalsely : Prop := fnRootStaysRow.holds Tryz.pinned (OpenSpec.ofChange fnRootStaysWrong)

/-- 'laws.FnRemoved': WHATEVER THE INPUT: true; the input reads as it did. -/
def fnRemovedSpec : ChangeSpec := { name := "fnRemoved", fn := fun _ => fun
  | [d] => { results := [.lit (.bool true)], args := [d] }
  | _ => none }
def fnRemovedRow : OpenClaim := { program := "ytnhdalnfboiooaagreatdoor", sum := "ccfa97355999119d3a3e4292e36d79a4062a93939dcecd4fc659a5e6e5d75e0f", func := "loop.example/g00285/laws.FnRemoved", spec := "fnRemoved", inPlace := ["internal/bytealg.CountString", "internal/bytealg.IndexByteString", "internal/bytealg.IndexString", "internal/abi.NoEscape", "internal/bytealg.MakeNoZero", "slices.overlaps[loop.example/g00285/impl.Inode]"], unfollowed := true, recurses := true, named := ["unicode/utf8.first", "unicode/utf8.acceptRanges", "internal/bytealg.MaxLen"], apart := false, laid := [("unicode/utf8.acceptRanges", laid_unicode_utf8_acceptRanges), ("unicode/utf8.first", laid_unicode_utf8_first)] }
def FnRemovedSaid : Prop := fnRemovedRow.holds Tryz.pinned (OpenSpec.ofChange fnRemovedSpec)

/-- ITS FALSE NEIGHBOUR: 'it returns false'. Refute it at one input. -/
def fnRemovedWrong : ChangeSpec := { name := "fnRemoved", fn := fun _ => fun
  | [d] => { results := [.lit (.bool false)], args := [d] }
  | _ => none }
def FnRemovedWrongFalsely : Prop := fnRemovedRow.holds Tryz.pinned (OpenSpec.ofChange fnRemovedWrong)

/-- 'laws.FnMoved': WHATEVER THE INPUT: true; the input reads as it did. -/
def fnMovedSpec : ChangeSpec := { name := "fnMoved", fn := fun _ => fun
  | [d] => { results := [.lit (.bool true)], args := [d] }
  | _ => none }
def fnMovedRow : OpenClaim := { program := "ytnhdalnfboiooaagreatdoor", sum := "ccfa97355999119d3a3e4292e36d79a4062a93939dcecd4fc659a5e6e5d75e0f", func := "loop.example/g00285/laws.FnMoved", spec := "fnMoved", inPlace := ["internal/bytealg.CountString", "internal/bytealg.IndexByteString", "internal/bytealg.IndexString", "internal/abi.NoEscape", "internal/bytealg.MakeNoZero", "slices.overlaps[loop.example/g00285/impl.Inode]", "slices.overlaps[loop.example/g00285/impl.Ent]"], unfollowed := true, recurses := true, named := ["unicode/utf8.first", "unicode/utf8.acceptRanges", "internal/bytealg.MaxLen"], apart := false, laid := [("unicode/utf8.acceptRanges", laid_unicode_utf8_acceptRanges), ("unicode/utf8.first", laid_unicode_utf8_first)] }
def FnMovedSaid : Prop := fnMovedRow.holds Tryz.pinned (OpenSpec.ofChange fnMovedSpec)

/-- ITS FALSE NEIGHBOUR: 'it returns false'. Refute it at one input. -/
def fnMovedWrong : ChangeSpec := { name := "fnMoved", fn := fun _ => fun
  | [d] => { results := [.lit (.bool false)], args := [d] }
  | _ => none }
def FnMovedWrongFalsely : Prop := fnMovedRow.holds Tryz.pinned (OpenSpec.ofChange fnMovedWrong)

/-- 'laws.FnTreesBent': WHATEVER THE INPUT: true; the input reads as it did. -/
def fnTreesBentSpec : ChangeSpec := { name := "fnTreesBent", fn := fun _ => fun
  | [d] => { results := [.lit (.bool true)], args := [d] }
  | _ => none }
def fnTreesBentRow : OpenClaim := { program := "ytnhdalnfboiooaagreatdoor", sum := "ccfa97355999119d3a3e4292e36d79a4062a93939dcecd4fc659a5e6e5d75e0f", func := "loop.example/g00285/laws.FnTreesBent", spec := "fnTreesBent", inPlace := ["internal/bytealg.CountString", "internal/bytealg.IndexByteString", "internal/bytealg.IndexString", "internal/abi.NoEscape", "internal/bytealg.MakeNoZero", "slices.overlaps[loop.example/g00285/impl.Ent]", "slices.overlaps[loop.example/g00285/impl.Inode]", "slices.overlaps[loop.example/g00285/impl.Attr]"], unfollowed := true, recurses := true, named := ["unicode/utf8.first", "unicode/utf8.acceptRanges", "internal/bytealg.MaxLen"], apart := false, laid := [("unicode/utf8.acceptRanges", laid_unicode_utf8_acceptRanges), ("unicode/utf8.first", laid_unicode_utf8_first)] }
def FnTreesBentSaid : Prop := fnTreesBentRow.holds Tryz.pinned (OpenSpec.ofChange fnTreesBentSpec)

/-- ITS FALSE NEIGHBOUR: 'it returns false'. Refute it at one input. -/
def fnTreesBentWrong : ChangeSpec := { name := "fnTreesBent", fn := fun _ => fun
  | [d] => { results := [.lit (.bool false)], args := [d] }
  | _ => none }
def FnTreesBentWrongFalsely : Prop := fnTreesBentRow.holds Tryz.pinned (OpenSpec.ofChange fnTreesBentWrong)

/-- 'laws.FnUnlinked': WHATEVER THE INPUT: true; the input reads as it did. -/
def fnUnlinkedSpec : ChangeSpec := { name := "fnUnlinked", fn := fun _ => fun
  | [d] => { results := [.lit (.bool true)], args := [d] }
  | _ => none }
def fnUnlinkedRow : OpenClaim := { program := "ytnhdalnfboiooaagreatdoor", sum := "ccfa97355999119d3a3e4292e36d79a4062a93939dcecd4fc659a5e6e5d75e0f", func := "loop.example/g00285/laws.FnUnlinked", spec := "fnUnlinked", inPlace := ["internal/bytealg.CountString", "internal/bytealg.IndexByteString", "internal/bytealg.IndexString", "internal/abi.NoEscape", "internal/bytealg.MakeNoZero", "slices.overlaps[loop.example/g00285/impl.Inode]"], unfollowed := true, recurses := true, named := ["unicode/utf8.first", "unicode/utf8.acceptRanges", "internal/bytealg.MaxLen"], apart := false, laid := [("unicode/utf8.acceptRanges", laid_unicode_utf8_acceptRanges), ("unicode/utf8.first", laid_unicode_utf8_first)] }
def FnUnlinkedSaid : Prop := fnUnlinkedRow.holds Tryz.pinned (OpenSpec.ofChange fnUnlinkedSpec)

/-- ITS FALSE NEIGHBOUR: 'it returns false'. Refute it at one input. -/
def fnUnlinkedWrong : ChangeSpec := { name := "fnUnlinked", fn := fun _ => fun
  | [d] => { results := [.lit (.bool false)], args := [d] }
  | _ => none }
def FnUnlinkedWrongFalsely : Prop := fnUnlinkedRow.holds Tryz.pinned (OpenSpec.ofChange fnUnlinkedWrong)

/-- 'laws.FnDirs': WHATEVER THE INPUT: true; the input reads as it did. -/
def fnDirsSpec : ChangeSpec := { name := "fnDirs", fn := fun _ => fun
  | [d] => { results := [.lit (.bool true)], args := [d] }
  | _ => none }
def fnDirsRow : OpenClaim := { program := "ytnhdalnfboiooaagreatdoor", sum := "ccfa97355999119d3a3e4292e36d79a4062a93939dcecd4fc659a5e6e5d75e0f", func := "loop.example/g00285/laws.FnDirs", spec := "fnDirs", inPlace := ["internal/bytealg.CountString", "internal/bytealg.IndexByteString", "internal/bytealg.IndexString", "internal/abi.NoEscape", "internal/bytealg.MakeNoZero", "slices.overlaps[loop.example/g00285/impl.Ent]", "slices.overlaps[loop.example/g00285/impl.Inode]"], unfollowed := true, recurses := true, named := ["unicode/utf8.first", "unicode/utf8.acceptRanges", "internal/bytealg.MaxLen"], apart := false, laid := [("unicode/utf8.acceptRanges", laid_unicode_utf8_acceptRanges), ("unicode/utf8.first", laid_unicode_utf8_first)] }
def FnDirsSaid : Prop := fnDirsRow.holds Tryz.pinned (OpenSpec.ofChange fnDirsSpec)

/-- ITS FALSE NEIGHBOUR: 'it returns false'. Refute it at one input. -/
def fnDirsWrong : ChangeSpec := { name := "fnDirs", fn := fun _ => fun
  | [d] => { results := [.lit (.bool false)], args := [d] }
  | _ => none }
def FnDirsWrongFalsely : Prop := fnDirsRow.holds Tryz.pinned (OpenSpec.ofChange fnDirsWrong)

/-- 'laws.FnLinked': WHATEVER THE INPUT: true; the input reads as it did. -/
def fnLinkedSpec : ChangeSpec := { name := "fnLinked", fn := fun _ => fun
  | [d] => { results := [.lit (.bool true)], args := [d] }
  | _ => none }
def fnLinkedRow : OpenClaim := { program := "ytnhdalnfboiooaagreatdoor", sum := "ccfa97355999119d3a3e4292e36d79a4062a93939dcecd4fc659a5e6e5d75e0f", func := "loop.example/g00285/laws.FnLinked", spec := "fnLinked", inPlace := ["internal/bytealg.CountString", "internal/bytealg.IndexByteString", "internal/bytealg.IndexString", "internal/abi.NoEscape", "internal/bytealg.MakeNoZero", "slices.overlaps[loop.example/g00285/impl.Ent]", "slices.overlaps[loop.example/g00285/impl.Inode]"], unfollowed := true, recurses := true, named := ["unicode/utf8.first", "unicode/utf8.acceptRanges", "internal/bytealg.MaxLen"], apart := false, laid := [("unicode/utf8.acceptRanges", laid_unicode_utf8_acceptRanges), ("unicode/utf8.first", laid_unicode_utf8_first)] }
def FnLinkedSaid : Prop := fnLinkedRow.holds Tryz.pinned (OpenSpec.ofChange fnLinkedSpec)

/-- ITS FALSE NEIGHBOUR: 'it returns false'. Refute it at one input. -/
def fnLinkedWrong : ChangeSpec := { name := "fnLinked", fn := fun _ => fun
  | [d] => { results := [.lit (.bool false)], args := [d] }
  | _ => none }
def FnLinkedWrongFalsely : Prop := fnLinkedRow.holds Tryz.pinned (OpenSpec.ofChange fnLinkedWrong)

/-- 'laws.FnMade': WHATEVER THE INPUT: true; the input reads as it did. -/
def fnMadeSpec : ChangeSpec := { name := "fnMade", fn := fun _ => fun
  | [d] => { results := [.lit (.bool true)], args := [d] }
  | _ => none }
def fnMadeRow : OpenClaim := { program := "ytnhdalnfboiooaagreatdoor", sum := "ccfa97355999119d3a3e4292e36d79a4062a93939dcecd4fc659a5e6e5d75e0f", func := "loop.example/g00285/laws.FnMade", spec := "fnMade", inPlace := ["internal/bytealg.CountString", "internal/bytealg.IndexByteString", "internal/bytealg.IndexString", "internal/abi.NoEscape", "internal/bytealg.MakeNoZero", "slices.overlaps[loop.example/g00285/impl.Ent]", "slices.overlaps[loop.example/g00285/impl.Inode]"], unfollowed := true, recurses := true, named := ["unicode/utf8.first", "unicode/utf8.acceptRanges", "internal/bytealg.MaxLen"], apart := false, laid := [("unicode/utf8.acceptRanges", laid_unicode_utf8_acceptRanges), ("unicode/utf8.first", laid_unicode_utf8_first)] }
def FnMadeSaid : Prop := fnMadeRow.holds Tryz.pinned (OpenSpec.ofChange fnMadeSpec)

/-- ITS FALSE NEIGHBOUR: 'it returns false'. Refute it at one input. -/
def fnMadeWrong : ChangeSpec := { name := "fnMade", fn := fun _ => fun
  | [d] => { results := [.lit (.bool false)], args := [d] }
  | _ => none }
def FnMadeWrongFalsely : Prop := fnMadeRow.holds Tryz.pinned (OpenSpec.ofChange fnMadeWrong)

/-- 'laws.FnHeldFast': WHATEVER THE INPUT: true; the input reads as it did. -/
def fnHeldFastSpec : ChangeSpec := { name := "fnHeldFast", fn := fun _ => fun
  | [d] => { results := [.lit (.bool true)], args := [d] }
  | _ => none }
def fnHeldFastRow : OpenClaim := { program := "ytnhdalnfboiooaagreatdoor", sum := "ccfa97355999119d3a3e4292e36d79a4062a93939dcecd4fc659a5e6e5d75e0f", func := "loop.example/g00285/laws.FnHeldFast", spec := "fnHeldFast", inPlace := ["internal/bytealg.CountString", "internal/bytealg.IndexByteString", "internal/bytealg.IndexString", "internal/abi.NoEscape", "internal/bytealg.MakeNoZero", "slices.overlaps[loop.example/g00285/impl.Ent]", "slices.overlaps[loop.example/g00285/impl.Inode]", "slices.overlaps[loop.example/g00285/impl.Attr]"], unfollowed := true, recurses := true, named := ["unicode/utf8.first", "unicode/utf8.acceptRanges", "internal/bytealg.MaxLen"], apart := false, laid := [("unicode/utf8.acceptRanges", laid_unicode_utf8_acceptRanges), ("unicode/utf8.first", laid_unicode_utf8_first)] }
def FnHeldFastSaid : Prop := fnHeldFastRow.holds Tryz.pinned (OpenSpec.ofChange fnHeldFastSpec)

/-- ITS FALSE NEIGHBOUR: 'it returns false'. Refute it at one input. -/
def fnHeldFastWrong : ChangeSpec := { name := "fnHeldFast", fn := fun _ => fun
  | [d] => { results := [.lit (.bool false)], args := [d] }
  | _ => none }
def FnHeldFastWrongFalsely : Prop := fnHeldFastRow.holds Tryz.pinned (OpenSpec.ofChange fnHeldFastWrong)

/-- 'laws.FnQuota': WHATEVER THE INPUT: true; the input reads as it did. -/
def fnQuotaSpec : ChangeSpec := { name := "fnQuota", fn := fun _ => fun
  | [d] => { results := [.lit (.bool true)], args := [d] }
  | _ => none }
def fnQuotaRow : OpenClaim := { program := "ytnhdalnfboiooaagreatdoor", sum := "ccfa97355999119d3a3e4292e36d79a4062a93939dcecd4fc659a5e6e5d75e0f", func := "loop.example/g00285/laws.FnQuota", spec := "fnQuota", inPlace := ["internal/bytealg.CountString", "internal/bytealg.IndexByteString", "internal/bytealg.IndexString", "internal/abi.NoEscape", "internal/bytealg.MakeNoZero", "slices.overlaps[loop.example/g00285/impl.Ent]", "slices.overlaps[loop.example/g00285/impl.Inode]", "slices.overlaps[loop.example/g00285/impl.Attr]"], unfollowed := true, recurses := true, named := ["unicode/utf8.first", "unicode/utf8.acceptRanges", "internal/bytealg.MaxLen"], apart := false, laid := [("unicode/utf8.acceptRanges", laid_unicode_utf8_acceptRanges), ("unicode/utf8.first", laid_unicode_utf8_first)] }
def FnQuotaSaid : Prop := fnQuotaRow.holds Tryz.pinned (OpenSpec.ofChange fnQuotaSpec)

/-- ITS FALSE NEIGHBOUR: 'it returns false'. Refute it at one input. -/
def fnQuotaWrong : ChangeSpec := { name := "fnQuota", fn := fun _ => fun
  | [d] => { results := [.lit (.bool false)], args := [d] }
  | _ => none }
def FnQuotaWrongFalsely : Prop := fnQuotaRow.holds Tryz.pinned (OpenSpec.ofChange fnQuotaWrong)

/- THE SECOND FORM. 'bulk': how many values and letters a reading holds, each counted each time it is reached (what is shared counts as often as it is met; a slice's spare places count too). A statement '..UptoSaid' is the law's where the arguments, and the package variables that the reading takes, are together of bulk at most 1048576: NARROWER than '..Said'. Prove '..Said' where nothing that the law and all that it calls make is longer than what came in: it says more and counts as full. Else prove '..UptoSaid'. A law counts once. -/
mutual
def uptoBulk {H : Type} : DataW H → Nat
  | .lit (.string bytes) => bytes.length + 1
  | .lit _ => 1
  | .nil => 1
  | .ptr d => uptoBulk d + 1
  | .slice elems spare => uptoBulkAll elems + uptoBulkAll spare + 1
  | .agg parts => uptoBulkAll parts + 1
  | .iface _ d => uptoBulk d + 1
  | .map entries => uptoBulkEntries entries + 1
  | .held _ => 1
def uptoBulkAll {H : Type} : List (DataW H) → Nat
  | [] => 0
  | d :: r => uptoBulk d + uptoBulkAll r
def uptoBulkEntries {H : Type} : List (Lit × DataW H) → Nat
  | [] => 0
  | x :: r => uptoBulkEntry x + uptoBulkEntries r
def uptoBulkEntry {H : Type} : Lit × DataW H → Nat
  | (.string bytes, d) => bytes.length + uptoBulk d + 1
  | (_, d) => uptoBulk d + 1
 end
def uptoSmall : (H : Type) → List (DataW H) → Bool := fun _ ds => decide (uptoBulkAll ds ≤ 1048576)
def OpenSpec.upto (s : _root_.Go.ChangeSpec) : _root_.Go.OpenSpec := { _root_.Go.OpenSpec.ofChange s with cond := some uptoSmall }

/-- 'laws.FnExactUnlink', WHERE WHAT IT READS IS OF BULK AT MOST 1048576: true; the input reads as it did. -/
def fnExactUnlinkUptoRow : OpenClaim := { program := "ytnhdalnfboiooaagreatdoor", sum := "ccfa97355999119d3a3e4292e36d79a4062a93939dcecd4fc659a5e6e5d75e0f", func := "loop.example/g00285/laws.FnExactUnlink", spec := "fnExactUnlink", inPlace := ["internal/bytealg.CountString", "internal/bytealg.IndexByteString", "internal/bytealg.IndexString", "internal/abi.NoEscape", "internal/bytealg.MakeNoZero", "slices.overlaps[loop.example/g00285/impl.Inode]"], unfollowed := true, recurses := true, named := ["unicode/utf8.first", "unicode/utf8.acceptRanges", "internal/bytealg.MaxLen"], apart := false, laid := [("unicode/utf8.acceptRanges", laid_unicode_utf8_acceptRanges), ("unicode/utf8.first", laid_unicode_utf8_first)], narrowed := true }
def FnExactUnlinkUptoSaid : Prop := fnExactUnlinkUptoRow.holds Tryz.pinned (OpenSpec.upto fnExactUnlinkSpec)

/-- 'laws.FnExactRename', WHERE WHAT IT READS IS OF BULK AT MOST 1048576: true; the input reads as it did. -/
def fnExactRenameUptoRow : OpenClaim := { program := "ytnhdalnfboiooaagreatdoor", sum := "ccfa97355999119d3a3e4292e36d79a4062a93939dcecd4fc659a5e6e5d75e0f", func := "loop.example/g00285/laws.FnExactRename", spec := "fnExactRename", inPlace := ["internal/bytealg.CountString", "internal/bytealg.IndexByteString", "internal/bytealg.IndexString", "internal/abi.NoEscape", "internal/bytealg.MakeNoZero", "slices.overlaps[loop.example/g00285/impl.Inode]", "slices.overlaps[loop.example/g00285/impl.Ent]"], unfollowed := true, recurses := true, named := ["unicode/utf8.first", "unicode/utf8.acceptRanges", "internal/bytealg.MaxLen"], apart := false, laid := [("unicode/utf8.acceptRanges", laid_unicode_utf8_acceptRanges), ("unicode/utf8.first", laid_unicode_utf8_first)], narrowed := true }
def FnExactRenameUptoSaid : Prop := fnExactRenameUptoRow.holds Tryz.pinned (OpenSpec.upto fnExactRenameSpec)

/-- 'laws.FnExactApply', WHERE WHAT IT READS IS OF BULK AT MOST 1048576: true; the input reads as it did. -/
def fnExactApplyUptoRow : OpenClaim := { program := "ytnhdalnfboiooaagreatdoor", sum := "ccfa97355999119d3a3e4292e36d79a4062a93939dcecd4fc659a5e6e5d75e0f", func := "loop.example/g00285/laws.FnExactApply", spec := "fnExactApply", inPlace := ["internal/bytealg.CountString", "internal/bytealg.IndexByteString", "internal/bytealg.IndexString", "internal/abi.NoEscape", "internal/bytealg.MakeNoZero", "slices.overlaps[loop.example/g00285/impl.Ent]", "slices.overlaps[loop.example/g00285/impl.Inode]", "slices.overlaps[loop.example/g00285/impl.Attr]"], unfollowed := true, recurses := true, named := ["unicode/utf8.first", "unicode/utf8.acceptRanges", "internal/bytealg.MaxLen"], apart := false, laid := [("unicode/utf8.acceptRanges", laid_unicode_utf8_acceptRanges), ("unicode/utf8.first", laid_unicode_utf8_first)], narrowed := true }
def FnExactApplyUptoSaid : Prop := fnExactApplyUptoRow.holds Tryz.pinned (OpenSpec.upto fnExactApplySpec)

/-- 'laws.FnIdsRise', WHERE WHAT IT READS IS OF BULK AT MOST 1048576: true; the input reads as it did. -/
def fnIdsRiseUptoRow : OpenClaim := { program := "ytnhdalnfboiooaagreatdoor", sum := "ccfa97355999119d3a3e4292e36d79a4062a93939dcecd4fc659a5e6e5d75e0f", func := "loop.example/g00285/laws.FnIdsRise", spec := "fnIdsRise", inPlace := ["internal/bytealg.CountString", "internal/bytealg.IndexByteString", "internal/bytealg.IndexString", "internal/abi.NoEscape", "internal/bytealg.MakeNoZero", "slices.overlaps[loop.example/g00285/impl.Ent]", "slices.overlaps[loop.example/g00285/impl.Inode]", "slices.overlaps[loop.example/g00285/impl.Attr]"], unfollowed := true, recurses := true, named := ["unicode/utf8.first", "unicode/utf8.acceptRanges", "internal/bytealg.MaxLen"], apart := false, laid := [("unicode/utf8.acceptRanges", laid_unicode_utf8_acceptRanges), ("unicode/utf8.first", laid_unicode_utf8_first)], narrowed := true }
def FnIdsRiseUptoSaid : Prop := fnIdsRiseUptoRow.holds Tryz.pinned (OpenSpec.upto fnIdsRiseSpec)

/-- 'laws.FnQuotaEdge', WHERE WHAT IT READS IS OF BULK AT MOST 1048576: true; the input reads as it did. -/
def fnQuotaEdgeUptoRow : OpenClaim := { program := "ytnhdalnfboiooaagreatdoor", sum := "ccfa97355999119d3a3e4292e36d79a4062a93939dcecd4fc659a5e6e5d75e0f", func := "loop.example/g00285/laws.FnQuotaEdge", spec := "fnQuotaEdge", inPlace := ["internal/bytealg.CountString", "internal/bytealg.IndexByteString", "internal/bytealg.IndexString", "internal/abi.NoEscape", "internal/bytealg.MakeNoZero", "slices.overlaps[loop.example/g00285/impl.Ent]", "slices.overlaps[loop.example/g00285/impl.Inode]", "slices.overlaps[loop.example/g00285/impl.Attr]"], unfollowed := true, recurses := true, named := ["unicode/utf8.first", "unicode/utf8.acceptRanges", "internal/bytealg.MaxLen"], apart := false, laid := [("unicode/utf8.acceptRanges", laid_unicode_utf8_acceptRanges), ("unicode/utf8.first", laid_unicode_utf8_first)], narrowed := true }
def FnQuotaEdgeUptoSaid : Prop := fnQuotaEdgeUptoRow.holds Tryz.pinned (OpenSpec.upto fnQuotaEdgeSpec)

/-- 'laws.FnApart', WHERE WHAT IT READS IS OF BULK AT MOST 1048576: true; the input reads as it did. -/
def fnApartUptoRow : OpenClaim := { program := "ytnhdalnfboiooaagreatdoor", sum := "ccfa97355999119d3a3e4292e36d79a4062a93939dcecd4fc659a5e6e5d75e0f", func := "loop.example/g00285/laws.FnApart", spec := "fnApart", inPlace := ["internal/bytealg.CountString", "internal/bytealg.IndexByteString", "internal/bytealg.IndexString", "internal/abi.NoEscape", "internal/bytealg.MakeNoZero", "slices.overlaps[loop.example/g00285/impl.Ent]", "slices.overlaps[loop.example/g00285/impl.Inode]", "slices.overlaps[loop.example/g00285/impl.Attr]"], unfollowed := true, recurses := true, named := ["unicode/utf8.first", "unicode/utf8.acceptRanges", "internal/bytealg.MaxLen"], apart := false, laid := [("unicode/utf8.acceptRanges", laid_unicode_utf8_acceptRanges), ("unicode/utf8.first", laid_unicode_utf8_first)], narrowed := true }
def FnApartUptoSaid : Prop := fnApartUptoRow.holds Tryz.pinned (OpenSpec.upto fnApartSpec)

/-- 'laws.FnRootStays', WHERE WHAT IT READS IS OF BULK AT MOST 1048576: true; the input reads as it did. -/
def fnRootStaysUptoRow : OpenClaim := { program := "ytnhdalnfboiooaagreatdoor", sum := "ccfa97355999119d3a3e4292e36d79a4062a93939dcecd4fc659a5e6e5d75e0f", func := "loop.example/g00285/laws.FnRootStays", spec := "fnRootStays", inPlace := ["internal/bytealg.CountString", "internal/bytealg.IndexByteString", "internal/bytealg.IndexString", "internal/abi.NoEscape", "internal/bytealg.MakeNoZero", "slices.overlaps[loop.example/g00285/impl.Ent]", "slices.overlaps[loop.example/g00285/impl.Inode]"], unfollowed := true, recurses := true, named := ["unicode/utf8.first", "unicode/utf8.acceptRanges", "internal/bytealg.MaxLen"], apart := false, laid := [("unicode/utf8.acceptRanges", laid_unicode_utf8_acceptRanges), ("unicode/utf8.first", laid_unicode_utf8_first)], narrowed := true }
def FnRootStaysUptoSaid : Prop := fnRootStaysUptoRow.holds Tryz.pinned (OpenSpec.upto fnRootStaysSpec)

/-- 'laws.FnRemoved', WHERE WHAT IT READS IS OF BULK AT MOST 1048576: true; the input reads as it did. -/
def fnRemovedUptoRow : OpenClaim := { program := "ytnhdalnfboiooaagreatdoor", sum := "ccfa97355999119d3a3e4292e36d79a4062a93939dcecd4fc659a5e6e5d75e0f", func := "loop.example/g00285/laws.FnRemoved", spec := "fnRemoved", inPlace := ["internal/bytealg.CountString", "internal/bytealg.IndexByteString", "internal/bytealg.IndexString", "internal/abi.NoEscape", "internal/bytealg.MakeNoZero", "slices.overlaps[loop.example/g00285/impl.Inode]"], unfollowed := true, recurses := true, named := ["unicode/utf8.first", "unicode/utf8.acceptRanges", "internal/bytealg.MaxLen"], apart := false, laid := [("unicode/utf8.acceptRanges", laid_unicode_utf8_acceptRanges), ("unicode/utf8.first", laid_unicode_utf8_first)], narrowed := true }
def FnRemovedUptoSaid : Prop := fnRemovedUptoRow.holds Tryz.pinned (OpenSpec.upto fnRemovedSpec)

/-- 'laws.FnMoved', WHERE WHAT IT READS IS OF BULK AT MOST 1048576: true; the input reads as it did. -/
def fnMovedUptoRow : OpenClaim := { program := "ytnhdalnfboiooaagreatdoor", sum := "ccfa97355999119d3a3e4292e36d79a4062a93939dcecd4fc659a5e6e5d75e0f", func := "loop.example/g00285/laws.FnMoved", spec := "fnMoved", inPlace := ["internal/bytealg.CountString", "internal/bytealg.IndexByteString", "internal/bytealg.IndexString", "internal/abi.NoEscape", "internal/bytealg.MakeNoZero", "slices.overlaps[loop.example/g00285/impl.Inode]", "slices.overlaps[loop.example/g00285/impl.Ent]"], unfollowed := true, recurses := true, named := ["unicode/utf8.first", "unicode/utf8.acceptRanges", "internal/bytealg.MaxLen"], apart := false, laid := [("unicode/utf8.acceptRanges", laid_unicode_utf8_acceptRanges), ("unicode/utf8.first", laid_unicode_utf8_first)], narrowed := true }
def FnMovedUptoSaid : Prop := fnMovedUptoRow.holds Tryz.pinned (OpenSpec.upto fnMovedSpec)

/-- 'laws.FnTreesBent', WHERE WHAT IT READS IS OF BULK AT MOST 1048576: true; the input reads as it did. -/
def fnTreesBentUptoRow : OpenClaim := { program := "ytnhdalnfboiooaagreatdoor", sum := "ccfa97355999119d3a3e4292e36d79a4062a93939dcecd4fc659a5e6e5d75e0f", func := "loop.example/g00285/laws.FnTreesBent", spec := "fnTreesBent", inPlace := ["internal/bytealg.CountString", "internal/bytealg.IndexByteString", "internal/bytealg.IndexString", "internal/abi.NoEscape", "internal/bytealg.MakeNoZero", "slices.overlaps[loop.example/g00285/impl.Ent]", "slices.overlaps[loop.example/g00285/impl.Inode]", "slices.overlaps[loop.example/g00285/impl.Attr]"], unfollowed := true, recurses := true, named := ["unicode/utf8.first", "unicode/utf8.acceptRanges", "internal/bytealg.MaxLen"], apart := false, laid := [("unicode/utf8.acceptRanges", laid_unicode_utf8_acceptRanges), ("unicode/utf8.first", laid_unicode_utf8_first)], narrowed := true }
def FnTreesBentUptoSaid : Prop := fnTreesBentUptoRow.holds Tryz.pinned (OpenSpec.upto fnTreesBentSpec)

/-- 'laws.FnUnlinked', WHERE WHAT IT READS IS OF BULK AT MOST 1048576: true; the input reads as it did. -/
def fnUnlinkedUptoRow : OpenClaim := { program := "ytnhdalnfboiooaagreatdoor", sum := "ccfa97355999119d3a3e4292e36d79a4062a93939dcecd4fc659a5e6e5d75e0f", func := "loop.example/g00285/laws.FnUnlinked", spec := "fnUnlinked", inPlace := ["internal/bytealg.CountString", "internal/bytealg.IndexByteString", "internal/bytealg.IndexString", "internal/abi.NoEscape", "internal/bytealg.MakeNoZero", "slices.overlaps[loop.example/g00285/impl.Inode]"], unfollowed := true, recurses := true, named := ["unicode/utf8.first", "unicode/utf8.acceptRanges", "internal/bytealg.MaxLen"], apart := false, laid := [("unicode/utf8.acceptRanges", laid_unicode_utf8_acceptRanges), ("unicode/utf8.first", laid_unicode_utf8_first)], narrowed := true }
def FnUnlinkedUptoSaid : Prop := fnUnlinkedUptoRow.holds Tryz.pinned (OpenSpec.upto fnUnlinkedSpec)

/-- 'laws.FnDirs', WHERE WHAT IT READS IS OF BULK AT MOST 1048576: true; the input reads as it did. -/
def fnDirsUptoRow : OpenClaim := { program := "ytnhdalnfboiooaagreatdoor", sum := "ccfa97355999119d3a3e4292e36d79a4062a93939dcecd4fc659a5e6e5d75e0f", func := "loop.example/g00285/laws.FnDirs", spec := "fnDirs", inPlace := ["internal/bytealg.CountString", "internal/bytealg.IndexByteString", "internal/bytealg.IndexString", "internal/abi.NoEscape", "internal/bytealg.MakeNoZero", "slices.overlaps[loop.example/g00285/impl.Ent]", "slices.overlaps[loop.example/g00285/impl.Inode]"], unfollowed := true, recurses := true, named := ["unicode/utf8.first", "unicode/utf8.acceptRanges", "internal/bytealg.MaxLen"], apart := false, laid := [("unicode/utf8.acceptRanges", laid_unicode_utf8_acceptRanges), ("unicode/utf8.first", laid_unicode_utf8_first)], narrowed := true }
def FnDirsUptoSaid : Prop := fnDirsUptoRow.holds Tryz.pinned (OpenSpec.upto fnDirsSpec)

/-- 'laws.FnLinked', WHERE WHAT IT READS IS OF BULK AT MOST 1048576: true; the input reads as it did. -/
def fnLinkedUptoRow : OpenClaim := { program := "ytnhdalnfboiooaagreatdoor", sum := "ccfa97355999119d3a3e4292e36d79a4062a93939dcecd4fc659a5e6e5d75e0f", func := "loop.example/g00285/laws.FnLinked", spec := "fnLinked", inPlace := ["internal/bytealg.CountString", "internal/bytealg.IndexByteString", "internal/bytealg.IndexString", "internal/abi.NoEscape", "internal/bytealg.MakeNoZero", "slices.overlaps[loop.example/g00285/impl.Ent]", "slices.overlaps[loop.example/g00285/impl.Inode]"], unfollowed := true, recurses := true, named := ["unicode/utf8.first", "unicode/utf8.acceptRanges", "internal/bytealg.MaxLen"], apart := false, laid := [("unicode/utf8.acceptRanges", laid_unicode_utf8_acceptRanges), ("unicode/utf8.first", laid_unicode_utf8_first)], narrowed := true }
def FnLinkedUptoSaid : Prop := fnLinkedUptoRow.holds Tryz.pinned (OpenSpec.upto fnLinkedSpec)

/-- 'laws.FnMade', WHERE WHAT IT READS IS OF BULK AT MOST 1048576: true; the input reads as it did. -/
def fnMadeUptoRow : OpenClaim := { program := "ytnhdalnfboiooaagreatdoor", sum := "ccfa97355999119d3a3e4292e36d79a4062a93939dcecd4fc659a5e6e5d75e0f", func := "loop.example/g00285/laws.FnMade", spec := "fnMade", inPlace := ["internal/bytealg.CountString", "internal/bytealg.IndexByteString", "internal/bytealg.IndexString", "internal/abi.NoEscape", "internal/bytealg.MakeNoZero", "slices.overlaps[loop.example/g00285/impl.Ent]", "slices.overlaps[loop.example/g00285/impl.Inode]"], unfollowed := true, recurses := true, named := ["unicode/utf8.first", "unicode/utf8.acceptRanges", "internal/bytealg.MaxLen"], apart := false, laid := [("unicode/utf8.acceptRanges", laid_unicode_utf8_acceptRanges), ("unicode/utf8.first", laid_unicode_utf8_first)], narrowed := true }
def FnMadeUptoSaid : Prop := fnMadeUptoRow.holds Tryz.pinned (OpenSpec.upto fnMadeSpec)

/-- 'laws.FnHeldFast', WHERE WHAT IT READS IS OF BULK AT MOST 1048576: true; the input reads as it did. -/
def fnHeldFastUptoRow : OpenClaim := { program := "ytnhdalnfboiooaagreatdoor", sum := "ccfa97355999119d3a3e4292e36d79a4062a93939dcecd4fc659a5e6e5d75e0f", func := "loop.example/g00285/laws.FnHeldFast", spec := "fnHeldFast", inPlace := ["internal/bytealg.CountString", "internal/bytealg.IndexByteString", "internal/bytealg.IndexString", "internal/abi.NoEscape", "internal/bytealg.MakeNoZero", "slices.overlaps[loop.example/g00285/impl.Ent]", "slices.overlaps[loop.example/g00285/impl.Inode]", "slices.overlaps[loop.example/g00285/impl.Attr]"], unfollowed := true, recurses := true, named := ["unicode/utf8.first", "unicode/utf8.acceptRanges", "internal/bytealg.MaxLen"], apart := false, laid := [("unicode/utf8.acceptRanges", laid_unicode_utf8_acceptRanges), ("unicode/utf8.first", laid_unicode_utf8_first)], narrowed := true }
def FnHeldFastUptoSaid : Prop := fnHeldFastUptoRow.holds Tryz.pinned (OpenSpec.upto fnHeldFastSpec)

/-- 'laws.FnQuota', WHERE WHAT IT READS IS OF BULK AT MOST 1048576: true; the input reads as it did. -/
def fnQuotaUptoRow : OpenClaim := { program := "ytnhdalnfboiooaagreatdoor", sum := "ccfa97355999119d3a3e4292e36d79a4062a93939dcecd4fc659a5e6e5d75e0f", func := "loop.example/g00285/laws.FnQuota", spec := "fnQuota", inPlace := ["internal/bytealg.CountString", "internal/bytealg.IndexByteString", "internal/bytealg.IndexString", "internal/abi.NoEscape", "internal/bytealg.MakeNoZero", "slices.overlaps[loop.example/g00285/impl.Ent]", "slices.overlaps[loop.example/g00285/impl.Inode]", "slices.overlaps[loop.example/g00285/impl.Attr]"], unfollowed := true, recurses := true, named := ["unicode/utf8.first", "unicode/utf8.acceptRanges", "internal/bytealg.MaxLen"], apart := false, laid := [("unicode/utf8.acceptRanges", laid_unicode_utf8_acceptRanges), ("unicode/utf8.first", laid_unicode_utf8_first)], narrowed := true }
def FnQuotaUptoSaid : Prop := fnQuotaUptoRow.holds Tryz.pinned (OpenSpec.upto fnQuotaSpec)

end Rows
end Go.Proofs.YtnhdalnfboiooaaGreatDoor
