/-
  NARROWER THAN 'FOR EVERY INPUT', by the rows' own cells (each row's printed sentence says how): FnTreesBent: laid · FnExactApply: laid · FnIdsRise: laid · FnQuotaEdge: laid · FnApart: laid · FnHeldFast: laid · FnQuota: laid.
  DERIVED. THE GIVEN ROWS OF THIS SEAT. 7 by the template 'for every input the law returns true; each argument reads behind the call as it read before'; 0 by the template 'total and deterministic' (their statements: YtnfeefcnblondaaGreatDoorTotals.lean).
  GIVEN WITH THE SEED: the statements are not yours to turn. If you find one false, say at which input.
  Laid BY PROGRAM, IN A SANDBOX (cutbox-rows.mjs): the forced cells as the released guide's own fill.sh prints them over the translation 7bf2509e57e3cadd… (all of the seat's roots in one cut). By AI agents, Wed Nov 11 2026. No macro, syntax, notation, axiom, sorry.
-/
import Derived.Test.YtnfeefcnblondaaGreatDoorChecked
import GoSem.PinnedTables
import GoSem.Claim
import GoSem.ClaimJoined
import GoSem.ClaimMapViews
import Derived.JoinedTies
import Derived.KernelRfl
namespace Go.Proofs.YtnfeefcnblondaaGreatDoor
/- THE CELL 'sum', in the pinned program and in every row, IS THE sha256 OF THE DUMP (.gsa) THAT YtnfeefcnblondaaGreatDoorProg.lean LOADS. Nothing in Lean hashes anything: it is a label: what it is worth is what the hold of that sum in a sandbox is worth. -/
noncomputable def Tryz.pinned : Pinned := { name := "ytnfeefcnblondaagreatdoor", sum := "7bf2509e57e3cadd5ac6432e59903061b2a25290652181b5ba174ceddfef11ee", checked := Tryz.checked }
namespace Rows
def none {H : Type} : Left H := { results := [], args := [] }

/- WHAT THE LISTED PACKAGE-LEVEL VARIABLES READ AS WHEN THE CALL BEGINS. Each datum BY PROGRAM (the guide's laid-datum.mjs) off the statement by which the dump's own 'gosem.cut.vars' lays the variable. In a bare row this is a premise. The card (YtnfeefcnblondaaGreatDoorCards.lean) ties it to the program's text. -/
def laid_unicode_utf8_acceptRanges {H : Type} : DataW H := .agg [.agg [.lit (.int .u8 128), .lit (.int .u8 191)], .agg [.lit (.int .u8 160), .lit (.int .u8 191)], .agg [.lit (.int .u8 128), .lit (.int .u8 159)], .agg [.lit (.int .u8 144), .lit (.int .u8 191)], .agg [.lit (.int .u8 128), .lit (.int .u8 143)], .agg [.lit (.int .u8 0), .lit (.int .u8 0)], .agg [.lit (.int .u8 0), .lit (.int .u8 0)], .agg [.lit (.int .u8 0), .lit (.int .u8 0)], .agg [.lit (.int .u8 0), .lit (.int .u8 0)], .agg [.lit (.int .u8 0), .lit (.int .u8 0)], .agg [.lit (.int .u8 0), .lit (.int .u8 0)], .agg [.lit (.int .u8 0), .lit (.int .u8 0)], .agg [.lit (.int .u8 0), .lit (.int .u8 0)], .agg [.lit (.int .u8 0), .lit (.int .u8 0)], .agg [.lit (.int .u8 0), .lit (.int .u8 0)], .agg [.lit (.int .u8 0), .lit (.int .u8 0)]]
/-- One of Go's own tables, pinned by name: the form's constant. -/
def laid_unicode_utf8_first : DataW Unit := Go.Pinned.utf8First

/-- 'laws.FnTreesBent': WHATEVER THE INPUT: true; the input reads as it did. -/
def fnTreesBentSpec : ChangeSpec := { name := "fnTreesBent", fn := fun _ => fun
  | [d] => { results := [.lit (.bool true)], args := [d] }
  | _ => none }
def fnTreesBentRow : OpenClaim := { program := "ytnfeefcnblondaagreatdoor", sum := "7bf2509e57e3cadd5ac6432e59903061b2a25290652181b5ba174ceddfef11ee", func := "loop.example/g00285/laws.FnTreesBent", spec := "fnTreesBent", inPlace := ["internal/bytealg.CountString", "internal/bytealg.IndexByteString", "internal/bytealg.IndexString", "internal/abi.NoEscape", "internal/bytealg.MakeNoZero", "slices.overlaps[loop.example/g00285/impl.Ent]", "slices.overlaps[loop.example/g00285/impl.Inode]", "slices.overlaps[loop.example/g00285/impl.Attr]"], unfollowed := true, recurses := true, named := ["unicode/utf8.first", "unicode/utf8.acceptRanges", "internal/bytealg.MaxLen"], apart := false, laid := [("unicode/utf8.acceptRanges", laid_unicode_utf8_acceptRanges), ("unicode/utf8.first", laid_unicode_utf8_first)] }
def FnTreesBentSaid : Prop := fnTreesBentRow.holds Tryz.pinned (OpenSpec.ofChange fnTreesBentSpec)

/-- ITS FALSE NEIGHBOUR: 'it returns false'. Refute it at one input. -/
def fnTreesBentWrong : ChangeSpec := { name := "fnTreesBent", fn := fun _ => fun
  | [d] => { results := [.lit (.bool false)], args := [d] }
  | _ => none }
def FnTreesBentWrongFalsely : Prop := fnTreesBentRow.holds Tryz.pinned (OpenSpec.ofChange fnTreesBentWrong)

/-- 'laws.FnExactApply': WHATEVER THE INPUT: true; the input reads as it did. -/
def fnExactApplySpec : ChangeSpec := { name := "fnExactApply", fn := fun _ => fun
  | [d1, d2] => { results := [.lit (.bool true)], args := [d1, d2] }
  | _ => none }
def fnExactApplyRow : OpenClaim := { program := "ytnfeefcnblondaagreatdoor", sum := "7bf2509e57e3cadd5ac6432e59903061b2a25290652181b5ba174ceddfef11ee", func := "loop.example/g00285/laws.FnExactApply", spec := "fnExactApply", inPlace := ["internal/bytealg.CountString", "internal/bytealg.IndexByteString", "internal/bytealg.IndexString", "internal/abi.NoEscape", "internal/bytealg.MakeNoZero", "slices.overlaps[loop.example/g00285/impl.Ent]", "slices.overlaps[loop.example/g00285/impl.Inode]", "slices.overlaps[loop.example/g00285/impl.Attr]"], unfollowed := true, recurses := true, named := ["unicode/utf8.first", "unicode/utf8.acceptRanges", "internal/bytealg.MaxLen"], apart := false, laid := [("unicode/utf8.acceptRanges", laid_unicode_utf8_acceptRanges), ("unicode/utf8.first", laid_unicode_utf8_first)] }
def FnExactApplySaid : Prop := fnExactApplyRow.holds Tryz.pinned (OpenSpec.ofChange fnExactApplySpec)

/-- ITS FALSE NEIGHBOUR: 'it returns false'. Refute it at one input. -/
def fnExactApplyWrong : ChangeSpec := { name := "fnExactApply", fn := fun _ => fun
  | [d1, d2] => { results := [.lit (.bool false)], args := [d1, d2] }
  | _ => none }
def FnExactApplyWrongFalsely : Prop := fnExactApplyRow.holds Tryz.pinned (OpenSpec.ofChange fnExactApplyWrong)

/-- 'laws.FnIdsRise': WHATEVER THE INPUT: true; the input reads as it did. -/
def fnIdsRiseSpec : ChangeSpec := { name := "fnIdsRise", fn := fun _ => fun
  | [d] => { results := [.lit (.bool true)], args := [d] }
  | _ => none }
def fnIdsRiseRow : OpenClaim := { program := "ytnfeefcnblondaagreatdoor", sum := "7bf2509e57e3cadd5ac6432e59903061b2a25290652181b5ba174ceddfef11ee", func := "loop.example/g00285/laws.FnIdsRise", spec := "fnIdsRise", inPlace := ["internal/bytealg.CountString", "internal/bytealg.IndexByteString", "internal/bytealg.IndexString", "internal/abi.NoEscape", "internal/bytealg.MakeNoZero", "slices.overlaps[loop.example/g00285/impl.Ent]", "slices.overlaps[loop.example/g00285/impl.Inode]", "slices.overlaps[loop.example/g00285/impl.Attr]"], unfollowed := true, recurses := true, named := ["unicode/utf8.first", "unicode/utf8.acceptRanges", "internal/bytealg.MaxLen"], apart := false, laid := [("unicode/utf8.acceptRanges", laid_unicode_utf8_acceptRanges), ("unicode/utf8.first", laid_unicode_utf8_first)] }
def FnIdsRiseSaid : Prop := fnIdsRiseRow.holds Tryz.pinned (OpenSpec.ofChange fnIdsRiseSpec)

/-- ITS FALSE NEIGHBOUR: 'it returns false'. Refute it at one input. -/
def fnIdsRiseWrong : ChangeSpec := { name := "fnIdsRise", fn := fun _ => fun
  | [d] => { results := [.lit (.bool false)], args := [d] }
  | _ => none }
def FnIdsRiseWrongFalsely : Prop := fnIdsRiseRow.holds Tryz.pinned (OpenSpec.ofChange fnIdsRiseWrong)

/-- 'laws.FnQuotaEdge': WHATEVER THE INPUT: true; the input reads as it did. -/
def fnQuotaEdgeSpec : ChangeSpec := { name := "fnQuotaEdge", fn := fun _ => fun
  | [d] => { results := [.lit (.bool true)], args := [d] }
  | _ => none }
def fnQuotaEdgeRow : OpenClaim := { program := "ytnfeefcnblondaagreatdoor", sum := "7bf2509e57e3cadd5ac6432e59903061b2a25290652181b5ba174ceddfef11ee", func := "loop.example/g00285/laws.FnQuotaEdge", spec := "fnQuotaEdge", inPlace := ["internal/bytealg.CountString", "internal/bytealg.IndexByteString", "internal/bytealg.IndexString", "internal/abi.NoEscape", "internal/bytealg.MakeNoZero", "slices.overlaps[loop.example/g00285/impl.Ent]", "slices.overlaps[loop.example/g00285/impl.Inode]", "slices.overlaps[loop.example/g00285/impl.Attr]"], unfollowed := true, recurses := true, named := ["unicode/utf8.first", "unicode/utf8.acceptRanges", "internal/bytealg.MaxLen"], apart := false, laid := [("unicode/utf8.acceptRanges", laid_unicode_utf8_acceptRanges), ("unicode/utf8.first", laid_unicode_utf8_first)] }
def FnQuotaEdgeSaid : Prop := fnQuotaEdgeRow.holds Tryz.pinned (OpenSpec.ofChange fnQuotaEdgeSpec)

/-- ITS FALSE NEIGHBOUR: 'it returns false'. Refute it at one input. -/
def fnQuotaEdgeWrong : ChangeSpec := { name := "fnQuotaEdge", fn := fun _ => fun
  | [d] => { results := [.lit (.bool false)], args := [d] }
  | _ => none }
def FnQuotaEdgeWrongFalsely : Prop := fnQuotaEdgeRow.holds Tryz.pinned (OpenSpec.ofChange fnQuotaEdgeWrong)

/-- 'laws.FnApart': WHATEVER THE INPUT: true; the input reads as it did. -/
def fnApartSpec : ChangeSpec := { name := "fnApart", fn := fun _ => fun
  | [d] => { results := [.lit (.bool true)], args := [d] }
  | _ => none }
def fnApartRow : OpenClaim := { program := "ytnfeefcnblondaagreatdoor", sum := "7bf2509e57e3cadd5ac6432e59903061b2a25290652181b5ba174ceddfef11ee", func := "loop.example/g00285/laws.FnApart", spec := "fnApart", inPlace := ["internal/bytealg.CountString", "internal/bytealg.IndexByteString", "internal/bytealg.IndexString", "internal/abi.NoEscape", "internal/bytealg.MakeNoZero", "slices.overlaps[loop.example/g00285/impl.Ent]", "slices.overlaps[loop.example/g00285/impl.Inode]", "slices.overlaps[loop.example/g00285/impl.Attr]"], unfollowed := true, recurses := true, named := ["unicode/utf8.first", "unicode/utf8.acceptRanges", "internal/bytealg.MaxLen"], apart := false, laid := [("unicode/utf8.acceptRanges", laid_unicode_utf8_acceptRanges), ("unicode/utf8.first", laid_unicode_utf8_first)] }
def FnApartSaid : Prop := fnApartRow.holds Tryz.pinned (OpenSpec.ofChange fnApartSpec)

/-- ITS FALSE NEIGHBOUR: 'it returns false'. Refute it at one input. -/
def fnApartWrong : ChangeSpec := { name := "fnApart", fn := fun _ => fun
  | [d] => { results := [.lit (.bool false)], args := [d] }
  | _ => none }
def FnApartWrongFalsely : Prop := fnApartRow.holds Tryz.pinned (OpenSpec.ofChange fnApartWrong)

/-- 'laws.FnHeldFast': WHATEVER THE INPUT: true; the input reads as it did. -/
def fnHeldFastSpec : ChangeSpec := { name := "fnHeldFast", fn := fun _ => fun
  | [d] => { results := [.lit (.bool true)], args := [d] }
  | _ => none }
def fnHeldFastRow : OpenClaim := { program := "ytnfeefcnblondaagreatdoor", sum := "7bf2509e57e3cadd5ac6432e59903061b2a25290652181b5ba174ceddfef11ee", func := "loop.example/g00285/laws.FnHeldFast", spec := "fnHeldFast", inPlace := ["internal/bytealg.CountString", "internal/bytealg.IndexByteString", "internal/bytealg.IndexString", "internal/abi.NoEscape", "internal/bytealg.MakeNoZero", "slices.overlaps[loop.example/g00285/impl.Ent]", "slices.overlaps[loop.example/g00285/impl.Inode]", "slices.overlaps[loop.example/g00285/impl.Attr]"], unfollowed := true, recurses := true, named := ["unicode/utf8.first", "unicode/utf8.acceptRanges", "internal/bytealg.MaxLen"], apart := false, laid := [("unicode/utf8.acceptRanges", laid_unicode_utf8_acceptRanges), ("unicode/utf8.first", laid_unicode_utf8_first)] }
def FnHeldFastSaid : Prop := fnHeldFastRow.holds Tryz.pinned (OpenSpec.ofChange fnHeldFastSpec)

/-- ITS FALSE NEIGHBOUR: 'it returns false'. Refute it at one input. -/
def fnHeldFastWrong : ChangeSpec := { name := "fnHeldFast", fn := fun _ => fun
  | [d] => { results := [.lit (.bool false)], args := [d] }
  | _ => none }
def FnHeldFastWrongFalsely : Prop := fnHeldFastRow.holds Tryz.pinned (OpenSpec.ofChange fnHeldFastWrong)

/-- 'laws.FnQuota': WHATEVER THE INPUT: true; the input reads as it did. -/
def fnQuotaSpec : ChangeSpec := { name := "fnQuota", fn := fun _ => fun
  | [d] => { results := [.lit (.bool true)], args := [d] }
  | _ => none }
def fnQuotaRow : OpenClaim := { program := "ytnfeefcnblondaagreatdoor", sum := "7bf2509e57e3cadd5ac6432e59903061b2a25290652181b5ba174ceddfef11ee", func := "loop.example/g00285/laws.FnQuota", spec := "fnQuota", inPlace := ["internal/bytealg.CountString", "internal/bytealg.IndexByteString", "internal/bytealg.IndexString", "internal/abi.NoEscape", "internal/bytealg.MakeNoZero", "slices.overlaps[loop.example/g00285/impl.Ent]", "slices.overlaps[loop.example/g00285/impl.Inode]", "slices.overlaps[loop.example/g00285/impl.Attr]"], unfollowed := true, recurses := true, named := ["unicode/utf8.first", "unicode/utf8.acceptRanges", "internal/bytealg.MaxLen"], apart := false, laid := [("unicode/utf8.acceptRanges", laid_unicode_utf8_acceptRanges), ("unicode/utf8.first", laid_unicode_utf8_first)] }
def FnQuotaSaid : Prop := fnQuotaRow.holds Tryz.pinned (OpenSpec.ofChange fnQuotaSpec)

/-- ITS FALSE NEIGHBOUR: 'it returns false'. Refute it at one input. -/
def fnQuotaWrong : ChangeSpec := { name := "fnQuota", fn := fun _ => fun
  | [d] => { results := [.lit (.bool false)], args := [d] }
  | _ => none }
def FnQuotaWrongFalsely : Prop := fnQuotaRow.holds Tryz.pinned (OpenSpec.ofChange fnQuotaWrong)

/- THE SECOND FORM. 'bulk': how many values and letters a reading holds, each counted each time it is reached (what is shared counts as often as it is met; a slice's spare places count too). A statement '..UptoSaid' is the law's where the arguments, and the package variables that the reading takes, are together of bulk at most 1048576: NARROWER than '..Said'. Prove '..Said' where nothing that the law and all that it calls make is longer than what came in: it says more and counts as full. Else prove '..UptoSaid'. A law counts once. -/
mutual
def uptoBulk {H : Type} : DataW H → Nat
  | .lit (.string bytes) => bytes.length + 1
  | .lit _ => 1
  | .nil => 1
  | .ptr d => uptoBulk d + 1
  | .slice elems spare => uptoBulkAll elems + uptoBulkAll spare + 1
  | .agg parts => uptoBulkAll parts + 1
  | .iface _ d => uptoBulk d + 1
  | .map entries => uptoBulkEntries entries + 1
  | .held _ => 1
def uptoBulkAll {H : Type} : List (DataW H) → Nat
  | [] => 0
  | d :: r => uptoBulk d + uptoBulkAll r
def uptoBulkEntries {H : Type} : List (Lit × DataW H) → Nat
  | [] => 0
  | x :: r => uptoBulkEntry x + uptoBulkEntries r
def uptoBulkEntry {H : Type} : Lit × DataW H → Nat
  | (.string bytes, d) => bytes.length + uptoBulk d + 1
  | (_, d) => uptoBulk d + 1
 end
def uptoSmall : (H : Type) → List (DataW H) → Bool := fun _ ds => decide (uptoBulkAll ds ≤ 1048576)
def OpenSpec.upto (s : _root_.Go.ChangeSpec) : _root_.Go.OpenSpec := { _root_.Go.OpenSpec.ofChange s with cond := some uptoSmall }

/-- 'laws.FnTreesBent', WHERE WHAT IT READS IS OF BULK AT MOST 1048576: true; the input reads as it did. -/
def fnTreesBentUptoRow : OpenClaim := { program := "ytnfeefcnblondaagreatdoor", sum := "7bf2509e57e3cadd5ac6432e59903061b2a25290652181b5ba174ceddfef11ee", func := "loop.example/g00285/laws.FnTreesBent", spec := "fnTreesBent", inPlace := ["internal/bytealg.CountString", "internal/bytealg.IndexByteString", "internal/bytealg.IndexString", "internal/abi.NoEscape", "internal/bytealg.MakeNoZero", "slices.overlaps[loop.example/g00285/impl.Ent]", "slices.overlaps[loop.example/g00285/impl.Inode]", "slices.overlaps[loop.example/g00285/impl.Attr]"], unfollowed := true, recurses := true, named := ["unicode/utf8.first", "unicode/utf8.acceptRanges", "internal/bytealg.MaxLen"], apart := false, laid := [("unicode/utf8.acceptRanges", laid_unicode_utf8_acceptRanges), ("unicode/utf8.first", laid_unicode_utf8_first)], narrowed := true }
def FnTreesBentUptoSaid : Prop := fnTreesBentUptoRow.holds Tryz.pinned (OpenSpec.upto fnTreesBentSpec)

/-- 'laws.FnExactApply', WHERE WHAT IT READS IS OF BULK AT MOST 1048576: true; the input reads as it did. -/
def fnExactApplyUptoRow : OpenClaim := { program := "ytnfeefcnblondaagreatdoor", sum := "7bf2509e57e3cadd5ac6432e59903061b2a25290652181b5ba174ceddfef11ee", func := "loop.example/g00285/laws.FnExactApply", spec := "fnExactApply", inPlace := ["internal/bytealg.CountString", "internal/bytealg.IndexByteString", "internal/bytealg.IndexString", "internal/abi.NoEscape", "internal/bytealg.MakeNoZero", "slices.overlaps[loop.example/g00285/impl.Ent]", "slices.overlaps[loop.example/g00285/impl.Inode]", "slices.overlaps[loop.example/g00285/impl.Attr]"], unfollowed := true, recurses := true, named := ["unicode/utf8.first", "unicode/utf8.acceptRanges", "internal/bytealg.MaxLen"], apart := false, laid := [("unicode/utf8.acceptRanges", laid_unicode_utf8_acceptRanges), ("unicode/utf8.first", laid_unicode_utf8_first)], narrowed := true }
def FnExactApplyUptoSaid : Prop := fnExactApplyUptoRow.holds Tryz.pinned (OpenSpec.upto fnExactApplySpec)

/-- 'laws.FnIdsRise', WHERE WHAT IT READS IS OF BULK AT MOST 1048576: true; the input reads as it did. -/
def fnIdsRiseUptoRow : OpenClaim := { program := "ytnfeefcnblondaagreatdoor", sum := "7bf2509e57e3cadd5ac6432e59903061b2a25290652181b5ba174ceddfef11ee", func := "loop.example/g00285/laws.FnIdsRise", spec := "fnIdsRise", inPlace := ["internal/bytealg.CountString", "internal/bytealg.IndexByteString", "internal/bytealg.IndexString", "internal/abi.NoEscape", "internal/bytealg.MakeNoZero", "slices.overlaps[loop.example/g00285/impl.Ent]", "slices.overlaps[loop.example/g00285/impl.Inode]", "slices.overlaps[loop.example/g00285/impl.Attr]"], unfollowed := true, recurses := true, named := ["unicode/utf8.first", "unicode/utf8.acceptRanges", "internal/bytealg.MaxLen"], apart := false, laid := [("unicode/utf8.acceptRanges", laid_unicode_utf8_acceptRanges), ("unicode/utf8.first", laid_unicode_utf8_first)], narrowed := true }
def FnIdsRiseUptoSaid : Prop := fnIdsRiseUptoRow.holds Tryz.pinned (OpenSpec.upto fnIdsRiseSpec)

/-- 'laws.FnQuotaEdge', WHERE WHAT IT READS IS OF BULK AT MOST 1048576: true; the input reads as it did. -/
def fnQuotaEdgeUptoRow : OpenClaim := { program := "ytnfeefcnblondaagreatdoor", sum := "7bf2509e57e3cadd5ac6432e59903061b2a25290652181b5ba174ceddfef11ee", func := "loop.example/g00285/laws.FnQuotaEdge", spec := "fnQuotaEdge", inPlace := ["internal/bytealg.CountString", "internal/bytealg.IndexByteString", "internal/bytealg.IndexString", "internal/abi.NoEscape", "internal/bytealg.MakeNoZero", "slices.overlaps[loop.example/g00285/impl.Ent]", "slices.overlaps[loop.example/g00285/impl.Inode]", "slices.overlaps[loop.example/g00285/impl.Attr]"], unfollowed := true, recurses := true, named := ["unicode/utf8.first", "unicode/utf8.acceptRanges", "internal/bytealg.MaxLen"], apart := false, laid := [("unicode/utf8.acceptRanges", laid_unicode_utf8_acceptRanges), ("unicode/utf8.first", laid_unicode_utf8_first)], narrowed := true }
def FnQuotaEdgeUptoSaid : Prop := fnQuotaEdgeUptoRow.holds Tryz.pinned (OpenSpec.upto fnQuotaEdgeSpec)

/-- 'laws.FnApart', WHERE WHAT IT READS IS OF BULK AT MOST 1048576: true; the input reads as it did. -/
def fnApartUptoRow : OpenClaim := { program := "ytnfeefcnblondaagreatdoor", sum := "7bf2509e57e3cadd5ac6432e59903061b2a25290652181b5ba174ceddfef11ee", func := "loop.example/g00285/laws.FnApart", spec := "fnApart", inPlace := ["internal/bytealg.CountString", "internal/bytealg.IndexByteString", "internal/bytealg.IndexString", "internal/abi.NoEscape", "internal/bytealg.MakeNoZero", "slices.overlaps[loop.example/g00285/impl.Ent]", "slices.overlaps[loop.example/g00285/impl.Inode]", "slices.overlaps[loop.example/g00285/impl.Attr]"], unfollowed := true, recurses := true, named := ["unicode/utf8.first", "unicode/utf8.acceptRanges", "internal/bytealg.MaxLen"], apart := false, laid := [("unicode/utf8.acceptRanges", laid_unicode_utf8_acceptRanges), ("unicode/utf8.first", laid_unicode_utf8_first)], narrowed := true }
def FnApartUptoSaid : Prop := fnApartUptoRow.holds Tryz.pinned (OpenSpec.upto fnApartSpec)

/-- 'laws.FnHeldFast', WHERE WHAT IT READS IS OF BULK AT MOST 1048576: true; the input reads as it did. -/
def fnHeldFastUptoRow : OpenClaim := { program := "ytnfeefcnblondaagreatdoor", sum := "7bf2509e57e3cadd5ac6432e59903061b2a25290652181b5ba174ceddfef11ee", func := "loop.example/g00285/laws.FnHeldFast", spec := "fnHeldFast", inPlace := ["internal/bytealg.CountString", "internal/bytealg.IndexByteString", "internal/bytealg.IndexString", "internal/abi.NoEscape", "internal/bytealg.MakeNoZero", "slices.overlaps[loop.example/g00285/impl.Ent]", "slices.overlaps[loop.example/g00285/impl.Inode]", "slices.overlaps[loop.example/g00285/impl.Attr]"], unfollowed := true, recurses := true, named := ["unicode/utf8.first", "unicode/utf8.acceptRanges", "internal/bytealg.MaxLen"], apart := false, laid := [("unicode/utf8.acceptRanges", laid_unicode_utf8_acceptRanges), ("unicode/utf8.first", laid_unicode_utf8_first)], narrowed := true }
def FnHeldFastUptoSaid : Prop := fnHeldFastUptoRow.holds Tryz.pinned (OpenSpec.upto fnHeldFastSpec)

/-- 'laws.FnQuota', WHERE WHAT IT READS IS OF BULK AT MOST 1048576: true; the input reads as it did. -/
def fnQuotaUptoRow : OpenClaim := { program := "ytnfeefcnblondaagreatdoor", sum := "7bf2509e57e3cadd5ac6432e59903061b2a25290652181b5ba174ceddfef11ee", func := "loop.example/g00285/laws.FnQuota", spec := "fnQuota", inPlace := ["internal/bytealg.CountString", "internal/bytealg.IndexByteString", "internal/bytealg.IndexString", "internal/abi.NoEscape", "internal/bytealg.MakeNoZero", "slices.overlaps[loop.example/g00285/impl.Ent]", "slices.overlaps[loop.example/g00285/impl.Inode]", "slices.overlaps[loop.example/g00285/impl.Attr]"], unfollowed := true, recurses := true, named := ["unicode/utf8.first", "unicode/utf8.acceptRanges", "internal/bytealg.MaxLen"], apart := false, laid := [("unicode/utf8.acceptRanges", laid_unicode_utf8_acceptRanges), ("unicode/utf8.first", laid_unicode_utf8_first)], narrowed := true }
def FnQuotaUptoSaid : Prop := fnQuotaUptoRow.holds Tryz.pinned (OpenSpec.upto fnQuotaSpec)

end Rows
end Go.Proofs.YtnfeefcnblondaaGreatDoor
