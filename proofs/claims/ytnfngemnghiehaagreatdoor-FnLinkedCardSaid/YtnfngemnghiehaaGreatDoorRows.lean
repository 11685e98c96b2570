/-
  NARROWER THAN 'FOR EVERY INPUT', by the rows' own cells (each row's printed sentence says how): FnRootStays: laid · FnUnlinked: laid · FnRemoved: laid · FnMade: laid · FnDirs: laid · FnLinked: laid · FnMoved: laid · FnTreesBent: laid · FnExactRename: laid.
  DERIVED. THE GIVEN ROWS OF THIS SEAT. 9 by the template 'for every input the law returns true; each argument reads behind the call as it read before'; 0 by the template 'total and deterministic' (their statements: YtnfngemnghiehaaGreatDoorTotals.lean).
  GIVEN WITH THE SEED: the statements are not yours to turn. If you find one false, say at which input.
  Laid BY PROGRAM, IN A SANDBOX (cutbox-rows.mjs): the forced cells as the released guide's own fill.sh prints them over the translation afb19413a16e3622… (all of the seat's roots in one cut). By AI agents, Wed Nov 11 2026. No macro, syntax, notation, axiom, sorry.
-/
import Derived.Test.YtnfngemnghiehaaGreatDoorChecked
import GoSem.PinnedTables
import GoSem.Claim
import GoSem.ClaimJoined
import GoSem.ClaimMapViews
import Derived.JoinedTies
import Derived.KernelRfl
namespace Go.Proofs.YtnfngemnghiehaaGreatDoor
/- THE CELL 'sum', in the pinned program and in every row, IS THE sha256 OF THE DUMP (.gsa) THAT YtnfngemnghiehaaGreatDoorProg.lean LOADS. Nothing in Lean hashes anything: it is a label: what it is worth is what the hold of that sum in a sandbox is worth. -/
noncomputable def Tryz.pinned : Pinned := { name := "ytnfngemnghiehaagreatdoor", sum := "afb19413a16e3622c97eb585430e94559bb6a16f50471489ce94be80df5ceb3f", checked := Tryz.checked }
namespace Rows
def none {H : Type} : Left H := { results := [], args := [] }

/- WHAT THE LISTED PACKAGE-LEVEL VARIABLES READ AS WHEN THE CALL BEGINS. Each datum BY PROGRAM (the guide's laid-datum.mjs) off the statement by which the dump's own 'gosem.cut.vars' lays the variable. In a bare row this is a premise. The card (YtnfngemnghiehaaGreatDoorCards.lean) ties it to the program's text. -/
def laid_unicode_utf8_acceptRanges {H : Type} : DataW H := .agg [.agg [.lit (.int .u8 128), .lit (.int .u8 191)], .agg [.lit (.int .u8 160), .lit (.int .u8 191)], .agg [.lit (.int .u8 128), .lit (.int .u8 159)], .agg [.lit (.int .u8 144), .lit (.int .u8 191)], .agg [.lit (.int .u8 128), .lit (.int .u8 143)], .agg [.lit (.int .u8 0), .lit (.int .u8 0)], .agg [.lit (.int .u8 0), .lit (.int .u8 0)], .agg [.lit (.int .u8 0), .lit (.int .u8 0)], .agg [.lit (.int .u8 0), .lit (.int .u8 0)], .agg [.lit (.int .u8 0), .lit (.int .u8 0)], .agg [.lit (.int .u8 0), .lit (.int .u8 0)], .agg [.lit (.int .u8 0), .lit (.int .u8 0)], .agg [.lit (.int .u8 0), .lit (.int .u8 0)], .agg [.lit (.int .u8 0), .lit (.int .u8 0)], .agg [.lit (.int .u8 0), .lit (.int .u8 0)], .agg [.lit (.int .u8 0), .lit (.int .u8 0)]]
/-- One of Go's own tables, pinned by name: the form's constant. -/
def laid_unicode_utf8_first : DataW Unit := Go.Pinned.utf8First

/-- 'laws.FnRootStays': WHATEVER THE INPUT: true; the input reads as it did. -/
def fnRootStaysSpec : ChangeSpec := { name := "fnRootStays", fn := fun _ => fun
  | [d] => { results := [.lit (.bool true)], args := [d] }
  | _ => none }
def fnRootStaysRow : OpenClaim := { program := "ytnfngemnghiehaagreatdoor", sum := "afb19413a16e3622c97eb585430e94559bb6a16f50471489ce94be80df5ceb3f", func := "loop.example/g00285/laws.FnRootStays", spec := "fnRootStays", inPlace := ["internal/bytealg.CountString", "internal/bytealg.IndexByteString", "internal/bytealg.IndexString", "internal/abi.NoEscape", "internal/bytealg.MakeNoZero", "slices.overlaps[loop.example/g00285/impl.Ent]", "slices.overlaps[loop.example/g00285/impl.Inode]"], unfollowed := true, recurses := true, named := ["unicode/utf8.first", "unicode/utf8.acceptRanges", "internal/bytealg.MaxLen"], apart := false, laid := [("unicode/utf8.acceptRanges", laid_unicode_utf8_acceptRanges), ("unicode/utf8.first", laid_unicode_utf8_first)] }
def FnRootStaysSaid : Prop := fnRootStaysRow.holds Tryz.pinned (OpenSpec.ofChange fnRootStaysSpec)

/-- ITS FALSE NEIGHBOUR: 'it returns false'. Refute it at one input. -/
def fnRootStaysWrong : ChangeSpec := { name := "fnRootStays", fn := fun _ => fun
  | [d] => { results := [.lit (.bool false)], args := [d] }
  | _ => none }
def FnRootStaysWrongFalsely : Prop := fnRootStaysRow.holds Tryz.pinned (OpenSpec.ofChange fnRootStaysWrong)

/-- 'laws.FnUnlinked': WHATEVER THE INPUT: true; the input reads as it did. -/
def fnUnlinkedSpec : ChangeSpec := { name := "fnUnlinked", fn := fun _ => fun
  | [d] => { results := [.lit (.bool true)], args := [d] }
  | _ => none }
def fnUnlinkedRow : OpenClaim := { program := "ytnfngemnghiehaagreatdoor", sum := "afb19413a16e3622c97eb585430e94559bb6a16f50471489ce94be80df5ceb3f", func := "loop.example/g00285/laws.FnUnlinked", spec := "fnUnlinked", inPlace := ["internal/bytealg.CountString", "internal/bytealg.IndexByteString", "internal/bytealg.IndexString", "internal/abi.NoEscape", "internal/bytealg.MakeNoZero", "slices.overlaps[loop.example/g00285/impl.Inode]"], unfollowed := true, recurses := true, named := ["unicode/utf8.first", "unicode/utf8.acceptRanges", "internal/bytealg.MaxLen"], apart := false, laid := [("unicode/utf8.acceptRanges", laid_unicode_utf8_acceptRanges), ("unicode/utf8.first", laid_unicode_utf8_first)] }
def FnUnlinkedSaid : Prop := fnUnlinkedRow.holds Tryz.pinned (OpenSpec.ofChange fnUnlinkedSpec)

/-- ITS FALSE NEIGHBOUR: 'it returns false'. Refute it at one input. -/
def fnUnlinkedWrong : ChangeSpec := { name := "fnUnlinked", fn := fun _ => fun
  | [d] => { results := [.lit (.bool false)], args := [d] }
  | _ => none }
def FnUnlinkedWrongFalsely : Prop := fnUnlinkedRow.holds Tryz.pinned (OpenSpec.ofChange fnUnlinkedWrong)

/-- 'laws.FnRemoved': WHATEVER THE INPUT: true; the input reads as it did. -/
def fnRemovedSpec : ChangeSpec := { name := "fnRemoved", fn := fun _ => fun
  | [d] => { results := [.lit (.bool true)], args := [d] }
  | _ => none }
def fnRemovedRow : OpenClaim := { program := "ytnfngemnghiehaagreatdoor", sum := "afb19413a16e3622c97eb585430e94559bb6a16f50471489ce94be80df5ceb3f", func := "loop.example/g00285/laws.FnRemoved", spec := "fnRemoved", inPlace := ["internal/bytealg.CountString", "internal/bytealg.IndexByteString", "internal/bytealg.IndexString", "internal/abi.NoEscape", "internal/bytealg.MakeNoZero", "slices.overlaps[loop.example/g00285/impl.Inode]"], unfollowed := true, recurses := true, named := ["unicode/utf8.first", "unicode/utf8.acceptRanges", "internal/bytealg.MaxLen"], apart := false, laid := [("unicode/utf8.acceptRanges", laid_unicode_utf8_acceptRanges), ("unicode/utf8.first", laid_unicode_utf8_first)] }
def FnRemovedSaid : Prop := fnRemovedRow.holds Tryz.pinned (OpenSpec.ofChange fnRemovedSpec)

/-- ITS FALSE NEIGHBOUR: 'it returns false'. Refute it at one input. -/
def fnRemovedWrong : ChangeSpec := { name := "fnRemoved", fn := fun _ => fun
  | [d] => { results := [.lit (.bool false)], args := [d] }
  | _ => none }
def FnRemovedWrongFalsely : Prop := fnRemovedRow.holds Tryz.pinned (OpenSpec.ofChange fnRemovedWrong)

/-- 'laws.FnMade': WHATEVER THE INPUT: true; the input reads as it did. -/
def fnMadeSpec : ChangeSpec := { name := "fnMade", fn := fun _ => fun
  | [d] => { results := [.lit (.bool true)], args := [d] }
  | _ => none }
def fnMadeRow : OpenClaim := { program := "ytnfngemnghiehaagreatdoor", sum := "afb19413a16e3622c97eb585430e94559bb6a16f50471489ce94be80df5ceb3f", func := "loop.example/g00285/laws.FnMade", spec := "fnMade", inPlace := ["internal/bytealg.CountString", "internal/bytealg.IndexByteString", "internal/bytealg.IndexString", "internal/abi.NoEscape", "internal/bytealg.MakeNoZero", "slices.overlaps[loop.example/g00285/impl.Ent]", "slices.overlaps[loop.example/g00285/impl.Inode]"], unfollowed := true, recurses := true, named := ["unicode/utf8.first", "unicode/utf8.acceptRanges", "internal/bytealg.MaxLen"], apart := false, laid := [("unicode/utf8.acceptRanges", laid_unicode_utf8_acceptRanges), ("unicode/utf8.first", laid_unicode_utf8_first)] }
def FnMadeSaid : Prop := fnMadeRow.holds Tryz.pinned (OpenSpec.ofChange fnMadeSpec)

/-- ITS FALSE NEIGHBOUR: 'it returns false'. Refute it at one input. -/
def fnMadeWrong : ChangeSpec := { name := "fnMade", fn := fun _ => fun
  | [d] => { results := [.lit (.bool false)], args := [d] }
  | _ => none }
def FnMadeWrongFalsely : Prop := fnMadeRow.holds Tryz.pinned (OpenSpec.ofChange fnMadeWrong)

/-- 'laws.FnDirs': WHATEVER THE INPUT: true; the input reads as it did. -/
def fnDirsSpec : ChangeSpec := { name := "fnDirs", fn := fun _ => fun
  | [d] => { results := [.lit (.bool true)], args := [d] }
  | _ => none }
def fnDirsRow : OpenClaim := { program := "ytnfngemnghiehaagreatdoor", sum := "afb19413a16e3622c97eb585430e94559bb6a16f50471489ce94be80df5ceb3f", func := "loop.example/g00285/laws.FnDirs", spec := "fnDirs", inPlace := ["internal/bytealg.CountString", "internal/bytealg.IndexByteString", "internal/bytealg.IndexString", "internal/abi.NoEscape", "internal/bytealg.MakeNoZero", "slices.overlaps[loop.example/g00285/impl.Ent]", "slices.overlaps[loop.example/g00285/impl.Inode]"], unfollowed := true, recurses := true, named := ["unicode/utf8.first", "unicode/utf8.acceptRanges", "internal/bytealg.MaxLen"], apart := false, laid := [("unicode/utf8.acceptRanges", laid_unicode_utf8_acceptRanges), ("unicode/utf8.first", laid_unicode_utf8_first)] }
def FnDirsSaid : Prop := fnDirsRow.holds Tryz.pinned (OpenSpec.ofChange fnDirsSpec)

/-- ITS FALSE NEIGHBOUR: 'it returns false'. Refute it at one input. -/
def fnDirsWrong : ChangeSpec := { name := "fnDirs", fn := fun _ => fun
  | [d] => { results := [.lit (.bool false)], args := [d] }
  | _ => none }
def FnDirsWrongFalsely : Prop := fnDirsRow.holds Tryz.pinned (OpenSpec.ofChange fnDirsWrong)

/-- 'laws.FnLinked': WHATEVER THE INPUT: true; the input reads as it did. -/
def fnLinkedSpec : ChangeSpec := { name := "fnLinked", fn := fun _ => fun
  | [d] => { results := [.lit (.bool true)], args := [d] }
  | _ => none }
def fnLinkedRow : OpenClaim := { program := "ytnfngemnghiehaagreatdoor", sum := "afb19413a16e3622c97eb585430e94559bb6a16f50471489ce94be80df5ceb3f", func := "loop.example/g00285/laws.FnLinked", spec := "fnLinked", inPlace := ["internal/bytealg.CountString", "internal/bytealg.IndexByteString", "internal/bytealg.IndexString", "internal/abi.NoEscape", "internal/bytealg.MakeNoZero", "slices.overlaps[loop.example/g00285/impl.Ent]", "slices.overlaps[loop.example/g00285/impl.Inode]"], unfollowed := true, recurses := true, named := ["unicode/utf8.first", "unicode/utf8.acceptRanges", "internal/bytealg.MaxLen"], apart := false, laid := [("unicode/utf8.acceptRanges", laid_unicode_utf8_acceptRanges), ("unicode/utf8.first", laid_unicode_utf8_first)] }
def FnLinkedSaid : Prop := fnLinkedRow.holds Tryz.pinned (OpenSpec.ofChange fnLinkedSpec)

/-- ITS FALSE NEIGHBOUR: 'it returns false'. Refute it at one input. -/
def fnLinkedWrong : ChangeSpec := { name := "fnLinked", fn := fun _ => fun
  | [d] => { results := [.lit (.bool false)], args := [d] }
  | _ => none }
def FnLinkedWrongFalsely : Prop := fnLinkedRow.holds Tryz.pinned (OpenSpec.ofChange fnLinkedWrong)

/-- 'laws.FnMoved': WHATEVER THE INPUT: true; the input reads as it did. -/
def fnMovedSpec : ChangeSpec := { name := "fnMoved", fn := fun _ => fun
  | [d] => { results := [.lit (.bool true)], args := [d] }
  | _ => none }
def fnMovedRow : OpenClaim := { program := "ytnfngemnghiehaagreatdoor", sum := "afb19413a16e3622c97eb585430e94559bb6a16f50471489ce94be80df5ceb3f", func := "loop.example/g00285/laws.FnMoved", spec := "fnMoved", inPlace := ["internal/bytealg.CountString", "internal/bytealg.IndexByteString", "internal/bytealg.IndexString", "internal/abi.NoEscape", "internal/bytealg.MakeNoZero", "slices.overlaps[loop.example/g00285/impl.Inode]", "slices.overlaps[loop.example/g00285/impl.Ent]"], unfollowed := true, recurses := true, named := ["unicode/utf8.first", "unicode/utf8.acceptRanges", "internal/bytealg.MaxLen"], apart := false, laid := [("unicode/utf8.acceptRanges", laid_unicode_utf8_acceptRanges), ("unicode/utf8.first", laid_unicode_utf8_first)] }
def FnMovedSaid : Prop := fnMovedRow.holds Tryz.pinned (OpenSpec.ofChange fnMovedSpec)

/-- ITS FALSE NEIGHBOUR: 'it returns false'. Refute it at one input. -/
def fnMovedWrong : ChangeSpec := { name := "fnMoved", fn := fun _ => fun
  | [d] => { results := [.lit (.bool false)], args := [d] }
  | _ => none }
def FnMovedWrongFalsely : Prop := fnMovedRow.holds Tryz.pinned (OpenSpec.ofChange fnMovedWrong)

/-- 'laws.FnTreesBent': WHATEVER THE INPUT: true; the input reads as it did. -/
def fnTreesBentSpec : ChangeSpec := { name := "fnTreesBent", fn := fun _ => fun
  | [d] => { results := [.lit (.bool true)], args := [d] }
  | _ => none }
def fnTreesBentRow : OpenClaim := { program := "ytnfngemnghiehaagreatdoor", sum := "afb19413a16e3622c97eb585430e94559bb6a16f50471489ce94be80df5ceb3f", func := "loop.example/g00285/laws.FnTreesBent", spec := "fnTreesBent", inPlace := ["internal/bytealg.CountString", "internal/bytealg.IndexByteString", "internal/bytealg.IndexString", "internal/abi.NoEscape", "internal/bytealg.MakeNoZero", "slices.overlaps[loop.example/g00285/impl.Ent]", "slices.overlaps[loop.example/g00285/impl.Inode]", "slices.overlaps[loop.example/g00285/impl.Attr]"], unfollowed := true, recurses := true, named := ["unicode/utf8.first", "unicode/utf8.acceptRanges", "internal/bytealg.MaxLen"], apart := false, laid := [("unicode/utf8.acceptRanges", laid_unicode_utf8_acceptRanges), ("unicode/utf8.first", laid_unicode_utf8_first)] }
def FnTreesBentSaid : Prop := fnTreesBentRow.holds Tryz.pinned (OpenSpec.ofChange fnTreesBentSpec)

/-- ITS FALSE NEIGHBOUR: 'it returns false'. Refute it at one input. -/
def fnTreesBentWrong : ChangeSpec := { name := "fnTreesBent", fn := fun _ => fun
  | [d] => { results := [.lit (.bool false)], args := [d] }
  | _ => none }
def FnTreesBentWrongFalsely : Prop := fnTreesBentRow.holds Tryz.pinned (OpenSpec.ofChange fnTreesBentWrong)

/-- 'laws.FnExactRename': WHATEVER THE INPUT: true; the input reads as it did. -/
def fnExactRenameSpec : ChangeSpec := { name := "fnExactRename", fn := fun _ => fun
  | [d1, d2, d3] => { results := [.lit (.bool true)], args := [d1, d2, d3] }
  | _ => none }
def fnExactRenameRow : OpenClaim := { program := "ytnfngemnghiehaagreatdoor", sum := "afb19413a16e3622c97eb585430e94559bb6a16f50471489ce94be80df5ceb3f", func := "loop.example/g00285/laws.FnExactRename", spec := "fnExactRename", inPlace := ["internal/bytealg.CountString", "internal/bytealg.IndexByteString", "internal/bytealg.IndexString", "internal/abi.NoEscape", "internal/bytealg.MakeNoZero", "slices.overlaps[loop.example/g00285/impl.Inode]", "slices.overlaps[loop.example/g00285/impl.Ent]"], unfollowed := true, recurses := true, named := ["unicode/utf8.first", "unicode/utf8.acceptRanges", "internal/bytealg.MaxLen"], apart := false, laid := [("unicode/utf8.acceptRanges", laid_unicode_utf8_acceptRanges), ("unicode/utf8.first", laid_unicode_utf8_first)] }
def FnExactRenameSaid : Prop := fnExactRenameRow.holds Tryz.pinned (OpenSpec.ofChange fnExactRenameSpec)

/-- ITS FALSE NEIGHBOUR: 'it returns false'. Refute it at one input. -/
def fnExactRenameWrong : ChangeSpec := { name := "fnExactRename", fn := fun _ => fun
  | [d1, d2, d3] => { results := [.lit (.bool false)], args := [d1, d2, d3] }
  | _ => none }
def FnExactRenameWrongFalsely : Prop := fnExactRenameRow.holds Tryz.pinned (OpenSpec.ofChange fnExactRenameWrong)

/- THE SECOND FORM. 'bulk': how many values and letters a reading holds, each counted each time it is reached (what is shared counts as often as it is met; a slice's spare places count too). A statement '..UptoSaid' is the law's where the arguments, and the package variables that the reading takes, are together of bulk at most 1048576: NARROWER than '..Said'. Prove '..Said' where nothing that the law and all that it calls make is longer than what came in: it says more and counts as full. Else prove '..UptoSaid'. A law counts once. -/
mutual
def uptoBulk {H : Type} : DataW H → Nat
  | .lit (.string bytes) => bytes.length + 1
  | .lit _ => 1
  | .nil => 1
  | .ptr d => uptoBulk d + 1
  | .slice elems spare => uptoBulkAll elems + uptoBulkAll spare + 1
  | .agg parts => uptoBulkAll parts + 1
  | .iface _ d => uptoBulk d + 1
  | .map entries => uptoBulkEntries entries + 1
  | .held _ => 1
def uptoBulkAll {H : Type} : List (DataW H) → Nat
  | [] => 0
  | d :: r => uptoBulk d + uptoBulkAll r
def uptoBulkEntries {H : Type} : List (Lit × DataW H) → Nat
  | [] => 0
  | x :: r => uptoBulkEntry x + uptoBulkEntries r
def uptoBulkEntry {H : Type} : Lit × DataW H → Nat
  | (.string bytes, d) => bytes.length + uptoBulk d + 1
  | (_, d) => uptoBulk d + 1
 end
def uptoSmall : (H : Type) → List (DataW H) → Bool := fun _ ds => decide (uptoBulkAll ds ≤ 1048576)
def OpenSpec.upto (s : _root_.Go.ChangeSpec) : _root_.Go.OpenSpec := { _root_.Go.OpenSpec.ofChange s with cond := some uptoSmall }

/-- 'laws.FnRootStays', WHERE WHAT IT READS IS OF BULK AT MOST 1048576: true; the input reads as it did. -/
def fnRootStaysUptoRow : OpenClaim := { program := "ytnfngemnghiehaagreatdoor", sum := "afb19413a16e3622c97eb585430e94559bb6a16f50471489ce94be80df5ceb3f", func := "loop.example/g00285/laws.FnRootStays", spec := "fnRootStays", inPlace := ["internal/bytealg.CountString", "internal/bytealg.IndexByteString", "internal/bytealg.IndexString", "internal/abi.NoEscape", "internal/bytealg.MakeNoZero", "slices.overlaps[loop.example/g00285/impl.Ent]", "slices.overlaps[loop.example/g00285/impl.Inode]"], unfollowed := true, recurses := true, named := ["unicode/utf8.first", "unicode/utf8.acceptRanges", "internal/bytealg.MaxLen"], apart := false, laid := [("unicode/utf8.acceptRanges", laid_unicode_utf8_acceptRanges), ("unicode/utf8.first", laid_unicode_utf8_first)], narrowed := true }
def FnRootStaysUptoSaid : Prop := fnRootStaysUptoRow.holds Tryz.pinned (OpenSpec.upto fnRootStaysSpec)

/-- 'laws.FnUnlinked', WHERE WHAT IT READS IS OF BULK AT MOST 1048576: true; the input reads as it did. -/
def fnUnlinkedUptoRow : OpenClaim := { program := "ytnfngemnghiehaagreatdoor", sum := "afb19413a16e3622c97eb585430e94559bb6a16f50471489ce94be80df5ceb3f", func := "loop.example/g00285/laws.FnUnlinked", spec := "fnUnlinked", inPlace := ["internal/bytealg.CountString", "internal/bytealg.IndexByteString", "internal/bytealg.IndexString", "internal/abi.NoEscape", "internal/bytealg.MakeNoZero", "slices.overlaps[loop.example/g00285/impl.Inode]"], unfollowed := true, recurses := true, named := ["unicode/utf8.first", "unicode/utf8.acceptRanges", "internal/bytealg.MaxLen"], apart := false, laid := [("unicode/utf8.acceptRanges", laid_unicode_utf8_acceptRanges), ("unicode/utf8.first", laid_unicode_utf8_first)], narrowed := true }
def FnUnlinkedUptoSaid : Prop := fnUnlinkedUptoRow.holds Tryz.pinned (OpenSpec.upto fnUnlinkedSpec)

/-- 'laws.FnRemoved', WHERE WHAT IT READS IS OF BULK AT MOST 1048576: true; the input reads as it did. -/
def fnRemovedUptoRow : OpenClaim := { program := "ytnfngemnghiehaagreatdoor", sum := "afb19413a16e3622c97eb585430e94559bb6a16f50471489ce94be80df5ceb3f", func := "loop.example/g00285/laws.FnRemoved", spec := "fnRemoved", inPlace := ["internal/bytealg.CountString", "internal/bytealg.IndexByteString", "internal/bytealg.IndexString", "internal/abi.NoEscape", "internal/bytealg.MakeNoZero", "slices.overlaps[loop.example/g00285/impl.Inode]"], unfollowed := true, recurses := true, named := ["unicode/utf8.first", "unicode/utf8.acceptRanges", "internal/bytealg.MaxLen"], apart := false, laid := [("unicode/utf8.acceptRanges", laid_unicode_utf8_acceptRanges), ("unicode/utf8.first", laid_unicode_utf8_first)], narrowed := true }
def FnRemovedUptoSaid : Prop := fnRemovedUptoRow.holds Tryz.pinned (OpenSpec.upto fnRemovedSpec)

/-- 'laws.FnMade', WHERE WHAT IT READS IS OF BULK AT MOST 1048576: true; the input reads as it did. -/
def fnMadeUptoRow : OpenClaim := { program := "ytnfngemnghiehaagreatdoor", sum := "afb19413a16e3622c97eb585430e94559bb6a16f50471489ce94be80df5ceb3f", func := "loop.example/g00285/laws.FnMade", spec := "fnMade", inPlace := ["internal/bytealg.CountString", "internal/bytealg.IndexByteString", "internal/bytealg.IndexString", "internal/abi.NoEscape", "internal/bytealg.MakeNoZero", "slices.overlaps[loop.example/g00285/impl.Ent]", "slices.overlaps[loop.example/g00285/impl.Inode]"], unfollowed := true, recurses := true, named := ["unicode/utf8.first", "unicode/utf8.acceptRanges", "internal/bytealg.MaxLen"], apart := false, laid := [("unicode/utf8.acceptRanges", laid_unicode_utf8_acceptRanges), ("unicode/utf8.first", laid_unicode_utf8_first)], narrowed := true }
def FnMadeUptoSaid : Prop := fnMadeUptoRow.holds Tryz.pinned (OpenSpec.upto fnMadeSpec)

/-- 'laws.FnDirs', WHERE WHAT IT READS IS OF BULK AT MOST 1048576: true; the input reads as it did. -/
def fnDirsUptoRow : OpenClaim := { program := "ytnfngemnghiehaagreatdoor", sum := "afb19413a16e3622c97eb585430e94559bb6a16f50471489ce94be80df5ceb3f", func := "loop.example/g00285/laws.FnDirs", spec := "fnDirs", inPlace := ["internal/bytealg.CountString", "internal/bytealg.IndexByteString", "internal/bytealg.IndexString", "internal/abi.NoEscape", "internal/bytealg.MakeNoZero", "slices.overlaps[loop.example/g00285/impl.Ent]", "slices.overlaps[loop.example/g00285/impl.Inode]"], unfollowed := true, recurses := true, named := ["unicode/utf8.first", "unicode/utf8.acceptRanges", "internal/bytealg.MaxLen"], apart := false, laid := [("unicode/utf8.acceptRanges", laid_unicode_utf8_acceptRanges), ("unicode/utf8.first", laid_unicode_utf8_first)], narrowed := true }
def FnDirsUptoSaid : Prop := fnDirsUptoRow.holds Tryz.pinned (OpenSpec.upto fnDirsSpec)

/-- 'laws.FnLinked', WHERE WHAT IT READS IS OF BULK AT MOST 1048576: true; the input reads as it did. -/
def fnLinkedUptoRow : OpenClaim := { program := "ytnfngemnghiehaagreatdoor", sum := "afb19413a16e3622c97eb585430e94559bb6a16f50471489ce94be80df5ceb3f", func := "loop.example/g00285/laws.FnLinked", spec := "fnLinked", inPlace := ["internal/bytealg.CountString", "internal/bytealg.IndexByteString", "internal/bytealg.IndexString", "internal/abi.NoEscape", "internal/bytealg.MakeNoZero", "slices.overlaps[loop.example/g00285/impl.Ent]", "slices.overlaps[loop.example/g00285/impl.Inode]"], unfollowed := true, recurses := true, named := ["unicode/utf8.first", "unicode/utf8.acceptRanges", "internal/bytealg.MaxLen"], apart := false, laid := [("unicode/utf8.acceptRanges", laid_unicode_utf8_acceptRanges), ("unicode/utf8.first", laid_unicode_utf8_first)], narrowed := true }
def FnLinkedUptoSaid : Prop := fnLinkedUptoRow.holds Tryz.pinned (OpenSpec.upto fnLinkedSpec)

/-- 'laws.FnMoved', WHERE WHAT IT READS IS OF BULK AT MOST 1048576: true; the input reads as it did. -/
def fnMovedUptoRow : OpenClaim := { program := "ytnfngemnghiehaagreatdoor", sum := "afb19413a16e3622c97eb585430e94559bb6a16f50471489ce94be80df5ceb3f", func := "loop.example/g00285/laws.FnMoved", spec := "fnMoved", inPlace := ["internal/bytealg.CountString", "internal/bytealg.IndexByteString", "internal/bytealg.IndexString", "internal/abi.NoEscape", "internal/bytealg.MakeNoZero", "slices.overlaps[loop.example/g00285/impl.Inode]", "slices.overlaps[loop.example/g00285/impl.Ent]"], unfollowed := true, recurses := true, named := ["unicode/utf8.first", "unicode/utf8.acceptRanges", "internal/bytealg.MaxLen"], apart := false, laid := [("unicode/utf8.acceptRanges", laid_unicode_utf8_acceptRanges), ("unicode/utf8.first", laid_unicode_utf8_first)], narrowed := true }
def FnMovedUptoSaid : Prop := fnMovedUptoRow.holds Tryz.pinned (OpenSpec.upto fnMovedSpec)

/-- 'laws.FnTreesBent', WHERE WHAT IT READS IS OF BULK AT MOST 1048576: true; the input reads as it did. -/
def fnTreesBentUptoRow : OpenClaim := { program := "ytnfngemnghiehaagreatdoor", sum := "afb19413a16e3622c97eb585430e94559bb6a16f50471489ce94be80df5ceb3f", func := "loop.example/g00285/laws.FnTreesBent", spec := "fnTreesBent", inPlace := ["internal/bytealg.CountString", "internal/bytealg.IndexByteString", "internal/bytealg.IndexString", "internal/abi.NoEscape", "internal/bytealg.MakeNoZero", "slices.overlaps[loop.example/g00285/impl.Ent]", "slices.overlaps[loop.example/g00285/impl.Inode]", "slices.overlaps[loop.example/g00285/impl.Attr]"], unfollowed := true, recurses := true, named := ["unicode/utf8.first", "unicode/utf8.acceptRanges", "internal/bytealg.MaxLen"], apart := false, laid := [("unicode/utf8.acceptRanges", laid_unicode_utf8_acceptRanges), ("unicode/utf8.first", laid_unicode_utf8_first)], narrowed := true }
def FnTreesBentUptoSaid : Prop := fnTreesBentUptoRow.holds Tryz.pinned (OpenSpec.upto fnTreesBentSpec)

/-- 'laws.FnExactRename', WHERE WHAT IT READS IS OF BULK AT MOST 1048576: true; the input reads as it did. -/
def fnExactRenameUptoRow : OpenClaim := { program := "ytnfngemnghiehaagreatdoor", sum := "afb19413a16e3622c97eb585430e94559bb6a16f50471489ce94be80df5ceb3f", func := "loop.example/g00285/laws.FnExactRename", spec := "fnExactRename", inPlace := ["internal/bytealg.CountString", "internal/bytealg.IndexByteString", "internal/bytealg.IndexString", "internal/abi.NoEscape", "internal/bytealg.MakeNoZero", "slices.overlaps[loop.example/g00285/impl.Inode]", "slices.overlaps[loop.example/g00285/impl.Ent]"], unfollowed := true, recurses := true, named := ["unicode/utf8.first", "unicode/utf8.acceptRanges", "internal/bytealg.MaxLen"], apart := false, laid := [("unicode/utf8.acceptRanges", laid_unicode_utf8_acceptRanges), ("unicode/utf8.first", laid_unicode_utf8_first)], narrowed := true }
def FnExactRenameUptoSaid : Prop := fnExactRenameUptoRow.holds Tryz.pinned (OpenSpec.upto fnExactRenameSpec)

end Rows
end Go.Proofs.YtnfngemnghiehaaGreatDoor
