/-
  No cell of these rows narrows 'for every input' (looked for: loops, veiled, ifaces, maps, wideKeys, modest, calm, conditions, laid).
  DERIVED. THE GIVEN ROWS OF THIS SEAT. 6 by the template 'for every input the law returns true; each argument reads behind the call as it read before'; 0 by the template 'total and deterministic' (their statements: YtnfeefcnblondaaGreatTotals.lean).
  GIVEN WITH THE SEED: the statements are not yours to turn. If you find one false, say at which input.
  Laid BY PROGRAM, IN A SANDBOX (cutbox-rows.mjs): the forced cells as the released guide's own fill.sh prints them over the translation 4ee9cb72f8ec6e25… (all of the seat's roots in one cut). By AI agents, Wed Nov 11 2026. No macro, syntax, notation, axiom, sorry.
-/
import Derived.Test.YtnfeefcnblondaaGreatChecked
import GoSem.Claim
import GoSem.ClaimJoined
import GoSem.ClaimMapViews
import Derived.JoinedTies
import Derived.KernelRfl
namespace Go.Proofs.YtnfeefcnblondaaGreat
/- THE CELL 'sum', in the pinned program and in every row, IS THE sha256 OF THE DUMP (.gsa) THAT YtnfeefcnblondaaGreatProg.lean LOADS. Nothing in Lean hashes anything: it is a label: what it is worth is what the hold of that sum in a sandbox is worth. -/
noncomputable def Tryz.pinned : Pinned := { name := "ytnfeefcnblondaagreat", sum := "4ee9cb72f8ec6e256a82ffce190684e7b2cdeeece719a1f9a305a6c280cf41d0", checked := Tryz.checked }
namespace Rows
def none {H : Type} : Left H := { results := [], args := [] }

/-- 'laws.FnOps': WHATEVER THE INPUT: true; the input reads as it did. -/
def fnOpsSpec : ChangeSpec := { name := "fnOps", fn := fun _ => fun
  | [d] => { results := [.lit (.bool true)], args := [d] }
  | _ => none }
def fnOpsRow : OpenClaim := { program := "ytnfeefcnblondaagreat", sum := "4ee9cb72f8ec6e256a82ffce190684e7b2cdeeece719a1f9a305a6c280cf41d0", func := "loop.example/g00285/laws.FnOps", spec := "fnOps", recurses := true, apart := false }
def FnOpsSaid : Prop := fnOpsRow.holds Tryz.pinned (OpenSpec.ofChange fnOpsSpec)

/-- ITS FALSE NEIGHBOUR: 'it returns false'. Refute it at one input. -/
def fnOpsWrong : ChangeSpec := { name := "fnOps", fn := fun _ => fun
  | [d] => { results := [.lit (.bool false)], args := [d] }
  | _ => none }
def FnOpsWrongFalsely : Prop := fnOpsRow.holds Tryz.pinned (OpenSpec.ofChange fnOpsWrong)

/-- 'laws.FnLimits': WHATEVER THE INPUT: true; the input reads as it did. -/
def fnLimitsSpec : ChangeSpec := { name := "fnLimits", fn := fun _ => fun
  | [d] => { results := [.lit (.bool true)], args := [d] }
  | _ => none }
def fnLimitsRow : OpenClaim := { program := "ytnfeefcnblondaagreat", sum := "4ee9cb72f8ec6e256a82ffce190684e7b2cdeeece719a1f9a305a6c280cf41d0", func := "loop.example/g00285/laws.FnLimits", spec := "fnLimits", unfollowed := true, recurses := true, apart := false }
def FnLimitsSaid : Prop := fnLimitsRow.holds Tryz.pinned (OpenSpec.ofChange fnLimitsSpec)

/-- ITS FALSE NEIGHBOUR: 'it returns false'. Refute it at one input. -/
def fnLimitsWrong : ChangeSpec := { name := "fnLimits", fn := fun _ => fun
  | [d] => { results := [.lit (.bool false)], args := [d] }
  | _ => none }
def FnLimitsWrongFalsely : Prop := fnLimitsRow.holds Tryz.pinned (OpenSpec.ofChange fnLimitsWrong)

/-- 'laws.FnVols': WHATEVER THE INPUT: true; the input reads as it did. -/
def fnVolsSpec : ChangeSpec := { name := "fnVols", fn := fun _ => fun
  | [d] => { results := [.lit (.bool true)], args := [d] }
  | _ => none }
def fnVolsRow : OpenClaim := { program := "ytnfeefcnblondaagreat", sum := "4ee9cb72f8ec6e256a82ffce190684e7b2cdeeece719a1f9a305a6c280cf41d0", func := "loop.example/g00285/laws.FnVols", spec := "fnVols", unfollowed := true, recurses := true, apart := false }
def FnVolsSaid : Prop := fnVolsRow.holds Tryz.pinned (OpenSpec.ofChange fnVolsSpec)

/-- ITS FALSE NEIGHBOUR: 'it returns false'. Refute it at one input. -/
def fnVolsWrong : ChangeSpec := { name := "fnVols", fn := fun _ => fun
  | [d] => { results := [.lit (.bool false)], args := [d] }
  | _ => none }
def FnVolsWrongFalsely : Prop := fnVolsRow.holds Tryz.pinned (OpenSpec.ofChange fnVolsWrong)

/-- 'laws.FnDropped': WHATEVER THE INPUT: true; the input reads as it did. -/
def fnDroppedSpec : ChangeSpec := { name := "fnDropped", fn := fun _ => fun
  | [d] => { results := [.lit (.bool true)], args := [d] }
  | _ => none }
def fnDroppedRow : OpenClaim := { program := "ytnfeefcnblondaagreat", sum := "4ee9cb72f8ec6e256a82ffce190684e7b2cdeeece719a1f9a305a6c280cf41d0", func := "loop.example/g00285/laws.FnDropped", spec := "fnDropped", unfollowed := true, recurses := true, apart := false }
def FnDroppedSaid : Prop := fnDroppedRow.holds Tryz.pinned (OpenSpec.ofChange fnDroppedSpec)

/-- ITS FALSE NEIGHBOUR: 'it returns false'. Refute it at one input. -/
def fnDroppedWrong : ChangeSpec := { name := "fnDropped", fn := fun _ => fun
  | [d] => { results := [.lit (.bool false)], args := [d] }
  | _ => none }
def FnDroppedWrongFalsely : Prop := fnDroppedRow.holds Tryz.pinned (OpenSpec.ofChange fnDroppedWrong)

/-- 'laws.FnTwins': WHATEVER THE INPUT: true; the input reads as it did. -/
def fnTwinsSpec : ChangeSpec := { name := "fnTwins", fn := fun _ => fun
  | [d] => { results := [.lit (.bool true)], args := [d] }
  | _ => none }
def fnTwinsRow : OpenClaim := { program := "ytnfeefcnblondaagreat", sum := "4ee9cb72f8ec6e256a82ffce190684e7b2cdeeece719a1f9a305a6c280cf41d0", func := "loop.example/g00285/laws.FnTwins", spec := "fnTwins", unfollowed := true, recurses := true, apart := false }
def FnTwinsSaid : Prop := fnTwinsRow.holds Tryz.pinned (OpenSpec.ofChange fnTwinsSpec)

/-- ITS FALSE NEIGHBOUR: 'it returns false'. Refute it at one input. -/
def fnTwinsWrong : ChangeSpec := { name := "fnTwins", fn := fun _ => fun
  | [d] => { results := [.lit (.bool false)], args := [d] }
  | _ => none }
def FnTwinsWrongFalsely : Prop := fnTwinsRow.holds Tryz.pinned (OpenSpec.ofChange fnTwinsWrong)

/-- 'laws.FnFss': WHATEVER THE INPUT: true; the input reads as it did. -/
def fnFssSpec : ChangeSpec := { name := "fnFss", fn := fun _ => fun
  | [d] => { results := [.lit (.bool true)], args := [d] }
  | _ => none }
def fnFssRow : OpenClaim := { program := "ytnfeefcnblondaagreat", sum := "4ee9cb72f8ec6e256a82ffce190684e7b2cdeeece719a1f9a305a6c280cf41d0", func := "loop.example/g00285/laws.FnFss", spec := "fnFss", unfollowed := true, recurses := true, apart := false }
def FnFssSaid : Prop := fnFssRow.holds Tryz.pinned (OpenSpec.ofChange fnFssSpec)

/-- ITS FALSE NEIGHBOUR: 'it returns false'. Refute it at one input. -/
def fnFssWrong : ChangeSpec := { name := "fnFss", fn := fun _ => fun
  | [d] => { results := [.lit (.bool false)], args := [d] }
  | _ => none }
def FnFssWrongFalsely : Prop := fnFssRow.holds Tryz.pinned (OpenSpec.ofChange fnFssWrong)

/- THE SECOND FORM. 'bulk': how many values and letters a reading holds, each counted each time it is reached (what is shared counts as often as it is met; a slice's spare places count too). A statement '..UptoSaid' is the law's where the arguments, and the package variables that the reading takes, are together of bulk at most 1048576: NARROWER than '..Said'. Prove '..Said' where nothing that the law and all that it calls make is longer than what came in: it says more and counts as full. Else prove '..UptoSaid'. A law counts once. -/
mutual
def uptoBulk {H : Type} : DataW H → Nat
  | .lit (.string bytes) => bytes.length + 1
  | .lit _ => 1
  | .nil => 1
  | .ptr d => uptoBulk d + 1
  | .slice elems spare => uptoBulkAll elems + uptoBulkAll spare + 1
  | .agg parts => uptoBulkAll parts + 1
  | .iface _ d => uptoBulk d + 1
  | .map entries => uptoBulkEntries entries + 1
  | .held _ => 1
def uptoBulkAll {H : Type} : List (DataW H) → Nat
  | [] => 0
  | d :: r => uptoBulk d + uptoBulkAll r
def uptoBulkEntries {H : Type} : List (Lit × DataW H) → Nat
  | [] => 0
  | x :: r => uptoBulkEntry x + uptoBulkEntries r
def uptoBulkEntry {H : Type} : Lit × DataW H → Nat
  | (.string bytes, d) => bytes.length + uptoBulk d + 1
  | (_, d) => uptoBulk d + 1
 end
def uptoSmall : (H : Type) → List (DataW H) → Bool := fun _ ds => decide (uptoBulkAll ds ≤ 1048576)
def OpenSpec.upto (s : _root_.Go.ChangeSpec) : _root_.Go.OpenSpec := { _root_.Go.OpenSpec.ofChange s with cond := some uptoSmall }

/-- 'laws.FnOps', WHERE WHAT IT READS IS OF BULK AT MOST 1048576: true; the input reads as it did. -/
def fnOpsUptoRow : OpenClaim := { program := "ytnfeefcnblondaagreat", sum := "4ee9cb72f8ec6e256a82ffce190684e7b2cdeeece719a1f9a305a6c280cf41d0", func := "loop.example/g00285/laws.FnOps", spec := "fnOps", recurses := true, apart := false, narrowed := true }
def FnOpsUptoSaid : Prop := fnOpsUptoRow.holds Tryz.pinned (OpenSpec.upto fnOpsSpec)

/-- 'laws.FnLimits', WHERE WHAT IT READS IS OF BULK AT MOST 1048576: true; the input reads as it did. -/
def fnLimitsUptoRow : OpenClaim := { program := "ytnfeefcnblondaagreat", sum := "4ee9cb72f8ec6e256a82ffce190684e7b2cdeeece719a1f9a305a6c280cf41d0", func := "loop.example/g00285/laws.FnLimits", spec := "fnLimits", unfollowed := true, recurses := true, apart := false, narrowed := true }
def FnLimitsUptoSaid : Prop := fnLimitsUptoRow.holds Tryz.pinned (OpenSpec.upto fnLimitsSpec)

/-- 'laws.FnVols', WHERE WHAT IT READS IS OF BULK AT MOST 1048576: true; the input reads as it did. -/
def fnVolsUptoRow : OpenClaim := { program := "ytnfeefcnblondaagreat", sum := "4ee9cb72f8ec6e256a82ffce190684e7b2cdeeece719a1f9a305a6c280cf41d0", func := "loop.example/g00285/laws.FnVols", spec := "fnVols", unfollowed := true, recurses := true, apart := false, narrowed := true }
def FnVolsUptoSaid : Prop := fnVolsUptoRow.holds Tryz.pinned (OpenSpec.upto fnVolsSpec)

/-- 'laws.FnDropped', WHERE WHAT IT READS IS OF BULK AT MOST 1048576: true; the input reads as it did. -/
def fnDroppedUptoRow : OpenClaim := { program := "ytnfeefcnblondaagreat", sum := "4ee9cb72f8ec6e256a82ffce190684e7b2cdeeece719a1f9a305a6c280cf41d0", func := "loop.example/g00285/laws.FnDropped", spec := "fnDropped", unfollowed := true, recurses := true, apart := false, narrowed := true }
def FnDroppedUptoSaid : Prop := fnDroppedUptoRow.holds Tryz.pinned (OpenSpec.upto fnDroppedSpec)

/-- 'laws.FnTwins', WHERE WHAT IT READS IS OF BULK AT MOST 1048576: true; the input reads as it did. -/
def fnTwinsUptoRow : OpenClaim := { program := "ytnfeefcnblondaagreat", sum := "4ee9cb72f8ec6e256a82ffce190684e7b2cdeeece719a1f9a305a6c280cf41d0", func := "loop.example/g00285/laws.FnTwins", spec := "fnTwins", unfollowed := true, recurses := true, apart := false, narrowed := true }
def FnTwinsUptoSaid : Prop := fnTwinsUptoRow.holds Tryz.pinned (OpenSpec.upto fnTwinsSpec)

/-- 'laws.FnFss', WHERE WHAT IT READS IS OF BULK AT MOST 1048576: true; the input reads as it did. -/
def fnFssUptoRow : OpenClaim := { program := "ytnfeefcnblondaagreat", sum := "4ee9cb72f8ec6e256a82ffce190684e7b2cdeeece719a1f9a305a6c280cf41d0", func := "loop.example/g00285/laws.FnFss", spec := "fnFss", unfollowed := true, recurses := true, apart := false, narrowed := true }
def FnFssUptoSaid : Prop := fnFssUptoRow.holds Tryz.pinned (OpenSpec.upto fnFssSpec)

end Rows
end Go.Proofs.YtnfeefcnblondaaGreat
