/-
  No cell of these rows narrows 'for every input' (looked for: loops, veiled, ifaces, maps, wideKeys, modest, calm, conditions, laid).
  DERIVED. THE GIVEN ROWS OF THIS SEAT. 5 by the template 'for every input the law returns true; each argument reads behind the call as it read before'; 0 by the template 'total and deterministic' (their statements: YtjmnolhflcjpgaaGreatTotals.lean).
  GIVEN WITH THE SEED: the statements are not yours to turn. If you find one false, say at which input.
  Laid BY PROGRAM, IN A SANDBOX (cutbox-rows.mjs): the forced cells as the released guide's own fill.sh prints them over the translation 544353b1cabc23fa… (all of the seat's roots in one cut). By AI agents, Wed Nov 11 2026. No macro, syntax, notation, axiom, sorry.
-/
import Derived.Test.YtjmnolhflcjpgaaGreatChecked
import GoSem.Claim
import GoSem.ClaimJoined
import GoSem.ClaimMapViews
import Derived.JoinedTies
import Derived.KernelRfl
namespace Go.Proofs.YtjmnolhflcjpgaaGreat
/- THE CELL 'sum', in the pinned program and in every row, IS THE sha256 OF THE DUMP (.gsa) THAT YtjmnolhflcjpgaaGreatProg.lean LOADS. Nothing in Lean hashes anything: it is a label: what it is worth is what the hold of that sum in a sandbox is worth. -/
noncomputable def Tryz.pinned : Pinned := { name := "ytjmnolhflcjpgaagreat", sum := "544353b1cabc23fab4bf5094d9ce8c9fb768f50e5df9931c122b45df3dfc9c3d", checked := Tryz.checked }
namespace Rows
def none {H : Type} : Left H := { results := [], args := [] }

/-- 'laws.FnExactSetLimit': WHATEVER THE INPUT: true; the input reads as it did. -/
def fnExactSetLimitSpec : ChangeSpec := { name := "fnExactSetLimit", fn := fun _ => fun
  | [d1, d2, d3] => { results := [.lit (.bool true)], args := [d1, d2, d3] }
  | _ => none }
def fnExactSetLimitRow : OpenClaim := { program := "ytjmnolhflcjpgaagreat", sum := "544353b1cabc23fab4bf5094d9ce8c9fb768f50e5df9931c122b45df3dfc9c3d", func := "loop.example/g00285/laws.FnExactSetLimit", spec := "fnExactSetLimit", unfollowed := true, recurses := true, apart := false }
def FnExactSetLimitSaid : Prop := fnExactSetLimitRow.holds Tryz.pinned (OpenSpec.ofChange fnExactSetLimitSpec)

/-- ITS FALSE NEIGHBOUR: 'it returns false'. Refute it at one input. -/
def fnExactSetLimitWrong : ChangeSpec := { name := "fnExactSetLimit", fn := fun _ => fun
  | [d1, d2, d3] => { results := [.lit (.bool false)], args := [d1, d2, d3] }
  | _ => none }
def FnExactSetLimitWrongFalsely : Prop := fnExactSetLimitRow.holds Tryz.pinned (OpenSpec.ofChange fnExactSetLimitWrong)

/-- 'laws.FnExactNewVol': WHATEVER THE INPUT: true; the input reads as it did. -/
def fnExactNewVolSpec : ChangeSpec := { name := "fnExactNewVol", fn := fun _ => fun
  | [d1, d2, d3] => { results := [.lit (.bool true)], args := [d1, d2, d3] }
  | _ => none }
def fnExactNewVolRow : OpenClaim := { program := "ytjmnolhflcjpgaagreat", sum := "544353b1cabc23fab4bf5094d9ce8c9fb768f50e5df9931c122b45df3dfc9c3d", func := "loop.example/g00285/laws.FnExactNewVol", spec := "fnExactNewVol", unfollowed := true, recurses := true, apart := false }
def FnExactNewVolSaid : Prop := fnExactNewVolRow.holds Tryz.pinned (OpenSpec.ofChange fnExactNewVolSpec)

/-- ITS FALSE NEIGHBOUR: 'it returns false'. Refute it at one input. -/
def fnExactNewVolWrong : ChangeSpec := { name := "fnExactNewVol", fn := fun _ => fun
  | [d1, d2, d3] => { results := [.lit (.bool false)], args := [d1, d2, d3] }
  | _ => none }
def FnExactNewVolWrongFalsely : Prop := fnExactNewVolRow.holds Tryz.pinned (OpenSpec.ofChange fnExactNewVolWrong)

/-- 'laws.FnExactDropVol': WHATEVER THE INPUT: true; the input reads as it did. -/
def fnExactDropVolSpec : ChangeSpec := { name := "fnExactDropVol", fn := fun _ => fun
  | [d1, d2] => { results := [.lit (.bool true)], args := [d1, d2] }
  | _ => none }
def fnExactDropVolRow : OpenClaim := { program := "ytjmnolhflcjpgaagreat", sum := "544353b1cabc23fab4bf5094d9ce8c9fb768f50e5df9931c122b45df3dfc9c3d", func := "loop.example/g00285/laws.FnExactDropVol", spec := "fnExactDropVol", unfollowed := true, recurses := true, apart := false }
def FnExactDropVolSaid : Prop := fnExactDropVolRow.holds Tryz.pinned (OpenSpec.ofChange fnExactDropVolSpec)

/-- ITS FALSE NEIGHBOUR: 'it returns false'. Refute it at one input. -/
def fnExactDropVolWrong : ChangeSpec := { name := "fnExactDropVol", fn := fun _ => fun
  | [d1, d2] => { results := [.lit (.bool false)], args := [d1, d2] }
  | _ => none }
def FnExactDropVolWrongFalsely : Prop := fnExactDropVolRow.holds Tryz.pinned (OpenSpec.ofChange fnExactDropVolWrong)

/-- 'laws.FnExactCloneVol': WHATEVER THE INPUT: true; the input reads as it did. -/
def fnExactCloneVolSpec : ChangeSpec := { name := "fnExactCloneVol", fn := fun _ => fun
  | [d1, d2, d3] => { results := [.lit (.bool true)], args := [d1, d2, d3] }
  | _ => none }
def fnExactCloneVolRow : OpenClaim := { program := "ytjmnolhflcjpgaagreat", sum := "544353b1cabc23fab4bf5094d9ce8c9fb768f50e5df9931c122b45df3dfc9c3d", func := "loop.example/g00285/laws.FnExactCloneVol", spec := "fnExactCloneVol", unfollowed := true, recurses := true, apart := false }
def FnExactCloneVolSaid : Prop := fnExactCloneVolRow.holds Tryz.pinned (OpenSpec.ofChange fnExactCloneVolSpec)

/-- ITS FALSE NEIGHBOUR: 'it returns false'. Refute it at one input. -/
def fnExactCloneVolWrong : ChangeSpec := { name := "fnExactCloneVol", fn := fun _ => fun
  | [d1, d2, d3] => { results := [.lit (.bool false)], args := [d1, d2, d3] }
  | _ => none }
def FnExactCloneVolWrongFalsely : Prop := fnExactCloneVolRow.holds Tryz.pinned (OpenSpec.ofChange fnExactCloneVolWrong)

/-- 'laws.FnExactSnapVol': WHATEVER THE INPUT: true; the input reads as it did. -/
def fnExactSnapVolSpec : ChangeSpec := { name := "fnExactSnapVol", fn := fun _ => fun
  | [d1, d2, d3] => { results := [.lit (.bool true)], args := [d1, d2, d3] }
  | _ => none }
def fnExactSnapVolRow : OpenClaim := { program := "ytjmnolhflcjpgaagreat", sum := "544353b1cabc23fab4bf5094d9ce8c9fb768f50e5df9931c122b45df3dfc9c3d", func := "loop.example/g00285/laws.FnExactSnapVol", spec := "fnExactSnapVol", unfollowed := true, recurses := true, apart := false }
def FnExactSnapVolSaid : Prop := fnExactSnapVolRow.holds Tryz.pinned (OpenSpec.ofChange fnExactSnapVolSpec)

/-- ITS FALSE NEIGHBOUR: 'it returns false'. Refute it at one input. -/
def fnExactSnapVolWrong : ChangeSpec := { name := "fnExactSnapVol", fn := fun _ => fun
  | [d1, d2, d3] => { results := [.lit (.bool false)], args := [d1, d2, d3] }
  | _ => none }
def FnExactSnapVolWrongFalsely : Prop := fnExactSnapVolRow.holds Tryz.pinned (OpenSpec.ofChange fnExactSnapVolWrong)

/- THE SECOND FORM. 'bulk': how many values and letters a reading holds, each counted each time it is reached (what is shared counts as often as it is met; a slice's spare places count too). A statement '..UptoSaid' is the law's where the arguments, and the package variables that the reading takes, are together of bulk at most 1048576: NARROWER than '..Said'. Prove '..Said' where nothing that the law and all that it calls make is longer than what came in: it says more and counts as full. Else prove '..UptoSaid'. A law counts once. -/
mutual
def uptoBulk {H : Type} : DataW H → Nat
  | .lit (.string bytes) => bytes.length + 1
  | .lit _ => 1
  | .nil => 1
  | .ptr d => uptoBulk d + 1
  | .slice elems spare => uptoBulkAll elems + uptoBulkAll spare + 1
  | .agg parts => uptoBulkAll parts + 1
  | .iface _ d => uptoBulk d + 1
  | .map entries => uptoBulkEntries entries + 1
  | .held _ => 1
def uptoBulkAll {H : Type} : List (DataW H) → Nat
  | [] => 0
  | d :: r => uptoBulk d + uptoBulkAll r
def uptoBulkEntries {H : Type} : List (Lit × DataW H) → Nat
  | [] => 0
  | x :: r => uptoBulkEntry x + uptoBulkEntries r
def uptoBulkEntry {H : Type} : Lit × DataW H → Nat
  | (.string bytes, d) => bytes.length + uptoBulk d + 1
  | (_, d) => uptoBulk d + 1
 end
def uptoSmall : (H : Type) → List (DataW H) → Bool := fun _ ds => decide (uptoBulkAll ds ≤ 1048576)
def OpenSpec.upto (s : _root_.Go.ChangeSpec) : _root_.Go.OpenSpec := { _root_.Go.OpenSpec.ofChange s with cond := some uptoSmall }

/-- 'laws.FnExactSetLimit', WHERE WHAT IT READS IS OF BULK AT MOST 1048576: true; the input reads as it did. -/
def fnExactSetLimitUptoRow : OpenClaim := { program := "ytjmnolhflcjpgaagreat", sum := "544353b1cabc23fab4bf5094d9ce8c9fb768f50e5df9931c122b45df3dfc9c3d", func := "loop.example/g00285/laws.FnExactSetLimit", spec := "fnExactSetLimit", unfollowed := true, recurses := true, apart := false, narrowed := true }
def FnExactSetLimitUptoSaid : Prop := fnExactSetLimitUptoRow.holds Tryz.pinned (OpenSpec.upto fnExactSetLimitSpec)

/-- 'laws.FnExactNewVol', WHERE WHAT IT READS IS OF BULK AT MOST 1048576: true; the input reads as it did. -/
def fnExactNewVolUptoRow : OpenClaim := { program := "ytjmnolhflcjpgaagreat", sum := "544353b1cabc23fab4bf5094d9ce8c9fb768f50e5df9931c122b45df3dfc9c3d", func := "loop.example/g00285/laws.FnExactNewVol", spec := "fnExactNewVol", unfollowed := true, recurses := true, apart := false, narrowed := true }
def FnExactNewVolUptoSaid : Prop := fnExactNewVolUptoRow.holds Tryz.pinned (OpenSpec.upto fnExactNewVolSpec)

/-- 'laws.FnExactDropVol', WHERE WHAT IT READS IS OF BULK AT MOST 1048576: true; the input reads as it did. -/
def fnExactDropVolUptoRow : OpenClaim := { program := "ytjmnolhflcjpgaagreat", sum := "544353b1cabc23fab4bf5094d9ce8c9fb768f50e5df9931c122b45df3dfc9c3d", func := "loop.example/g00285/laws.FnExactDropVol", spec := "fnExactDropVol", unfollowed := true, recurses := true, apart := false, narrowed := true }
def FnExactDropVolUptoSaid : Prop := fnExactDropVolUptoRow.holds Tryz.pinned (OpenSpec.upto fnExactDropVolSpec)

/-- 'laws.FnExactCloneVol', WHERE WHAT IT READS IS OF BULK AT MOST 1048576: true; the input reads as it did. -/
def fnExactCloneVolUptoRow : OpenClaim := { program := "ytjmnolhflcjpgaagreat", sum := "544353b1cabc23fab4bf5094d9ce8c9fb768f50e5df9931c122b45df3dfc9c3d", func := "loop.example/g00285/laws.FnExactCloneVol", spec := "fnExactCloneVol", unfollowed := true, recurses := true, apart := false, narrowed := true }
def FnExactCloneVolUptoSaid : Prop := fnExactCloneVolUptoRow.holds Tryz.pinned (OpenSpec.upto fnExactCloneVolSpec)

/-- 'laws.FnExactSnapVol', WHERE WHAT IT READS IS OF BULK AT MOST 1048576: true; the input reads as it did. -/
def fnExactSnapVolUptoRow : OpenClaim := { program := "ytjmnolhflcjpgaagreat", sum := "544353b1cabc23fab4bf5094d9ce8c9fb768f50e5df9931c122b45df3dfc9c3d", func := "loop.example/g00285/laws.FnExactSnapVol", spec := "fnExactSnapVol", unfollowed := true, recurses := true, apart := false, narrowed := true }
def FnExactSnapVolUptoSaid : Prop := fnExactSnapVolUptoRow.holds Tryz.pinned (OpenSpec.upto fnExactSnapVolSpec)

end Rows
end Go.Proofs.YtjmnolhflcjpgaaGreat
