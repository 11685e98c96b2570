/-
  No cell of these rows narrows 'for every input' (looked for: loops, veiled, ifaces, maps, wideKeys, modest, calm, conditions, laid).
  DERIVED. THE GIVEN ROWS OF THIS SEAT. 5 by the template 'for every input the law returns true; each argument reads behind the call as it read before'; 0 by the template 'total and deterministic' (their statements: YtjmnolhflcjpgaaTotals.lean).
  GIVEN WITH THE SEED: the statements are not yours to turn. If you find one false, say at which input.
  Laid BY PROGRAM, IN A SANDBOX (cutbox-rows.mjs): the forced cells as the released guide's own fill.sh prints them over the translation 1ebd3c368f5fd76b… (all of the seat's roots in one cut). By AI agents, Wed Nov 11 2026. No macro, syntax, notation, axiom, sorry.
-/
import Derived.Test.YtjmnolhflcjpgaaChecked
import GoSem.Claim
import GoSem.ClaimJoined
import GoSem.ClaimMapViews
import Derived.JoinedTies
import Derived.KernelRfl
namespace Go.Proofs.Ytjmnolhflcjpgaa
/- THE CELL 'sum', in the pinned program and in every row, IS THE sha256 OF THE DUMP (.gsa) THAT YtjmnolhflcjpgaaProg.lean LOADS. Nothing in Lean hashes anything: it is a label: what it is worth is what the hold of that sum in a sandbox is worth. -/
noncomputable def Try.pinned : Pinned := { name := "ytjmnolhflcjpgaa", sum := "1ebd3c368f5fd76b36d654bf9db71bc1631e42e58d2cdf9c276adf5acbf9f065", checked := Try.checked }
namespace Rows
def none {H : Type} : Left H := { results := [], args := [] }

/-- 'laws.FnExactFsNew': WHATEVER THE INPUT: true; the input reads as it did. -/
def fnExactFsNewSpec : ChangeSpec := { name := "fnExactFsNew", fn := fun _ => fun
  | [] => { results := [.lit (.bool true)], args := [] }
  | _ => none }
def fnExactFsNewRow : OpenClaim := { program := "ytjmnolhflcjpgaa", sum := "1ebd3c368f5fd76b36d654bf9db71bc1631e42e58d2cdf9c276adf5acbf9f065", func := "loop.example/g00285/laws.FnExactFsNew", spec := "fnExactFsNew", apart := false }
def FnExactFsNewSaid : Prop := fnExactFsNewRow.holds Try.pinned (OpenSpec.ofChange fnExactFsNewSpec)

/-- ITS FALSE NEIGHBOUR: 'it returns false'. Refute it at one input. -/
def fnExactFsNewWrong : ChangeSpec := { name := "fnExactFsNew", fn := fun _ => fun
  | [] => { results := [.lit (.bool false)], args := [] }
  | _ => none }
def FnExactFsNewWrongFalsely : Prop := fnExactFsNewRow.holds Try.pinned (OpenSpec.ofChange fnExactFsNewWrong)

/-- 'laws.FnExactVolAt': WHATEVER THE INPUT: true; the input reads as it did. -/
def fnExactVolAtSpec : ChangeSpec := { name := "fnExactVolAt", fn := fun _ => fun
  | [d1, d2] => { results := [.lit (.bool true)], args := [d1, d2] }
  | _ => none }
def fnExactVolAtRow : OpenClaim := { program := "ytjmnolhflcjpgaa", sum := "1ebd3c368f5fd76b36d654bf9db71bc1631e42e58d2cdf9c276adf5acbf9f065", func := "loop.example/g00285/laws.FnExactVolAt", spec := "fnExactVolAt", unfollowed := true, recurses := true, apart := false }
def FnExactVolAtSaid : Prop := fnExactVolAtRow.holds Try.pinned (OpenSpec.ofChange fnExactVolAtSpec)

/-- ITS FALSE NEIGHBOUR: 'it returns false'. Refute it at one input. -/
def fnExactVolAtWrong : ChangeSpec := { name := "fnExactVolAt", fn := fun _ => fun
  | [d1, d2] => { results := [.lit (.bool false)], args := [d1, d2] }
  | _ => none }
def FnExactVolAtWrongFalsely : Prop := fnExactVolAtRow.holds Try.pinned (OpenSpec.ofChange fnExactVolAtWrong)

/-- 'laws.FnExactVolNamed': WHATEVER THE INPUT: true; the input reads as it did. -/
def fnExactVolNamedSpec : ChangeSpec := { name := "fnExactVolNamed", fn := fun _ => fun
  | [d1, d2] => { results := [.lit (.bool true)], args := [d1, d2] }
  | _ => none }
def fnExactVolNamedRow : OpenClaim := { program := "ytjmnolhflcjpgaa", sum := "1ebd3c368f5fd76b36d654bf9db71bc1631e42e58d2cdf9c276adf5acbf9f065", func := "loop.example/g00285/laws.FnExactVolNamed", spec := "fnExactVolNamed", unfollowed := true, recurses := true, apart := false }
def FnExactVolNamedSaid : Prop := fnExactVolNamedRow.holds Try.pinned (OpenSpec.ofChange fnExactVolNamedSpec)

/-- ITS FALSE NEIGHBOUR: 'it returns false'. Refute it at one input. -/
def fnExactVolNamedWrong : ChangeSpec := { name := "fnExactVolNamed", fn := fun _ => fun
  | [d1, d2] => { results := [.lit (.bool false)], args := [d1, d2] }
  | _ => none }
def FnExactVolNamedWrongFalsely : Prop := fnExactVolNamedRow.holds Try.pinned (OpenSpec.ofChange fnExactVolNamedWrong)

/-- 'laws.FnExactSameFs': WHATEVER THE INPUT: true; the input reads as it did. -/
def fnExactSameFsSpec : ChangeSpec := { name := "fnExactSameFs", fn := fun _ => fun
  | [d1, d2] => { results := [.lit (.bool true)], args := [d1, d2] }
  | _ => none }
def fnExactSameFsRow : OpenClaim := { program := "ytjmnolhflcjpgaa", sum := "1ebd3c368f5fd76b36d654bf9db71bc1631e42e58d2cdf9c276adf5acbf9f065", func := "loop.example/g00285/laws.FnExactSameFs", spec := "fnExactSameFs", unfollowed := true, recurses := true, apart := false }
def FnExactSameFsSaid : Prop := fnExactSameFsRow.holds Try.pinned (OpenSpec.ofChange fnExactSameFsSpec)

/-- ITS FALSE NEIGHBOUR: 'it returns false'. Refute it at one input. -/
def fnExactSameFsWrong : ChangeSpec := { name := "fnExactSameFs", fn := fun _ => fun
  | [d1, d2] => { results := [.lit (.bool false)], args := [d1, d2] }
  | _ => none }
def FnExactSameFsWrongFalsely : Prop := fnExactSameFsRow.holds Try.pinned (OpenSpec.ofChange fnExactSameFsWrong)

/-- 'laws.FnExactFsOk': WHATEVER THE INPUT: true; the input reads as it did. -/
def fnExactFsOkSpec : ChangeSpec := { name := "fnExactFsOk", fn := fun _ => fun
  | [d] => { results := [.lit (.bool true)], args := [d] }
  | _ => none }
def fnExactFsOkRow : OpenClaim := { program := "ytjmnolhflcjpgaa", sum := "1ebd3c368f5fd76b36d654bf9db71bc1631e42e58d2cdf9c276adf5acbf9f065", func := "loop.example/g00285/laws.FnExactFsOk", spec := "fnExactFsOk", unfollowed := true, recurses := true, apart := false }
def FnExactFsOkSaid : Prop := fnExactFsOkRow.holds Try.pinned (OpenSpec.ofChange fnExactFsOkSpec)

/-- ITS FALSE NEIGHBOUR: 'it returns false'. Refute it at one input. -/
def fnExactFsOkWrong : ChangeSpec := { name := "fnExactFsOk", fn := fun _ => fun
  | [d] => { results := [.lit (.bool false)], args := [d] }
  | _ => none }
def FnExactFsOkWrongFalsely : Prop := fnExactFsOkRow.holds Try.pinned (OpenSpec.ofChange fnExactFsOkWrong)

/- THE SECOND FORM. 'bulk': how many values and letters a reading holds, each counted each time it is reached (what is shared counts as often as it is met; a slice's spare places count too). A statement '..UptoSaid' is the law's where the arguments, and the package variables that the reading takes, are together of bulk at most 1048576: NARROWER than '..Said'. Prove '..Said' where nothing that the law and all that it calls make is longer than what came in: it says more and counts as full. Else prove '..UptoSaid'. A law counts once. -/
mutual
def uptoBulk {H : Type} : DataW H → Nat
  | .lit (.string bytes) => bytes.length + 1
  | .lit _ => 1
  | .nil => 1
  | .ptr d => uptoBulk d + 1
  | .slice elems spare => uptoBulkAll elems + uptoBulkAll spare + 1
  | .agg parts => uptoBulkAll parts + 1
  | .iface _ d => uptoBulk d + 1
  | .map entries => uptoBulkEntries entries + 1
  | .held _ => 1
def uptoBulkAll {H : Type} : List (DataW H) → Nat
  | [] => 0
  | d :: r => uptoBulk d + uptoBulkAll r
def uptoBulkEntries {H : Type} : List (Lit × DataW H) → Nat
  | [] => 0
  | x :: r => uptoBulkEntry x + uptoBulkEntries r
def uptoBulkEntry {H : Type} : Lit × DataW H → Nat
  | (.string bytes, d) => bytes.length + uptoBulk d + 1
  | (_, d) => uptoBulk d + 1
 end
def uptoSmall : (H : Type) → List (DataW H) → Bool := fun _ ds => decide (uptoBulkAll ds ≤ 1048576)
def OpenSpec.upto (s : _root_.Go.ChangeSpec) : _root_.Go.OpenSpec := { _root_.Go.OpenSpec.ofChange s with cond := some uptoSmall }

/-- 'laws.FnExactFsNew', WHERE WHAT IT READS IS OF BULK AT MOST 1048576: true; the input reads as it did. -/
def fnExactFsNewUptoRow : OpenClaim := { program := "ytjmnolhflcjpgaa", sum := "1ebd3c368f5fd76b36d654bf9db71bc1631e42e58d2cdf9c276adf5acbf9f065", func := "loop.example/g00285/laws.FnExactFsNew", spec := "fnExactFsNew", apart := false, narrowed := true }
def FnExactFsNewUptoSaid : Prop := fnExactFsNewUptoRow.holds Try.pinned (OpenSpec.upto fnExactFsNewSpec)

/-- 'laws.FnExactVolAt', WHERE WHAT IT READS IS OF BULK AT MOST 1048576: true; the input reads as it did. -/
def fnExactVolAtUptoRow : OpenClaim := { program := "ytjmnolhflcjpgaa", sum := "1ebd3c368f5fd76b36d654bf9db71bc1631e42e58d2cdf9c276adf5acbf9f065", func := "loop.example/g00285/laws.FnExactVolAt", spec := "fnExactVolAt", unfollowed := true, recurses := true, apart := false, narrowed := true }
def FnExactVolAtUptoSaid : Prop := fnExactVolAtUptoRow.holds Try.pinned (OpenSpec.upto fnExactVolAtSpec)

/-- 'laws.FnExactVolNamed', WHERE WHAT IT READS IS OF BULK AT MOST 1048576: true; the input reads as it did. -/
def fnExactVolNamedUptoRow : OpenClaim := { program := "ytjmnolhflcjpgaa", sum := "1ebd3c368f5fd76b36d654bf9db71bc1631e42e58d2cdf9c276adf5acbf9f065", func := "loop.example/g00285/laws.FnExactVolNamed", spec := "fnExactVolNamed", unfollowed := true, recurses := true, apart := false, narrowed := true }
def FnExactVolNamedUptoSaid : Prop := fnExactVolNamedUptoRow.holds Try.pinned (OpenSpec.upto fnExactVolNamedSpec)

/-- 'laws.FnExactSameFs', WHERE WHAT IT READS IS OF BULK AT MOST 1048576: true; the input reads as it did. -/
def fnExactSameFsUptoRow : OpenClaim := { program := "ytjmnolhflcjpgaa", sum := "1ebd3c368f5fd76b36d654bf9db71bc1631e42e58d2cdf9c276adf5acbf9f065", func := "loop.example/g00285/laws.FnExactSameFs", spec := "fnExactSameFs", unfollowed := true, recurses := true, apart := false, narrowed := true }
def FnExactSameFsUptoSaid : Prop := fnExactSameFsUptoRow.holds Try.pinned (OpenSpec.upto fnExactSameFsSpec)

/-- 'laws.FnExactFsOk', WHERE WHAT IT READS IS OF BULK AT MOST 1048576: true; the input reads as it did. -/
def fnExactFsOkUptoRow : OpenClaim := { program := "ytjmnolhflcjpgaa", sum := "1ebd3c368f5fd76b36d654bf9db71bc1631e42e58d2cdf9c276adf5acbf9f065", func := "loop.example/g00285/laws.FnExactFsOk", spec := "fnExactFsOk", unfollowed := true, recurses := true, apart := false, narrowed := true }
def FnExactFsOkUptoSaid : Prop := fnExactFsOkUptoRow.holds Try.pinned (OpenSpec.upto fnExactFsOkSpec)

end Rows
end Go.Proofs.Ytjmnolhflcjpgaa
