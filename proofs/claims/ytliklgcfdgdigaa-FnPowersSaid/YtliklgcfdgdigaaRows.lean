/-
  No cell of these rows narrows 'for every input' (looked for: loops, veiled, ifaces, maps, wideKeys, modest, calm, conditions, laid).
  DERIVED. THE GIVEN ROWS OF THIS SEAT. 29 by the template 'for every input the law returns true; each argument reads behind the call as it read before'; 0 by the template 'total and deterministic' (their statements: YtliklgcfdgdigaaTotals.lean).
  GIVEN WITH THE SEED: the statements are not yours to turn. If you find one false, say at which input.
  Laid BY PROGRAM, IN A SANDBOX (cutbox-rows.mjs): the forced cells as the released guide's own fill.sh prints them over the translation 123c21230cbd694a… (all of the seat's roots in one cut). By AI agents, Wed Nov 11 2026. No macro, syntax, notation, axiom, sorry.
-/
import Derived.Test.YtliklgcfdgdigaaChecked
import GoSem.Claim
import GoSem.ClaimJoined
import GoSem.ClaimMapViews
import Derived.JoinedTies
import Derived.KernelRfl
namespace Go.Proofs.Ytliklgcfdgdigaa
/- THE CELL 'sum', in the pinned program and in every row, IS THE sha256 OF THE DUMP (.gsa) THAT YtliklgcfdgdigaaProg.lean LOADS. Nothing in Lean hashes anything: it is a label: what it is worth is what the hold of that sum in a sandbox is worth. -/
noncomputable def Try.pinned : Pinned := { name := "ytliklgcfdgdigaa", sum := "123c21230cbd694ac42bbeea776d2d14f12dd2771675a79e933ae94d80caeb79", checked := Try.checked }
namespace Rows
def none {H : Type} : Left H := { results := [], args := [] }

/-- 'laws.FnExactRecOk': WHATEVER THE INPUT: true; the input reads as it did. -/
def fnExactRecOkSpec : ChangeSpec := { name := "fnExactRecOk", fn := fun _ => fun
  | [d] => { results := [.lit (.bool true)], args := [d] }
  | _ => none }
def fnExactRecOkRow : OpenClaim := { program := "ytliklgcfdgdigaa", sum := "123c21230cbd694ac42bbeea776d2d14f12dd2771675a79e933ae94d80caeb79", func := "loop.example/g00285/laws.FnExactRecOk", spec := "fnExactRecOk", apart := false }
def FnExactRecOkSaid : Prop := fnExactRecOkRow.holds Try.pinned (OpenSpec.ofChange fnExactRecOkSpec)

/-- ITS FALSE NEIGHBOUR: 'it returns false'. Refute it at one input. -/
def fnExactRecOkWrong : ChangeSpec := { name := "fnExactRecOk", fn := fun _ => fun
  | [d] => { results := [.lit (.bool false)], args := [d] }
  | _ => none }
def FnExactRecOkWrongFalsely : Prop := fnExactRecOkRow.holds Try.pinned (OpenSpec.ofChange fnExactRecOkWrong)

/-- 'laws.FnExactChanges': WHATEVER THE INPUT: true; the input reads as it did. -/
def fnExactChangesSpec : ChangeSpec := { name := "fnExactChanges", fn := fun _ => fun
  | [d] => { results := [.lit (.bool true)], args := [d] }
  | _ => none }
def fnExactChangesRow : OpenClaim := { program := "ytliklgcfdgdigaa", sum := "123c21230cbd694ac42bbeea776d2d14f12dd2771675a79e933ae94d80caeb79", func := "loop.example/g00285/laws.FnExactChanges", spec := "fnExactChanges", apart := false }
def FnExactChangesSaid : Prop := fnExactChangesRow.holds Try.pinned (OpenSpec.ofChange fnExactChangesSpec)

/-- ITS FALSE NEIGHBOUR: 'it returns false'. Refute it at one input. -/
def fnExactChangesWrong : ChangeSpec := { name := "fnExactChanges", fn := fun _ => fun
  | [d] => { results := [.lit (.bool false)], args := [d] }
  | _ => none }
def FnExactChangesWrongFalsely : Prop := fnExactChangesRow.holds Try.pinned (OpenSpec.ofChange fnExactChangesWrong)

/-- 'laws.FnExactPutOp': WHATEVER THE INPUT: true; the input reads as it did. -/
def fnExactPutOpSpec : ChangeSpec := { name := "fnExactPutOp", fn := fun _ => fun
  | [d] => { results := [.lit (.bool true)], args := [d] }
  | _ => none }
def fnExactPutOpRow : OpenClaim := { program := "ytliklgcfdgdigaa", sum := "123c21230cbd694ac42bbeea776d2d14f12dd2771675a79e933ae94d80caeb79", func := "loop.example/g00285/laws.FnExactPutOp", spec := "fnExactPutOp", apart := false }
def FnExactPutOpSaid : Prop := fnExactPutOpRow.holds Try.pinned (OpenSpec.ofChange fnExactPutOpSpec)

/-- ITS FALSE NEIGHBOUR: 'it returns false'. Refute it at one input. -/
def fnExactPutOpWrong : ChangeSpec := { name := "fnExactPutOp", fn := fun _ => fun
  | [d] => { results := [.lit (.bool false)], args := [d] }
  | _ => none }
def FnExactPutOpWrongFalsely : Prop := fnExactPutOpRow.holds Try.pinned (OpenSpec.ofChange fnExactPutOpWrong)

/-- 'laws.FnExactChipNew': WHATEVER THE INPUT: true; the input reads as it did. -/
def fnExactChipNewSpec : ChangeSpec := { name := "fnExactChipNew", fn := fun _ => fun
  | [d] => { results := [.lit (.bool true)], args := [d] }
  | _ => none }
def fnExactChipNewRow : OpenClaim := { program := "ytliklgcfdgdigaa", sum := "123c21230cbd694ac42bbeea776d2d14f12dd2771675a79e933ae94d80caeb79", func := "loop.example/g00285/laws.FnExactChipNew", spec := "fnExactChipNew", apart := false }
def FnExactChipNewSaid : Prop := fnExactChipNewRow.holds Try.pinned (OpenSpec.ofChange fnExactChipNewSpec)

/-- ITS FALSE NEIGHBOUR: 'it returns false'. Refute it at one input. -/
def fnExactChipNewWrong : ChangeSpec := { name := "fnExactChipNew", fn := fun _ => fun
  | [d] => { results := [.lit (.bool false)], args := [d] }
  | _ => none }
def FnExactChipNewWrongFalsely : Prop := fnExactChipNewRow.holds Try.pinned (OpenSpec.ofChange fnExactChipNewWrong)

/-- 'laws.FnExactPutRec': WHATEVER THE INPUT: true; the input reads as it did. -/
def fnExactPutRecSpec : ChangeSpec := { name := "fnExactPutRec", fn := fun _ => fun
  | [d] => { results := [.lit (.bool true)], args := [d] }
  | _ => none }
def fnExactPutRecRow : OpenClaim := { program := "ytliklgcfdgdigaa", sum := "123c21230cbd694ac42bbeea776d2d14f12dd2771675a79e933ae94d80caeb79", func := "loop.example/g00285/laws.FnExactPutRec", spec := "fnExactPutRec", apart := false }
def FnExactPutRecSaid : Prop := fnExactPutRecRow.holds Try.pinned (OpenSpec.ofChange fnExactPutRecSpec)

/-- ITS FALSE NEIGHBOUR: 'it returns false'. Refute it at one input. -/
def fnExactPutRecWrong : ChangeSpec := { name := "fnExactPutRec", fn := fun _ => fun
  | [d] => { results := [.lit (.bool false)], args := [d] }
  | _ => none }
def FnExactPutRecWrongFalsely : Prop := fnExactPutRecRow.holds Try.pinned (OpenSpec.ofChange fnExactPutRecWrong)

/-- 'laws.FnExactWornOf': WHATEVER THE INPUT: true; the input reads as it did. -/
def fnExactWornOfSpec : ChangeSpec := { name := "fnExactWornOf", fn := fun _ => fun
  | [d] => { results := [.lit (.bool true)], args := [d] }
  | _ => none }
def fnExactWornOfRow : OpenClaim := { program := "ytliklgcfdgdigaa", sum := "123c21230cbd694ac42bbeea776d2d14f12dd2771675a79e933ae94d80caeb79", func := "loop.example/g00285/laws.FnExactWornOf", spec := "fnExactWornOf", apart := false }
def FnExactWornOfSaid : Prop := fnExactWornOfRow.holds Try.pinned (OpenSpec.ofChange fnExactWornOfSpec)

/-- ITS FALSE NEIGHBOUR: 'it returns false'. Refute it at one input. -/
def fnExactWornOfWrong : ChangeSpec := { name := "fnExactWornOf", fn := fun _ => fun
  | [d] => { results := [.lit (.bool false)], args := [d] }
  | _ => none }
def FnExactWornOfWrongFalsely : Prop := fnExactWornOfRow.holds Try.pinned (OpenSpec.ofChange fnExactWornOfWrong)

/-- 'laws.FnExactGetOp': WHATEVER THE INPUT: true; the input reads as it did. -/
def fnExactGetOpSpec : ChangeSpec := { name := "fnExactGetOp", fn := fun _ => fun
  | [d] => { results := [.lit (.bool true)], args := [d] }
  | _ => none }
def fnExactGetOpRow : OpenClaim := { program := "ytliklgcfdgdigaa", sum := "123c21230cbd694ac42bbeea776d2d14f12dd2771675a79e933ae94d80caeb79", func := "loop.example/g00285/laws.FnExactGetOp", spec := "fnExactGetOp", apart := false }
def FnExactGetOpSaid : Prop := fnExactGetOpRow.holds Try.pinned (OpenSpec.ofChange fnExactGetOpSpec)

/-- ITS FALSE NEIGHBOUR: 'it returns false'. Refute it at one input. -/
def fnExactGetOpWrong : ChangeSpec := { name := "fnExactGetOp", fn := fun _ => fun
  | [d] => { results := [.lit (.bool false)], args := [d] }
  | _ => none }
def FnExactGetOpWrongFalsely : Prop := fnExactGetOpRow.holds Try.pinned (OpenSpec.ofChange fnExactGetOpWrong)

/-- 'laws.FnExactNextPage': WHATEVER THE INPUT: true; the input reads as it did. -/
def fnExactNextPageSpec : ChangeSpec := { name := "fnExactNextPage", fn := fun _ => fun
  | [d1, d2] => { results := [.lit (.bool true)], args := [d1, d2] }
  | _ => none }
def fnExactNextPageRow : OpenClaim := { program := "ytliklgcfdgdigaa", sum := "123c21230cbd694ac42bbeea776d2d14f12dd2771675a79e933ae94d80caeb79", func := "loop.example/g00285/laws.FnExactNextPage", spec := "fnExactNextPage", apart := false }
def FnExactNextPageSaid : Prop := fnExactNextPageRow.holds Try.pinned (OpenSpec.ofChange fnExactNextPageSpec)

/-- ITS FALSE NEIGHBOUR: 'it returns false'. Refute it at one input. -/
def fnExactNextPageWrong : ChangeSpec := { name := "fnExactNextPage", fn := fun _ => fun
  | [d1, d2] => { results := [.lit (.bool false)], args := [d1, d2] }
  | _ => none }
def FnExactNextPageWrongFalsely : Prop := fnExactNextPageRow.holds Try.pinned (OpenSpec.ofChange fnExactNextPageWrong)

/-- 'laws.FnExactChipOk': WHATEVER THE INPUT: true; the input reads as it did. -/
def fnExactChipOkSpec : ChangeSpec := { name := "fnExactChipOk", fn := fun _ => fun
  | [d] => { results := [.lit (.bool true)], args := [d] }
  | _ => none }
def fnExactChipOkRow : OpenClaim := { program := "ytliklgcfdgdigaa", sum := "123c21230cbd694ac42bbeea776d2d14f12dd2771675a79e933ae94d80caeb79", func := "loop.example/g00285/laws.FnExactChipOk", spec := "fnExactChipOk", apart := false }
def FnExactChipOkSaid : Prop := fnExactChipOkRow.holds Try.pinned (OpenSpec.ofChange fnExactChipOkSpec)

/-- ITS FALSE NEIGHBOUR: 'it returns false'. Refute it at one input. -/
def fnExactChipOkWrong : ChangeSpec := { name := "fnExactChipOk", fn := fun _ => fun
  | [d] => { results := [.lit (.bool false)], args := [d] }
  | _ => none }
def FnExactChipOkWrongFalsely : Prop := fnExactChipOkRow.holds Try.pinned (OpenSpec.ofChange fnExactChipOkWrong)

/-- 'laws.FnRecs': WHATEVER THE INPUT: true; the input reads as it did. -/
def fnRecsSpec : ChangeSpec := { name := "fnRecs", fn := fun _ => fun
  | [d] => { results := [.lit (.bool true)], args := [d] }
  | _ => none }
def fnRecsRow : OpenClaim := { program := "ytliklgcfdgdigaa", sum := "123c21230cbd694ac42bbeea776d2d14f12dd2771675a79e933ae94d80caeb79", func := "loop.example/g00285/laws.FnRecs", spec := "fnRecs", apart := false }
def FnRecsSaid : Prop := fnRecsRow.holds Try.pinned (OpenSpec.ofChange fnRecsSpec)

/-- ITS FALSE NEIGHBOUR: 'it returns false'. Refute it at one input. -/
def fnRecsWrong : ChangeSpec := { name := "fnRecs", fn := fun _ => fun
  | [d] => { results := [.lit (.bool false)], args := [d] }
  | _ => none }
def FnRecsWrongFalsely : Prop := fnRecsRow.holds Try.pinned (OpenSpec.ofChange fnRecsWrong)

/-- 'laws.FnExactReadPage': WHATEVER THE INPUT: true; the input reads as it did. -/
def fnExactReadPageSpec : ChangeSpec := { name := "fnExactReadPage", fn := fun _ => fun
  | [d1, d2, d3] => { results := [.lit (.bool true)], args := [d1, d2, d3] }
  | _ => none }
def fnExactReadPageRow : OpenClaim := { program := "ytliklgcfdgdigaa", sum := "123c21230cbd694ac42bbeea776d2d14f12dd2771675a79e933ae94d80caeb79", func := "loop.example/g00285/laws.FnExactReadPage", spec := "fnExactReadPage", apart := false }
def FnExactReadPageSaid : Prop := fnExactReadPageRow.holds Try.pinned (OpenSpec.ofChange fnExactReadPageSpec)

/-- ITS FALSE NEIGHBOUR: 'it returns false'. Refute it at one input. -/
def fnExactReadPageWrong : ChangeSpec := { name := "fnExactReadPage", fn := fun _ => fun
  | [d1, d2, d3] => { results := [.lit (.bool false)], args := [d1, d2, d3] }
  | _ => none }
def FnExactReadPageWrongFalsely : Prop := fnExactReadPageRow.holds Try.pinned (OpenSpec.ofChange fnExactReadPageWrong)

/-- 'laws.FnNewChips': WHATEVER THE INPUT: true; the input reads as it did. -/
def fnNewChipsSpec : ChangeSpec := { name := "fnNewChips", fn := fun _ => fun
  | [d] => { results := [.lit (.bool true)], args := [d] }
  | _ => none }
def fnNewChipsRow : OpenClaim := { program := "ytliklgcfdgdigaa", sum := "123c21230cbd694ac42bbeea776d2d14f12dd2771675a79e933ae94d80caeb79", func := "loop.example/g00285/laws.FnNewChips", spec := "fnNewChips", apart := false }
def FnNewChipsSaid : Prop := fnNewChipsRow.holds Try.pinned (OpenSpec.ofChange fnNewChipsSpec)

/-- ITS FALSE NEIGHBOUR: 'it returns false'. Refute it at one input. -/
def fnNewChipsWrong : ChangeSpec := { name := "fnNewChips", fn := fun _ => fun
  | [d] => { results := [.lit (.bool false)], args := [d] }
  | _ => none }
def FnNewChipsWrongFalsely : Prop := fnNewChipsRow.holds Try.pinned (OpenSpec.ofChange fnNewChipsWrong)

/-- 'laws.FnInTurn': WHATEVER THE INPUT: true; the input reads as it did. -/
def fnInTurnSpec : ChangeSpec := { name := "fnInTurn", fn := fun _ => fun
  | [d] => { results := [.lit (.bool true)], args := [d] }
  | _ => none }
def fnInTurnRow : OpenClaim := { program := "ytliklgcfdgdigaa", sum := "123c21230cbd694ac42bbeea776d2d14f12dd2771675a79e933ae94d80caeb79", func := "loop.example/g00285/laws.FnInTurn", spec := "fnInTurn", apart := false }
def FnInTurnSaid : Prop := fnInTurnRow.holds Try.pinned (OpenSpec.ofChange fnInTurnSpec)

/-- ITS FALSE NEIGHBOUR: 'it returns false'. Refute it at one input. -/
def fnInTurnWrong : ChangeSpec := { name := "fnInTurn", fn := fun _ => fun
  | [d] => { results := [.lit (.bool false)], args := [d] }
  | _ => none }
def FnInTurnWrongFalsely : Prop := fnInTurnRow.holds Try.pinned (OpenSpec.ofChange fnInTurnWrong)

/-- 'laws.FnExactGetRec': WHATEVER THE INPUT: true; the input reads as it did. -/
def fnExactGetRecSpec : ChangeSpec := { name := "fnExactGetRec", fn := fun _ => fun
  | [d] => { results := [.lit (.bool true)], args := [d] }
  | _ => none }
def fnExactGetRecRow : OpenClaim := { program := "ytliklgcfdgdigaa", sum := "123c21230cbd694ac42bbeea776d2d14f12dd2771675a79e933ae94d80caeb79", func := "loop.example/g00285/laws.FnExactGetRec", spec := "fnExactGetRec", apart := false }
def FnExactGetRecSaid : Prop := fnExactGetRecRow.holds Try.pinned (OpenSpec.ofChange fnExactGetRecSpec)

/-- ITS FALSE NEIGHBOUR: 'it returns false'. Refute it at one input. -/
def fnExactGetRecWrong : ChangeSpec := { name := "fnExactGetRec", fn := fun _ => fun
  | [d] => { results := [.lit (.bool false)], args := [d] }
  | _ => none }
def FnExactGetRecWrongFalsely : Prop := fnExactGetRecRow.holds Try.pinned (OpenSpec.ofChange fnExactGetRecWrong)

/-- 'laws.FnExactFaultAt': WHATEVER THE INPUT: true; the input reads as it did. -/
def fnExactFaultAtSpec : ChangeSpec := { name := "fnExactFaultAt", fn := fun _ => fun
  | [d] => { results := [.lit (.bool true)], args := [d] }
  | _ => none }
def fnExactFaultAtRow : OpenClaim := { program := "ytliklgcfdgdigaa", sum := "123c21230cbd694ac42bbeea776d2d14f12dd2771675a79e933ae94d80caeb79", func := "loop.example/g00285/laws.FnExactFaultAt", spec := "fnExactFaultAt", apart := false }
def FnExactFaultAtSaid : Prop := fnExactFaultAtRow.holds Try.pinned (OpenSpec.ofChange fnExactFaultAtSpec)

/-- ITS FALSE NEIGHBOUR: 'it returns false'. Refute it at one input. -/
def fnExactFaultAtWrong : ChangeSpec := { name := "fnExactFaultAt", fn := fun _ => fun
  | [d] => { results := [.lit (.bool false)], args := [d] }
  | _ => none }
def FnExactFaultAtWrongFalsely : Prop := fnExactFaultAtRow.holds Try.pinned (OpenSpec.ofChange fnExactFaultAtWrong)

/-- 'laws.FnErased': WHATEVER THE INPUT: true; the input reads as it did. -/
def fnErasedSpec : ChangeSpec := { name := "fnErased", fn := fun _ => fun
  | [d] => { results := [.lit (.bool true)], args := [d] }
  | _ => none }
def fnErasedRow : OpenClaim := { program := "ytliklgcfdgdigaa", sum := "123c21230cbd694ac42bbeea776d2d14f12dd2771675a79e933ae94d80caeb79", func := "loop.example/g00285/laws.FnErased", spec := "fnErased", apart := false }
def FnErasedSaid : Prop := fnErasedRow.holds Try.pinned (OpenSpec.ofChange fnErasedSpec)

/-- ITS FALSE NEIGHBOUR: 'it returns false'. Refute it at one input. -/
def fnErasedWrong : ChangeSpec := { name := "fnErased", fn := fun _ => fun
  | [d] => { results := [.lit (.bool false)], args := [d] }
  | _ => none }
def FnErasedWrongFalsely : Prop := fnErasedRow.holds Try.pinned (OpenSpec.ofChange fnErasedWrong)

/-- 'laws.FnChips': WHATEVER THE INPUT: true; the input reads as it did. -/
def fnChipsSpec : ChangeSpec := { name := "fnChips", fn := fun _ => fun
  | [d] => { results := [.lit (.bool true)], args := [d] }
  | _ => none }
def fnChipsRow : OpenClaim := { program := "ytliklgcfdgdigaa", sum := "123c21230cbd694ac42bbeea776d2d14f12dd2771675a79e933ae94d80caeb79", func := "loop.example/g00285/laws.FnChips", spec := "fnChips", apart := false }
def FnChipsSaid : Prop := fnChipsRow.holds Try.pinned (OpenSpec.ofChange fnChipsSpec)

/-- ITS FALSE NEIGHBOUR: 'it returns false'. Refute it at one input. -/
def fnChipsWrong : ChangeSpec := { name := "fnChips", fn := fun _ => fun
  | [d] => { results := [.lit (.bool false)], args := [d] }
  | _ => none }
def FnChipsWrongFalsely : Prop := fnChipsRow.holds Try.pinned (OpenSpec.ofChange fnChipsWrong)

/-- 'laws.FnRecsRead': WHATEVER THE INPUT: true; the input reads as it did. -/
def fnRecsReadSpec : ChangeSpec := { name := "fnRecsRead", fn := fun _ => fun
  | [d] => { results := [.lit (.bool true)], args := [d] }
  | _ => none }
def fnRecsReadRow : OpenClaim := { program := "ytliklgcfdgdigaa", sum := "123c21230cbd694ac42bbeea776d2d14f12dd2771675a79e933ae94d80caeb79", func := "loop.example/g00285/laws.FnRecsRead", spec := "fnRecsRead", apart := false }
def FnRecsReadSaid : Prop := fnRecsReadRow.holds Try.pinned (OpenSpec.ofChange fnRecsReadSpec)

/-- ITS FALSE NEIGHBOUR: 'it returns false'. Refute it at one input. -/
def fnRecsReadWrong : ChangeSpec := { name := "fnRecsRead", fn := fun _ => fun
  | [d] => { results := [.lit (.bool false)], args := [d] }
  | _ => none }
def FnRecsReadWrongFalsely : Prop := fnRecsReadRow.holds Try.pinned (OpenSpec.ofChange fnRecsReadWrong)

/-- 'laws.FnExactDevOk': WHATEVER THE INPUT: true; the input reads as it did. -/
def fnExactDevOkSpec : ChangeSpec := { name := "fnExactDevOk", fn := fun _ => fun
  | [d] => { results := [.lit (.bool true)], args := [d] }
  | _ => none }
def fnExactDevOkRow : OpenClaim := { program := "ytliklgcfdgdigaa", sum := "123c21230cbd694ac42bbeea776d2d14f12dd2771675a79e933ae94d80caeb79", func := "loop.example/g00285/laws.FnExactDevOk", spec := "fnExactDevOk", apart := false }
def FnExactDevOkSaid : Prop := fnExactDevOkRow.holds Try.pinned (OpenSpec.ofChange fnExactDevOkSpec)

/-- ITS FALSE NEIGHBOUR: 'it returns false'. Refute it at one input. -/
def fnExactDevOkWrong : ChangeSpec := { name := "fnExactDevOk", fn := fun _ => fun
  | [d] => { results := [.lit (.bool false)], args := [d] }
  | _ => none }
def FnExactDevOkWrongFalsely : Prop := fnExactDevOkRow.holds Try.pinned (OpenSpec.ofChange fnExactDevOkWrong)

/-- 'laws.FnExactFreeBlocks': WHATEVER THE INPUT: true; the input reads as it did. -/
def fnExactFreeBlocksSpec : ChangeSpec := { name := "fnExactFreeBlocks", fn := fun _ => fun
  | [d] => { results := [.lit (.bool true)], args := [d] }
  | _ => none }
def fnExactFreeBlocksRow : OpenClaim := { program := "ytliklgcfdgdigaa", sum := "123c21230cbd694ac42bbeea776d2d14f12dd2771675a79e933ae94d80caeb79", func := "loop.example/g00285/laws.FnExactFreeBlocks", spec := "fnExactFreeBlocks", apart := false }
def FnExactFreeBlocksSaid : Prop := fnExactFreeBlocksRow.holds Try.pinned (OpenSpec.ofChange fnExactFreeBlocksSpec)

/-- ITS FALSE NEIGHBOUR: 'it returns false'. Refute it at one input. -/
def fnExactFreeBlocksWrong : ChangeSpec := { name := "fnExactFreeBlocks", fn := fun _ => fun
  | [d] => { results := [.lit (.bool false)], args := [d] }
  | _ => none }
def FnExactFreeBlocksWrongFalsely : Prop := fnExactFreeBlocksRow.holds Try.pinned (OpenSpec.ofChange fnExactFreeBlocksWrong)

/-- 'laws.FnExactDevNew': WHATEVER THE INPUT: true; the input reads as it did. -/
def fnExactDevNewSpec : ChangeSpec := { name := "fnExactDevNew", fn := fun _ => fun
  | [d1, d2] => { results := [.lit (.bool true)], args := [d1, d2] }
  | _ => none }
def fnExactDevNewRow : OpenClaim := { program := "ytliklgcfdgdigaa", sum := "123c21230cbd694ac42bbeea776d2d14f12dd2771675a79e933ae94d80caeb79", func := "loop.example/g00285/laws.FnExactDevNew", spec := "fnExactDevNew", apart := false }
def FnExactDevNewSaid : Prop := fnExactDevNewRow.holds Try.pinned (OpenSpec.ofChange fnExactDevNewSpec)

/-- ITS FALSE NEIGHBOUR: 'it returns false'. Refute it at one input. -/
def fnExactDevNewWrong : ChangeSpec := { name := "fnExactDevNew", fn := fun _ => fun
  | [d1, d2] => { results := [.lit (.bool false)], args := [d1, d2] }
  | _ => none }
def FnExactDevNewWrongFalsely : Prop := fnExactDevNewRow.holds Try.pinned (OpenSpec.ofChange fnExactDevNewWrong)

/-- 'laws.FnExactErase': WHATEVER THE INPUT: true; the input reads as it did. -/
def fnExactEraseSpec : ChangeSpec := { name := "fnExactErase", fn := fun _ => fun
  | [d1, d2] => { results := [.lit (.bool true)], args := [d1, d2] }
  | _ => none }
def fnExactEraseRow : OpenClaim := { program := "ytliklgcfdgdigaa", sum := "123c21230cbd694ac42bbeea776d2d14f12dd2771675a79e933ae94d80caeb79", func := "loop.example/g00285/laws.FnExactErase", spec := "fnExactErase", apart := false }
def FnExactEraseSaid : Prop := fnExactEraseRow.holds Try.pinned (OpenSpec.ofChange fnExactEraseSpec)

/-- ITS FALSE NEIGHBOUR: 'it returns false'. Refute it at one input. -/
def fnExactEraseWrong : ChangeSpec := { name := "fnExactErase", fn := fun _ => fun
  | [d1, d2] => { results := [.lit (.bool false)], args := [d1, d2] }
  | _ => none }
def FnExactEraseWrongFalsely : Prop := fnExactEraseRow.holds Try.pinned (OpenSpec.ofChange fnExactEraseWrong)

/-- 'laws.FnExactProgram': WHATEVER THE INPUT: true; the input reads as it did. -/
def fnExactProgramSpec : ChangeSpec := { name := "fnExactProgram", fn := fun _ => fun
  | [d1, d2, d3] => { results := [.lit (.bool true)], args := [d1, d2, d3] }
  | _ => none }
def fnExactProgramRow : OpenClaim := { program := "ytliklgcfdgdigaa", sum := "123c21230cbd694ac42bbeea776d2d14f12dd2771675a79e933ae94d80caeb79", func := "loop.example/g00285/laws.FnExactProgram", spec := "fnExactProgram", apart := false }
def FnExactProgramSaid : Prop := fnExactProgramRow.holds Try.pinned (OpenSpec.ofChange fnExactProgramSpec)

/-- ITS FALSE NEIGHBOUR: 'it returns false'. Refute it at one input. -/
def fnExactProgramWrong : ChangeSpec := { name := "fnExactProgram", fn := fun _ => fun
  | [d1, d2, d3] => { results := [.lit (.bool false)], args := [d1, d2, d3] }
  | _ => none }
def FnExactProgramWrongFalsely : Prop := fnExactProgramRow.holds Try.pinned (OpenSpec.ofChange fnExactProgramWrong)

/-- 'laws.FnExactPowerUp': WHATEVER THE INPUT: true; the input reads as it did. -/
def fnExactPowerUpSpec : ChangeSpec := { name := "fnExactPowerUp", fn := fun _ => fun
  | [d] => { results := [.lit (.bool true)], args := [d] }
  | _ => none }
def fnExactPowerUpRow : OpenClaim := { program := "ytliklgcfdgdigaa", sum := "123c21230cbd694ac42bbeea776d2d14f12dd2771675a79e933ae94d80caeb79", func := "loop.example/g00285/laws.FnExactPowerUp", spec := "fnExactPowerUp", apart := false }
def FnExactPowerUpSaid : Prop := fnExactPowerUpRow.holds Try.pinned (OpenSpec.ofChange fnExactPowerUpSpec)

/-- ITS FALSE NEIGHBOUR: 'it returns false'. Refute it at one input. -/
def fnExactPowerUpWrong : ChangeSpec := { name := "fnExactPowerUp", fn := fun _ => fun
  | [d] => { results := [.lit (.bool false)], args := [d] }
  | _ => none }
def FnExactPowerUpWrongFalsely : Prop := fnExactPowerUpRow.holds Try.pinned (OpenSpec.ofChange fnExactPowerUpWrong)

/-- 'laws.FnDevs': WHATEVER THE INPUT: true; the input reads as it did. -/
def fnDevsSpec : ChangeSpec := { name := "fnDevs", fn := fun _ => fun
  | [d] => { results := [.lit (.bool true)], args := [d] }
  | _ => none }
def fnDevsRow : OpenClaim := { program := "ytliklgcfdgdigaa", sum := "123c21230cbd694ac42bbeea776d2d14f12dd2771675a79e933ae94d80caeb79", func := "loop.example/g00285/laws.FnDevs", spec := "fnDevs", unfollowed := true, recurses := true, apart := false }
def FnDevsSaid : Prop := fnDevsRow.holds Try.pinned (OpenSpec.ofChange fnDevsSpec)

/-- ITS FALSE NEIGHBOUR: 'it returns false'. Refute it at one input. -/
def fnDevsWrong : ChangeSpec := { name := "fnDevs", fn := fun _ => fun
  | [d] => { results := [.lit (.bool false)], args := [d] }
  | _ => none }
def FnDevsWrongFalsely : Prop := fnDevsRow.holds Try.pinned (OpenSpec.ofChange fnDevsWrong)

/-- 'laws.FnDevErased': WHATEVER THE INPUT: true; the input reads as it did. -/
def fnDevErasedSpec : ChangeSpec := { name := "fnDevErased", fn := fun _ => fun
  | [d] => { results := [.lit (.bool true)], args := [d] }
  | _ => none }
def fnDevErasedRow : OpenClaim := { program := "ytliklgcfdgdigaa", sum := "123c21230cbd694ac42bbeea776d2d14f12dd2771675a79e933ae94d80caeb79", func := "loop.example/g00285/laws.FnDevErased", spec := "fnDevErased", unfollowed := true, recurses := true, apart := false }
def FnDevErasedSaid : Prop := fnDevErasedRow.holds Try.pinned (OpenSpec.ofChange fnDevErasedSpec)

/-- ITS FALSE NEIGHBOUR: 'it returns false'. Refute it at one input. -/
def fnDevErasedWrong : ChangeSpec := { name := "fnDevErased", fn := fun _ => fun
  | [d] => { results := [.lit (.bool false)], args := [d] }
  | _ => none }
def FnDevErasedWrongFalsely : Prop := fnDevErasedRow.holds Try.pinned (OpenSpec.ofChange fnDevErasedWrong)

/-- 'laws.FnPowers': WHATEVER THE INPUT: true; the input reads as it did. -/
def fnPowersSpec : ChangeSpec := { name := "fnPowers", fn := fun _ => fun
  | [d] => { results := [.lit (.bool true)], args := [d] }
  | _ => none }
def fnPowersRow : OpenClaim := { program := "ytliklgcfdgdigaa", sum := "123c21230cbd694ac42bbeea776d2d14f12dd2771675a79e933ae94d80caeb79", func := "loop.example/g00285/laws.FnPowers", spec := "fnPowers", unfollowed := true, recurses := true, apart := false }
def FnPowersSaid : Prop := fnPowersRow.holds Try.pinned (OpenSpec.ofChange fnPowersSpec)

/-- ITS FALSE NEIGHBOUR: 'it returns false'. Refute it at one input. -/
def fnPowersWrong : ChangeSpec := { name := "fnPowers", fn := fun _ => fun
  | [d] => { results := [.lit (.bool false)], args := [d] }
  | _ => none }
def FnPowersWrongFalsely : Prop := fnPowersRow.holds Try.pinned (OpenSpec.ofChange fnPowersWrong)

/-- 'laws.FnExactDevErase': WHATEVER THE INPUT: true; the input reads as it did. -/
def fnExactDevEraseSpec : ChangeSpec := { name := "fnExactDevErase", fn := fun _ => fun
  | [d1, d2] => { results := [.lit (.bool true)], args := [d1, d2] }
  | _ => none }
def fnExactDevEraseRow : OpenClaim := { program := "ytliklgcfdgdigaa", sum := "123c21230cbd694ac42bbeea776d2d14f12dd2771675a79e933ae94d80caeb79", func := "loop.example/g00285/laws.FnExactDevErase", spec := "fnExactDevErase", unfollowed := true, recurses := true, apart := false }
def FnExactDevEraseSaid : Prop := fnExactDevEraseRow.holds Try.pinned (OpenSpec.ofChange fnExactDevEraseSpec)

/-- ITS FALSE NEIGHBOUR: 'it returns false'. Refute it at one input. -/
def fnExactDevEraseWrong : ChangeSpec := { name := "fnExactDevErase", fn := fun _ => fun
  | [d1, d2] => { results := [.lit (.bool false)], args := [d1, d2] }
  | _ => none }
def FnExactDevEraseWrongFalsely : Prop := fnExactDevEraseRow.holds Try.pinned (OpenSpec.ofChange fnExactDevEraseWrong)

/-- 'laws.FnExactDevProgram': WHATEVER THE INPUT: true; the input reads as it did. -/
def fnExactDevProgramSpec : ChangeSpec := { name := "fnExactDevProgram", fn := fun _ => fun
  | [d1, d2, d3] => { results := [.lit (.bool true)], args := [d1, d2, d3] }
  | _ => none }
def fnExactDevProgramRow : OpenClaim := { program := "ytliklgcfdgdigaa", sum := "123c21230cbd694ac42bbeea776d2d14f12dd2771675a79e933ae94d80caeb79", func := "loop.example/g00285/laws.FnExactDevProgram", spec := "fnExactDevProgram", unfollowed := true, recurses := true, apart := false }
def FnExactDevProgramSaid : Prop := fnExactDevProgramRow.holds Try.pinned (OpenSpec.ofChange fnExactDevProgramSpec)

/-- ITS FALSE NEIGHBOUR: 'it returns false'. Refute it at one input. -/
def fnExactDevProgramWrong : ChangeSpec := { name := "fnExactDevProgram", fn := fun _ => fun
  | [d1, d2, d3] => { results := [.lit (.bool false)], args := [d1, d2, d3] }
  | _ => none }
def FnExactDevProgramWrongFalsely : Prop := fnExactDevProgramRow.holds Try.pinned (OpenSpec.ofChange fnExactDevProgramWrong)

/- THE SECOND FORM. 'bulk': how many values and letters a reading holds, each counted each time it is reached (what is shared counts as often as it is met; a slice's spare places count too). A statement '..UptoSaid' is the law's where the arguments, and the package variables that the reading takes, are together of bulk at most 1048576: NARROWER than '..Said'. Prove '..Said' where nothing that the law and all that it calls make is longer than what came in: it says more and counts as full. Else prove '..UptoSaid'. A law counts once. -/
mutual
def uptoBulk {H : Type} : DataW H → Nat
  | .lit (.string bytes) => bytes.length + 1
  | .lit _ => 1
  | .nil => 1
  | .ptr d => uptoBulk d + 1
  | .slice elems spare => uptoBulkAll elems + uptoBulkAll spare + 1
  | .agg parts => uptoBulkAll parts + 1
  | .iface _ d => uptoBulk d + 1
  | .map entries => uptoBulkEntries entries + 1
  | .held _ => 1
def uptoBulkAll {H : Type} : List (DataW H) → Nat
  | [] => 0
  | d :: r => uptoBulk d + uptoBulkAll r
def uptoBulkEntries {H : Type} : List (Lit × DataW H) → Nat
  | [] => 0
  | x :: r => uptoBulkEntry x + uptoBulkEntries r
def uptoBulkEntry {H : Type} : Lit × DataW H → Nat
  | (.string bytes, d) => bytes.length + uptoBulk d + 1
  | (_, d) => uptoBulk d + 1
 end
def uptoSmall : (H : Type) → List (DataW H) → Bool := fun _ ds => decide (uptoBulkAll ds ≤ 1048576)
def OpenSpec.upto (s : _root_.Go.ChangeSpec) : _root_.Go.OpenSpec := { _root_.Go.OpenSpec.ofChange s with cond := some uptoSmall }

/-- 'laws.FnExactRecOk', WHERE WHAT IT READS IS OF BULK AT MOST 1048576: true; the input reads as it did. -/
def fnExactRecOkUptoRow : OpenClaim := { program := "ytliklgcfdgdigaa", sum := "123c21230cbd694ac42bbeea776d2d14f12dd2771675a79e933ae94d80caeb79", func := "loop.example/g00285/laws.FnExactRecOk", spec := "fnExactRecOk", apart := false, narrowed := true }
def FnExactRecOkUptoSaid : Prop := fnExactRecOkUptoRow.holds Try.pinned (OpenSpec.upto fnExactRecOkSpec)

/-- 'laws.FnExactChanges', WHERE WHAT IT READS IS OF BULK AT MOST 1048576: true; the input reads as it did. -/
def fnExactChangesUptoRow : OpenClaim := { program := "ytliklgcfdgdigaa", sum := "123c21230cbd694ac42bbeea776d2d14f12dd2771675a79e933ae94d80caeb79", func := "loop.example/g00285/laws.FnExactChanges", spec := "fnExactChanges", apart := false, narrowed := true }
def FnExactChangesUptoSaid : Prop := fnExactChangesUptoRow.holds Try.pinned (OpenSpec.upto fnExactChangesSpec)

/-- 'laws.FnExactPutOp', WHERE WHAT IT READS IS OF BULK AT MOST 1048576: true; the input reads as it did. -/
def fnExactPutOpUptoRow : OpenClaim := { program := "ytliklgcfdgdigaa", sum := "123c21230cbd694ac42bbeea776d2d14f12dd2771675a79e933ae94d80caeb79", func := "loop.example/g00285/laws.FnExactPutOp", spec := "fnExactPutOp", apart := false, narrowed := true }
def FnExactPutOpUptoSaid : Prop := fnExactPutOpUptoRow.holds Try.pinned (OpenSpec.upto fnExactPutOpSpec)

/-- 'laws.FnExactChipNew', WHERE WHAT IT READS IS OF BULK AT MOST 1048576: true; the input reads as it did. -/
def fnExactChipNewUptoRow : OpenClaim := { program := "ytliklgcfdgdigaa", sum := "123c21230cbd694ac42bbeea776d2d14f12dd2771675a79e933ae94d80caeb79", func := "loop.example/g00285/laws.FnExactChipNew", spec := "fnExactChipNew", apart := false, narrowed := true }
def FnExactChipNewUptoSaid : Prop := fnExactChipNewUptoRow.holds Try.pinned (OpenSpec.upto fnExactChipNewSpec)

/-- 'laws.FnExactPutRec', WHERE WHAT IT READS IS OF BULK AT MOST 1048576: true; the input reads as it did. -/
def fnExactPutRecUptoRow : OpenClaim := { program := "ytliklgcfdgdigaa", sum := "123c21230cbd694ac42bbeea776d2d14f12dd2771675a79e933ae94d80caeb79", func := "loop.example/g00285/laws.FnExactPutRec", spec := "fnExactPutRec", apart := false, narrowed := true }
def FnExactPutRecUptoSaid : Prop := fnExactPutRecUptoRow.holds Try.pinned (OpenSpec.upto fnExactPutRecSpec)

/-- 'laws.FnExactWornOf', WHERE WHAT IT READS IS OF BULK AT MOST 1048576: true; the input reads as it did. -/
def fnExactWornOfUptoRow : OpenClaim := { program := "ytliklgcfdgdigaa", sum := "123c21230cbd694ac42bbeea776d2d14f12dd2771675a79e933ae94d80caeb79", func := "loop.example/g00285/laws.FnExactWornOf", spec := "fnExactWornOf", apart := false, narrowed := true }
def FnExactWornOfUptoSaid : Prop := fnExactWornOfUptoRow.holds Try.pinned (OpenSpec.upto fnExactWornOfSpec)

/-- 'laws.FnExactGetOp', WHERE WHAT IT READS IS OF BULK AT MOST 1048576: true; the input reads as it did. -/
def fnExactGetOpUptoRow : OpenClaim := { program := "ytliklgcfdgdigaa", sum := "123c21230cbd694ac42bbeea776d2d14f12dd2771675a79e933ae94d80caeb79", func := "loop.example/g00285/laws.FnExactGetOp", spec := "fnExactGetOp", apart := false, narrowed := true }
def FnExactGetOpUptoSaid : Prop := fnExactGetOpUptoRow.holds Try.pinned (OpenSpec.upto fnExactGetOpSpec)

/-- 'laws.FnExactNextPage', WHERE WHAT IT READS IS OF BULK AT MOST 1048576: true; the input reads as it did. -/
def fnExactNextPageUptoRow : OpenClaim := { program := "ytliklgcfdgdigaa", sum := "123c21230cbd694ac42bbeea776d2d14f12dd2771675a79e933ae94d80caeb79", func := "loop.example/g00285/laws.FnExactNextPage", spec := "fnExactNextPage", apart := false, narrowed := true }
def FnExactNextPageUptoSaid : Prop := fnExactNextPageUptoRow.holds Try.pinned (OpenSpec.upto fnExactNextPageSpec)

/-- 'laws.FnExactChipOk', WHERE WHAT IT READS IS OF BULK AT MOST 1048576: true; the input reads as it did. -/
def fnExactChipOkUptoRow : OpenClaim := { program := "ytliklgcfdgdigaa", sum := "123c21230cbd694ac42bbeea776d2d14f12dd2771675a79e933ae94d80caeb79", func := "loop.example/g00285/laws.FnExactChipOk", spec := "fnExactChipOk", apart := false, narrowed := true }
def FnExactChipOkUptoSaid : Prop := fnExactChipOkUptoRow.holds Try.pinned (OpenSpec.upto fnExactChipOkSpec)

/-- 'laws.FnRecs', WHERE WHAT IT READS IS OF BULK AT MOST 1048576: true; the input reads as it did. -/
def fnRecsUptoRow : OpenClaim := { program := "ytliklgcfdgdigaa", sum := "123c21230cbd694ac42bbeea776d2d14f12dd2771675a79e933ae94d80caeb79", func := "loop.example/g00285/laws.FnRecs", spec := "fnRecs", apart := false, narrowed := true }
def FnRecsUptoSaid : Prop := fnRecsUptoRow.holds Try.pinned (OpenSpec.upto fnRecsSpec)

/-- 'laws.FnExactReadPage', WHERE WHAT IT READS IS OF BULK AT MOST 1048576: true; the input reads as it did. -/
def fnExactReadPageUptoRow : OpenClaim := { program := "ytliklgcfdgdigaa", sum := "123c21230cbd694ac42bbeea776d2d14f12dd2771675a79e933ae94d80caeb79", func := "loop.example/g00285/laws.FnExactReadPage", spec := "fnExactReadPage", apart := false, narrowed := true }
def FnExactReadPageUptoSaid : Prop := fnExactReadPageUptoRow.holds Try.pinned (OpenSpec.upto fnExactReadPageSpec)

/-- 'laws.FnNewChips', WHERE WHAT IT READS IS OF BULK AT MOST 1048576: true; the input reads as it did. -/
def fnNewChipsUptoRow : OpenClaim := { program := "ytliklgcfdgdigaa", sum := "123c21230cbd694ac42bbeea776d2d14f12dd2771675a79e933ae94d80caeb79", func := "loop.example/g00285/laws.FnNewChips", spec := "fnNewChips", apart := false, narrowed := true }
def FnNewChipsUptoSaid : Prop := fnNewChipsUptoRow.holds Try.pinned (OpenSpec.upto fnNewChipsSpec)

/-- 'laws.FnInTurn', WHERE WHAT IT READS IS OF BULK AT MOST 1048576: true; the input reads as it did. -/
def fnInTurnUptoRow : OpenClaim := { program := "ytliklgcfdgdigaa", sum := "123c21230cbd694ac42bbeea776d2d14f12dd2771675a79e933ae94d80caeb79", func := "loop.example/g00285/laws.FnInTurn", spec := "fnInTurn", apart := false, narrowed := true }
def FnInTurnUptoSaid : Prop := fnInTurnUptoRow.holds Try.pinned (OpenSpec.upto fnInTurnSpec)

/-- 'laws.FnExactGetRec', WHERE WHAT IT READS IS OF BULK AT MOST 1048576: true; the input reads as it did. -/
def fnExactGetRecUptoRow : OpenClaim := { program := "ytliklgcfdgdigaa", sum := "123c21230cbd694ac42bbeea776d2d14f12dd2771675a79e933ae94d80caeb79", func := "loop.example/g00285/laws.FnExactGetRec", spec := "fnExactGetRec", apart := false, narrowed := true }
def FnExactGetRecUptoSaid : Prop := fnExactGetRecUptoRow.holds Try.pinned (OpenSpec.upto fnExactGetRecSpec)

/-- 'laws.FnExactFaultAt', WHERE WHAT IT READS IS OF BULK AT MOST 1048576: true; the input reads as it did. -/
def fnExactFaultAtUptoRow : OpenClaim := { program := "ytliklgcfdgdigaa", sum := "123c21230cbd694ac42bbeea776d2d14f12dd2771675a79e933ae94d80caeb79", func := "loop.example/g00285/laws.FnExactFaultAt", spec := "fnExactFaultAt", apart := false, narrowed := true }
def FnExactFaultAtUptoSaid : Prop := fnExactFaultAtUptoRow.holds Try.pinned (OpenSpec.upto fnExactFaultAtSpec)

/-- 'laws.FnErased', WHERE WHAT IT READS IS OF BULK AT MOST 1048576: true; the input reads as it did. -/
def fnErasedUptoRow : OpenClaim := { program := "ytliklgcfdgdigaa", sum := "123c21230cbd694ac42bbeea776d2d14f12dd2771675a79e933ae94d80caeb79", func := "loop.example/g00285/laws.FnErased", spec := "fnErased", apart := false, narrowed := true }
def FnErasedUptoSaid : Prop := fnErasedUptoRow.holds Try.pinned (OpenSpec.upto fnErasedSpec)

/-- 'laws.FnChips', WHERE WHAT IT READS IS OF BULK AT MOST 1048576: true; the input reads as it did. -/
def fnChipsUptoRow : OpenClaim := { program := "ytliklgcfdgdigaa", sum := "123c21230cbd694ac42bbeea776d2d14f12dd2771675a79e933ae94d80caeb79", func := "loop.example/g00285/laws.FnChips", spec := "fnChips", apart := false, narrowed := true }
def FnChipsUptoSaid : Prop := fnChipsUptoRow.holds Try.pinned (OpenSpec.upto fnChipsSpec)

/-- 'laws.FnRecsRead', WHERE WHAT IT READS IS OF BULK AT MOST 1048576: true; the input reads as it did. -/
def fnRecsReadUptoRow : OpenClaim := { program := "ytliklgcfdgdigaa", sum := "123c21230cbd694ac42bbeea776d2d14f12dd2771675a79e933ae94d80caeb79", func := "loop.example/g00285/laws.FnRecsRead", spec := "fnRecsRead", apart := false, narrowed := true }
def FnRecsReadUptoSaid : Prop := fnRecsReadUptoRow.holds Try.pinned (OpenSpec.upto fnRecsReadSpec)

/-- 'laws.FnExactDevOk', WHERE WHAT IT READS IS OF BULK AT MOST 1048576: true; the input reads as it did. -/
def fnExactDevOkUptoRow : OpenClaim := { program := "ytliklgcfdgdigaa", sum := "123c21230cbd694ac42bbeea776d2d14f12dd2771675a79e933ae94d80caeb79", func := "loop.example/g00285/laws.FnExactDevOk", spec := "fnExactDevOk", apart := false, narrowed := true }
def FnExactDevOkUptoSaid : Prop := fnExactDevOkUptoRow.holds Try.pinned (OpenSpec.upto fnExactDevOkSpec)

/-- 'laws.FnExactFreeBlocks', WHERE WHAT IT READS IS OF BULK AT MOST 1048576: true; the input reads as it did. -/
def fnExactFreeBlocksUptoRow : OpenClaim := { program := "ytliklgcfdgdigaa", sum := "123c21230cbd694ac42bbeea776d2d14f12dd2771675a79e933ae94d80caeb79", func := "loop.example/g00285/laws.FnExactFreeBlocks", spec := "fnExactFreeBlocks", apart := false, narrowed := true }
def FnExactFreeBlocksUptoSaid : Prop := fnExactFreeBlocksUptoRow.holds Try.pinned (OpenSpec.upto fnExactFreeBlocksSpec)

/-- 'laws.FnExactDevNew', WHERE WHAT IT READS IS OF BULK AT MOST 1048576: true; the input reads as it did. -/
def fnExactDevNewUptoRow : OpenClaim := { program := "ytliklgcfdgdigaa", sum := "123c21230cbd694ac42bbeea776d2d14f12dd2771675a79e933ae94d80caeb79", func := "loop.example/g00285/laws.FnExactDevNew", spec := "fnExactDevNew", apart := false, narrowed := true }
def FnExactDevNewUptoSaid : Prop := fnExactDevNewUptoRow.holds Try.pinned (OpenSpec.upto fnExactDevNewSpec)

/-- 'laws.FnExactErase', WHERE WHAT IT READS IS OF BULK AT MOST 1048576: true; the input reads as it did. -/
def fnExactEraseUptoRow : OpenClaim := { program := "ytliklgcfdgdigaa", sum := "123c21230cbd694ac42bbeea776d2d14f12dd2771675a79e933ae94d80caeb79", func := "loop.example/g00285/laws.FnExactErase", spec := "fnExactErase", apart := false, narrowed := true }
def FnExactEraseUptoSaid : Prop := fnExactEraseUptoRow.holds Try.pinned (OpenSpec.upto fnExactEraseSpec)

/-- 'laws.FnExactProgram', WHERE WHAT IT READS IS OF BULK AT MOST 1048576: true; the input reads as it did. -/
def fnExactProgramUptoRow : OpenClaim := { program := "ytliklgcfdgdigaa", sum := "123c21230cbd694ac42bbeea776d2d14f12dd2771675a79e933ae94d80caeb79", func := "loop.example/g00285/laws.FnExactProgram", spec := "fnExactProgram", apart := false, narrowed := true }
def FnExactProgramUptoSaid : Prop := fnExactProgramUptoRow.holds Try.pinned (OpenSpec.upto fnExactProgramSpec)

/-- 'laws.FnExactPowerUp', WHERE WHAT IT READS IS OF BULK AT MOST 1048576: true; the input reads as it did. -/
def fnExactPowerUpUptoRow : OpenClaim := { program := "ytliklgcfdgdigaa", sum := "123c21230cbd694ac42bbeea776d2d14f12dd2771675a79e933ae94d80caeb79", func := "loop.example/g00285/laws.FnExactPowerUp", spec := "fnExactPowerUp", apart := false, narrowed := true }
def FnExactPowerUpUptoSaid : Prop := fnExactPowerUpUptoRow.holds Try.pinned (OpenSpec.upto fnExactPowerUpSpec)

/-- 'laws.FnDevs', WHERE WHAT IT READS IS OF BULK AT MOST 1048576: true; the input reads as it did. -/
def fnDevsUptoRow : OpenClaim := { program := "ytliklgcfdgdigaa", sum := "123c21230cbd694ac42bbeea776d2d14f12dd2771675a79e933ae94d80caeb79", func := "loop.example/g00285/laws.FnDevs", spec := "fnDevs", unfollowed := true, recurses := true, apart := false, narrowed := true }
def FnDevsUptoSaid : Prop := fnDevsUptoRow.holds Try.pinned (OpenSpec.upto fnDevsSpec)

/-- 'laws.FnDevErased', WHERE WHAT IT READS IS OF BULK AT MOST 1048576: true; the input reads as it did. -/
def fnDevErasedUptoRow : OpenClaim := { program := "ytliklgcfdgdigaa", sum := "123c21230cbd694ac42bbeea776d2d14f12dd2771675a79e933ae94d80caeb79", func := "loop.example/g00285/laws.FnDevErased", spec := "fnDevErased", unfollowed := true, recurses := true, apart := false, narrowed := true }
def FnDevErasedUptoSaid : Prop := fnDevErasedUptoRow.holds Try.pinned (OpenSpec.upto fnDevErasedSpec)

/-- 'laws.FnPowers', WHERE WHAT IT READS IS OF BULK AT MOST 1048576: true; the input reads as it did. -/
def fnPowersUptoRow : OpenClaim := { program := "ytliklgcfdgdigaa", sum := "123c21230cbd694ac42bbeea776d2d14f12dd2771675a79e933ae94d80caeb79", func := "loop.example/g00285/laws.FnPowers", spec := "fnPowers", unfollowed := true, recurses := true, apart := false, narrowed := true }
def FnPowersUptoSaid : Prop := fnPowersUptoRow.holds Try.pinned (OpenSpec.upto fnPowersSpec)

/-- 'laws.FnExactDevErase', WHERE WHAT IT READS IS OF BULK AT MOST 1048576: true; the input reads as it did. -/
def fnExactDevEraseUptoRow : OpenClaim := { program := "ytliklgcfdgdigaa", sum := "123c21230cbd694ac42bbeea776d2d14f12dd2771675a79e933ae94d80caeb79", func := "loop.example/g00285/laws.FnExactDevErase", spec := "fnExactDevErase", unfollowed := true, recurses := true, apart := false, narrowed := true }
def FnExactDevEraseUptoSaid : Prop := fnExactDevEraseUptoRow.holds Try.pinned (OpenSpec.upto fnExactDevEraseSpec)

/-- 'laws.FnExactDevProgram', WHERE WHAT IT READS IS OF BULK AT MOST 1048576: true; the input reads as it did. -/
def fnExactDevProgramUptoRow : OpenClaim := { program := "ytliklgcfdgdigaa", sum := "123c21230cbd694ac42bbeea776d2d14f12dd2771675a79e933ae94d80caeb79", func := "loop.example/g00285/laws.FnExactDevProgram", spec := "fnExactDevProgram", unfollowed := true, recurses := true, apart := false, narrowed := true }
def FnExactDevProgramUptoSaid : Prop := fnExactDevProgramUptoRow.holds Try.pinned (OpenSpec.upto fnExactDevProgramSpec)

end Rows
end Go.Proofs.Ytliklgcfdgdigaa
