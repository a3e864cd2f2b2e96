/-
  No cell of these rows narrows 'for every input' (looked for: loops, veiled, ifaces, maps, wideKeys, modest, calm, conditions, laid).
  DERIVED. THE GIVEN ROWS OF THIS SEAT. 27 by the template 'for every input the law returns true; each argument reads behind the call as it read before'; 0 by the template 'total and deterministic' (their statements: YtgjfdfmbknmpaaaTotals.lean).
  GIVEN WITH THE SEED: the statements are not yours to turn. If you find one false, say at which input.
  Laid BY PROGRAM, IN A SANDBOX (cutbox-rows.mjs): the forced cells as the released guide's own fill.sh prints them over the translation d13b119f70c885c4… (all of the seat's roots in one cut). By AI agents, Wed Nov 11 2026. No macro, syntax, notation, axiom, sorry.
-/
import Derived.Test.YtgjfdfmbknmpaaaChecked
import GoSem.Claim
import GoSem.ClaimJoined
import GoSem.ClaimMapViews
import Derived.JoinedTies
import Derived.KernelRfl
namespace Go.Proofs.Ytgjfdfmbknmpaaa
/- THE CELL 'sum', in the pinned program and in every row, IS THE sha256 OF THE DUMP (.gsa) THAT YtgjfdfmbknmpaaaProg.lean LOADS. Nothing in Lean hashes anything: it is a label: what it is worth is what the hold of that sum in a sandbox is worth. -/
noncomputable def Try.pinned : Pinned := { name := "ytgjfdfmbknmpaaa", sum := "d13b119f70c885c41217d5e92cfd327f1faee03ef86e464a9d633c88f7afdf09", checked := Try.checked }
namespace Rows
def none {H : Type} : Left H := { results := [], args := [] }

/-- 'laws.FnExactValidChain': WHATEVER THE INPUT: true; the input reads as it did. -/
def fnExactValidChainSpec : ChangeSpec := { name := "fnExactValidChain", fn := fun _ => fun
  | [d] => { results := [.lit (.bool true)], args := [d] }
  | _ => none }
def fnExactValidChainRow : OpenClaim := { program := "ytgjfdfmbknmpaaa", sum := "d13b119f70c885c41217d5e92cfd327f1faee03ef86e464a9d633c88f7afdf09", func := "loop.example/g01327/laws.FnExactValidChain", spec := "fnExactValidChain", inPlace := ["math.Float64bits", "math.Float64frombits"], unfollowed := true, recurses := true, apart := false }
def FnExactValidChainSaid : Prop := fnExactValidChainRow.holds Try.pinned (OpenSpec.ofChange fnExactValidChainSpec)

/-- ITS FALSE NEIGHBOUR: 'it returns false'. Refute it at one input. -/
def fnExactValidChainWrong : ChangeSpec := { name := "fnExactValidChain", fn := fun _ => fun
  | [d] => { results := [.lit (.bool false)], args := [d] }
  | _ => none }
def FnExactValidChainWrongFalsely : Prop := fnExactValidChainRow.holds Try.pinned (OpenSpec.ofChange fnExactValidChainWrong)

/-- 'laws.FnExactIsSymmetric': WHATEVER THE INPUT: true; the input reads as it did. -/
def fnExactIsSymmetricSpec : ChangeSpec := { name := "fnExactIsSymmetric", fn := fun _ => fun
  | [d] => { results := [.lit (.bool true)], args := [d] }
  | _ => none }
def fnExactIsSymmetricRow : OpenClaim := { program := "ytgjfdfmbknmpaaa", sum := "d13b119f70c885c41217d5e92cfd327f1faee03ef86e464a9d633c88f7afdf09", func := "loop.example/g01327/laws.FnExactIsSymmetric", spec := "fnExactIsSymmetric", inPlace := ["math.Float64bits", "math.Float64frombits"], unfollowed := true, recurses := true, apart := false }
def FnExactIsSymmetricSaid : Prop := fnExactIsSymmetricRow.holds Try.pinned (OpenSpec.ofChange fnExactIsSymmetricSpec)

/-- ITS FALSE NEIGHBOUR: 'it returns false'. Refute it at one input. -/
def fnExactIsSymmetricWrong : ChangeSpec := { name := "fnExactIsSymmetric", fn := fun _ => fun
  | [d] => { results := [.lit (.bool false)], args := [d] }
  | _ => none }
def FnExactIsSymmetricWrongFalsely : Prop := fnExactIsSymmetricRow.holds Try.pinned (OpenSpec.ofChange fnExactIsSymmetricWrong)

/-- 'laws.FnExactTraceOf': WHATEVER THE INPUT: true; the input reads as it did. -/
def fnExactTraceOfSpec : ChangeSpec := { name := "fnExactTraceOf", fn := fun _ => fun
  | [d] => { results := [.lit (.bool true)], args := [d] }
  | _ => none }
def fnExactTraceOfRow : OpenClaim := { program := "ytgjfdfmbknmpaaa", sum := "d13b119f70c885c41217d5e92cfd327f1faee03ef86e464a9d633c88f7afdf09", func := "loop.example/g01327/laws.FnExactTraceOf", spec := "fnExactTraceOf", inPlace := ["math.Float64bits", "math.Float64frombits"], unfollowed := true, recurses := true, apart := false }
def FnExactTraceOfSaid : Prop := fnExactTraceOfRow.holds Try.pinned (OpenSpec.ofChange fnExactTraceOfSpec)

/-- ITS FALSE NEIGHBOUR: 'it returns false'. Refute it at one input. -/
def fnExactTraceOfWrong : ChangeSpec := { name := "fnExactTraceOf", fn := fun _ => fun
  | [d] => { results := [.lit (.bool false)], args := [d] }
  | _ => none }
def FnExactTraceOfWrongFalsely : Prop := fnExactTraceOfRow.holds Try.pinned (OpenSpec.ofChange fnExactTraceOfWrong)

/-- 'laws.FnExactCompanionMatrix': WHATEVER THE INPUT: true; the input reads as it did. -/
def fnExactCompanionMatrixSpec : ChangeSpec := { name := "fnExactCompanionMatrix", fn := fun _ => fun
  | [d] => { results := [.lit (.bool true)], args := [d] }
  | _ => none }
def fnExactCompanionMatrixRow : OpenClaim := { program := "ytgjfdfmbknmpaaa", sum := "d13b119f70c885c41217d5e92cfd327f1faee03ef86e464a9d633c88f7afdf09", func := "loop.example/g01327/laws.FnExactCompanionMatrix", spec := "fnExactCompanionMatrix", inPlace := ["math.Float64bits", "math.Float64frombits"], unfollowed := true, recurses := true, apart := false }
def FnExactCompanionMatrixSaid : Prop := fnExactCompanionMatrixRow.holds Try.pinned (OpenSpec.ofChange fnExactCompanionMatrixSpec)

/-- ITS FALSE NEIGHBOUR: 'it returns false'. Refute it at one input. -/
def fnExactCompanionMatrixWrong : ChangeSpec := { name := "fnExactCompanionMatrix", fn := fun _ => fun
  | [d] => { results := [.lit (.bool false)], args := [d] }
  | _ => none }
def FnExactCompanionMatrixWrongFalsely : Prop := fnExactCompanionMatrixRow.holds Try.pinned (OpenSpec.ofChange fnExactCompanionMatrixWrong)

/-- 'laws.FnExactCountBelow': WHATEVER THE INPUT: true; the input reads as it did. -/
def fnExactCountBelowSpec : ChangeSpec := { name := "fnExactCountBelow", fn := fun _ => fun
  | [d1, d2] => { results := [.lit (.bool true)], args := [d1, d2] }
  | _ => none }
def fnExactCountBelowRow : OpenClaim := { program := "ytgjfdfmbknmpaaa", sum := "d13b119f70c885c41217d5e92cfd327f1faee03ef86e464a9d633c88f7afdf09", func := "loop.example/g01327/laws.FnExactCountBelow", spec := "fnExactCountBelow", inPlace := ["math.Float64bits", "math.Float64frombits"], unfollowed := true, recurses := true, apart := false }
def FnExactCountBelowSaid : Prop := fnExactCountBelowRow.holds Try.pinned (OpenSpec.ofChange fnExactCountBelowSpec)

/-- ITS FALSE NEIGHBOUR: 'it returns false'. Refute it at one input. -/
def fnExactCountBelowWrong : ChangeSpec := { name := "fnExactCountBelow", fn := fun _ => fun
  | [d1, d2] => { results := [.lit (.bool false)], args := [d1, d2] }
  | _ => none }
def FnExactCountBelowWrongFalsely : Prop := fnExactCountBelowRow.holds Try.pinned (OpenSpec.ofChange fnExactCountBelowWrong)

/-- 'laws.FnExactRowNorm': WHATEVER THE INPUT: true; the input reads as it did. -/
def fnExactRowNormSpec : ChangeSpec := { name := "fnExactRowNorm", fn := fun _ => fun
  | [d] => { results := [.lit (.bool true)], args := [d] }
  | _ => none }
def fnExactRowNormRow : OpenClaim := { program := "ytgjfdfmbknmpaaa", sum := "d13b119f70c885c41217d5e92cfd327f1faee03ef86e464a9d633c88f7afdf09", func := "loop.example/g01327/laws.FnExactRowNorm", spec := "fnExactRowNorm", inPlace := ["math.Float64bits", "math.Float64frombits"], unfollowed := true, recurses := true, apart := false }
def FnExactRowNormSaid : Prop := fnExactRowNormRow.holds Try.pinned (OpenSpec.ofChange fnExactRowNormSpec)

/-- ITS FALSE NEIGHBOUR: 'it returns false'. Refute it at one input. -/
def fnExactRowNormWrong : ChangeSpec := { name := "fnExactRowNorm", fn := fun _ => fun
  | [d] => { results := [.lit (.bool false)], args := [d] }
  | _ => none }
def FnExactRowNormWrongFalsely : Prop := fnExactRowNormRow.holds Try.pinned (OpenSpec.ofChange fnExactRowNormWrong)

/-- 'laws.FnExactOuterMatrix': WHATEVER THE INPUT: true; the input reads as it did. -/
def fnExactOuterMatrixSpec : ChangeSpec := { name := "fnExactOuterMatrix", fn := fun _ => fun
  | [d1, d2] => { results := [.lit (.bool true)], args := [d1, d2] }
  | _ => none }
def fnExactOuterMatrixRow : OpenClaim := { program := "ytgjfdfmbknmpaaa", sum := "d13b119f70c885c41217d5e92cfd327f1faee03ef86e464a9d633c88f7afdf09", func := "loop.example/g01327/laws.FnExactOuterMatrix", spec := "fnExactOuterMatrix", inPlace := ["math.Float64bits", "math.Float64frombits"], unfollowed := true, recurses := true, apart := false }
def FnExactOuterMatrixSaid : Prop := fnExactOuterMatrixRow.holds Try.pinned (OpenSpec.ofChange fnExactOuterMatrixSpec)

/-- ITS FALSE NEIGHBOUR: 'it returns false'. Refute it at one input. -/
def fnExactOuterMatrixWrong : ChangeSpec := { name := "fnExactOuterMatrix", fn := fun _ => fun
  | [d1, d2] => { results := [.lit (.bool false)], args := [d1, d2] }
  | _ => none }
def FnExactOuterMatrixWrongFalsely : Prop := fnExactOuterMatrixRow.holds Try.pinned (OpenSpec.ofChange fnExactOuterMatrixWrong)

/-- 'laws.FnExactSpanOfChain': WHATEVER THE INPUT: true; the input reads as it did. -/
def fnExactSpanOfChainSpec : ChangeSpec := { name := "fnExactSpanOfChain", fn := fun _ => fun
  | [d] => { results := [.lit (.bool true)], args := [d] }
  | _ => none }
def fnExactSpanOfChainRow : OpenClaim := { program := "ytgjfdfmbknmpaaa", sum := "d13b119f70c885c41217d5e92cfd327f1faee03ef86e464a9d633c88f7afdf09", func := "loop.example/g01327/laws.FnExactSpanOfChain", spec := "fnExactSpanOfChain", inPlace := ["math.Float64bits", "math.Float64frombits"], unfollowed := true, recurses := true, apart := false }
def FnExactSpanOfChainSaid : Prop := fnExactSpanOfChainRow.holds Try.pinned (OpenSpec.ofChange fnExactSpanOfChainSpec)

/-- ITS FALSE NEIGHBOUR: 'it returns false'. Refute it at one input. -/
def fnExactSpanOfChainWrong : ChangeSpec := { name := "fnExactSpanOfChain", fn := fun _ => fun
  | [d] => { results := [.lit (.bool false)], args := [d] }
  | _ => none }
def FnExactSpanOfChainWrongFalsely : Prop := fnExactSpanOfChainRow.holds Try.pinned (OpenSpec.ofChange fnExactSpanOfChainWrong)

/-- 'laws.FnExactFlipMatrix': WHATEVER THE INPUT: true; the input reads as it did. -/
def fnExactFlipMatrixSpec : ChangeSpec := { name := "fnExactFlipMatrix", fn := fun _ => fun
  | [d] => { results := [.lit (.bool true)], args := [d] }
  | _ => none }
def fnExactFlipMatrixRow : OpenClaim := { program := "ytgjfdfmbknmpaaa", sum := "d13b119f70c885c41217d5e92cfd327f1faee03ef86e464a9d633c88f7afdf09", func := "loop.example/g01327/laws.FnExactFlipMatrix", spec := "fnExactFlipMatrix", inPlace := ["math.Float64bits", "math.Float64frombits"], unfollowed := true, recurses := true, apart := false }
def FnExactFlipMatrixSaid : Prop := fnExactFlipMatrixRow.holds Try.pinned (OpenSpec.ofChange fnExactFlipMatrixSpec)

/-- ITS FALSE NEIGHBOUR: 'it returns false'. Refute it at one input. -/
def fnExactFlipMatrixWrong : ChangeSpec := { name := "fnExactFlipMatrix", fn := fun _ => fun
  | [d] => { results := [.lit (.bool false)], args := [d] }
  | _ => none }
def FnExactFlipMatrixWrongFalsely : Prop := fnExactFlipMatrixRow.holds Try.pinned (OpenSpec.ofChange fnExactFlipMatrixWrong)

/-- 'laws.FnExactPartOfMatrix': WHATEVER THE INPUT: true; the input reads as it did. -/
def fnExactPartOfMatrixSpec : ChangeSpec := { name := "fnExactPartOfMatrix", fn := fun _ => fun
  | [d1, d2, d3, d4, d5] => { results := [.lit (.bool true)], args := [d1, d2, d3, d4, d5] }
  | _ => none }
def fnExactPartOfMatrixRow : OpenClaim := { program := "ytgjfdfmbknmpaaa", sum := "d13b119f70c885c41217d5e92cfd327f1faee03ef86e464a9d633c88f7afdf09", func := "loop.example/g01327/laws.FnExactPartOfMatrix", spec := "fnExactPartOfMatrix", inPlace := ["math.Float64bits", "math.Float64frombits"], unfollowed := true, recurses := true, apart := false }
def FnExactPartOfMatrixSaid : Prop := fnExactPartOfMatrixRow.holds Try.pinned (OpenSpec.ofChange fnExactPartOfMatrixSpec)

/-- ITS FALSE NEIGHBOUR: 'it returns false'. Refute it at one input. -/
def fnExactPartOfMatrixWrong : ChangeSpec := { name := "fnExactPartOfMatrix", fn := fun _ => fun
  | [d1, d2, d3, d4, d5] => { results := [.lit (.bool false)], args := [d1, d2, d3, d4, d5] }
  | _ => none }
def FnExactPartOfMatrixWrongFalsely : Prop := fnExactPartOfMatrixRow.holds Try.pinned (OpenSpec.ofChange fnExactPartOfMatrixWrong)

/-- 'laws.FnExactLongResidual': WHATEVER THE INPUT: true; the input reads as it did. -/
def fnExactLongResidualSpec : ChangeSpec := { name := "fnExactLongResidual", fn := fun _ => fun
  | [d1, d2, d3] => { results := [.lit (.bool true)], args := [d1, d2, d3] }
  | _ => none }
def fnExactLongResidualRow : OpenClaim := { program := "ytgjfdfmbknmpaaa", sum := "d13b119f70c885c41217d5e92cfd327f1faee03ef86e464a9d633c88f7afdf09", func := "loop.example/g01327/laws.FnExactLongResidual", spec := "fnExactLongResidual", inPlace := ["math.Float64bits", "math.Float64frombits"], unfollowed := true, recurses := true, apart := false }
def FnExactLongResidualSaid : Prop := fnExactLongResidualRow.holds Try.pinned (OpenSpec.ofChange fnExactLongResidualSpec)

/-- ITS FALSE NEIGHBOUR: 'it returns false'. Refute it at one input. -/
def fnExactLongResidualWrong : ChangeSpec := { name := "fnExactLongResidual", fn := fun _ => fun
  | [d1, d2, d3] => { results := [.lit (.bool false)], args := [d1, d2, d3] }
  | _ => none }
def FnExactLongResidualWrongFalsely : Prop := fnExactLongResidualRow.holds Try.pinned (OpenSpec.ofChange fnExactLongResidualWrong)

/-- 'laws.FnExactWeighMatrices': WHATEVER THE INPUT: true; the input reads as it did. -/
def fnExactWeighMatricesSpec : ChangeSpec := { name := "fnExactWeighMatrices", fn := fun _ => fun
  | [d1, d2, d3, d4] => { results := [.lit (.bool true)], args := [d1, d2, d3, d4] }
  | _ => none }
def fnExactWeighMatricesRow : OpenClaim := { program := "ytgjfdfmbknmpaaa", sum := "d13b119f70c885c41217d5e92cfd327f1faee03ef86e464a9d633c88f7afdf09", func := "loop.example/g01327/laws.FnExactWeighMatrices", spec := "fnExactWeighMatrices", inPlace := ["math.Float64bits", "math.Float64frombits"], unfollowed := true, recurses := true, apart := false }
def FnExactWeighMatricesSaid : Prop := fnExactWeighMatricesRow.holds Try.pinned (OpenSpec.ofChange fnExactWeighMatricesSpec)

/-- ITS FALSE NEIGHBOUR: 'it returns false'. Refute it at one input. -/
def fnExactWeighMatricesWrong : ChangeSpec := { name := "fnExactWeighMatrices", fn := fun _ => fun
  | [d1, d2, d3, d4] => { results := [.lit (.bool false)], args := [d1, d2, d3, d4] }
  | _ => none }
def FnExactWeighMatricesWrongFalsely : Prop := fnExactWeighMatricesRow.holds Try.pinned (OpenSpec.ofChange fnExactWeighMatricesWrong)

/-- 'laws.FnExactSymmetricPart': WHATEVER THE INPUT: true; the input reads as it did. -/
def fnExactSymmetricPartSpec : ChangeSpec := { name := "fnExactSymmetricPart", fn := fun _ => fun
  | [d] => { results := [.lit (.bool true)], args := [d] }
  | _ => none }
def fnExactSymmetricPartRow : OpenClaim := { program := "ytgjfdfmbknmpaaa", sum := "d13b119f70c885c41217d5e92cfd327f1faee03ef86e464a9d633c88f7afdf09", func := "loop.example/g01327/laws.FnExactSymmetricPart", spec := "fnExactSymmetricPart", inPlace := ["math.Float64bits", "math.Float64frombits"], unfollowed := true, recurses := true, apart := false }
def FnExactSymmetricPartSaid : Prop := fnExactSymmetricPartRow.holds Try.pinned (OpenSpec.ofChange fnExactSymmetricPartSpec)

/-- ITS FALSE NEIGHBOUR: 'it returns false'. Refute it at one input. -/
def fnExactSymmetricPartWrong : ChangeSpec := { name := "fnExactSymmetricPart", fn := fun _ => fun
  | [d] => { results := [.lit (.bool false)], args := [d] }
  | _ => none }
def FnExactSymmetricPartWrongFalsely : Prop := fnExactSymmetricPartRow.holds Try.pinned (OpenSpec.ofChange fnExactSymmetricPartWrong)

/-- 'laws.FnExactKroneckerMatrix': WHATEVER THE INPUT: true; the input reads as it did. -/
def fnExactKroneckerMatrixSpec : ChangeSpec := { name := "fnExactKroneckerMatrix", fn := fun _ => fun
  | [d1, d2] => { results := [.lit (.bool true)], args := [d1, d2] }
  | _ => none }
def fnExactKroneckerMatrixRow : OpenClaim := { program := "ytgjfdfmbknmpaaa", sum := "d13b119f70c885c41217d5e92cfd327f1faee03ef86e464a9d633c88f7afdf09", func := "loop.example/g01327/laws.FnExactKroneckerMatrix", spec := "fnExactKroneckerMatrix", inPlace := ["math.Float64bits", "math.Float64frombits"], unfollowed := true, recurses := true, apart := false }
def FnExactKroneckerMatrixSaid : Prop := fnExactKroneckerMatrixRow.holds Try.pinned (OpenSpec.ofChange fnExactKroneckerMatrixSpec)

/-- ITS FALSE NEIGHBOUR: 'it returns false'. Refute it at one input. -/
def fnExactKroneckerMatrixWrong : ChangeSpec := { name := "fnExactKroneckerMatrix", fn := fun _ => fun
  | [d1, d2] => { results := [.lit (.bool false)], args := [d1, d2] }
  | _ => none }
def FnExactKroneckerMatrixWrongFalsely : Prop := fnExactKroneckerMatrixRow.holds Try.pinned (OpenSpec.ofChange fnExactKroneckerMatrixWrong)

/-- 'laws.FnExactSolveChain': WHATEVER THE INPUT: true; the input reads as it did. -/
def fnExactSolveChainSpec : ChangeSpec := { name := "fnExactSolveChain", fn := fun _ => fun
  | [d1, d2] => { results := [.lit (.bool true)], args := [d1, d2] }
  | _ => none }
def fnExactSolveChainRow : OpenClaim := { program := "ytgjfdfmbknmpaaa", sum := "d13b119f70c885c41217d5e92cfd327f1faee03ef86e464a9d633c88f7afdf09", func := "loop.example/g01327/laws.FnExactSolveChain", spec := "fnExactSolveChain", inPlace := ["math.Float64bits", "math.Float64frombits"], unfollowed := true, recurses := true, apart := false }
def FnExactSolveChainSaid : Prop := fnExactSolveChainRow.holds Try.pinned (OpenSpec.ofChange fnExactSolveChainSpec)

/-- ITS FALSE NEIGHBOUR: 'it returns false'. Refute it at one input. -/
def fnExactSolveChainWrong : ChangeSpec := { name := "fnExactSolveChain", fn := fun _ => fun
  | [d1, d2] => { results := [.lit (.bool false)], args := [d1, d2] }
  | _ => none }
def FnExactSolveChainWrongFalsely : Prop := fnExactSolveChainRow.holds Try.pinned (OpenSpec.ofChange fnExactSolveChainWrong)

/-- 'laws.FnExactColumnNorm': WHATEVER THE INPUT: true; the input reads as it did. -/
def fnExactColumnNormSpec : ChangeSpec := { name := "fnExactColumnNorm", fn := fun _ => fun
  | [d] => { results := [.lit (.bool true)], args := [d] }
  | _ => none }
def fnExactColumnNormRow : OpenClaim := { program := "ytgjfdfmbknmpaaa", sum := "d13b119f70c885c41217d5e92cfd327f1faee03ef86e464a9d633c88f7afdf09", func := "loop.example/g01327/laws.FnExactColumnNorm", spec := "fnExactColumnNorm", inPlace := ["math.Float64bits", "math.Float64frombits"], unfollowed := true, recurses := true, apart := false }
def FnExactColumnNormSaid : Prop := fnExactColumnNormRow.holds Try.pinned (OpenSpec.ofChange fnExactColumnNormSpec)

/-- ITS FALSE NEIGHBOUR: 'it returns false'. Refute it at one input. -/
def fnExactColumnNormWrong : ChangeSpec := { name := "fnExactColumnNorm", fn := fun _ => fun
  | [d] => { results := [.lit (.bool false)], args := [d] }
  | _ => none }
def FnExactColumnNormWrongFalsely : Prop := fnExactColumnNormRow.holds Try.pinned (OpenSpec.ofChange fnExactColumnNormWrong)

/-- 'laws.FnExactChainMatrix': WHATEVER THE INPUT: true; the input reads as it did. -/
def fnExactChainMatrixSpec : ChangeSpec := { name := "fnExactChainMatrix", fn := fun _ => fun
  | [d] => { results := [.lit (.bool true)], args := [d] }
  | _ => none }
def fnExactChainMatrixRow : OpenClaim := { program := "ytgjfdfmbknmpaaa", sum := "d13b119f70c885c41217d5e92cfd327f1faee03ef86e464a9d633c88f7afdf09", func := "loop.example/g01327/laws.FnExactChainMatrix", spec := "fnExactChainMatrix", inPlace := ["math.Float64bits", "math.Float64frombits"], unfollowed := true, recurses := true, apart := false }
def FnExactChainMatrixSaid : Prop := fnExactChainMatrixRow.holds Try.pinned (OpenSpec.ofChange fnExactChainMatrixSpec)

/-- ITS FALSE NEIGHBOUR: 'it returns false'. Refute it at one input. -/
def fnExactChainMatrixWrong : ChangeSpec := { name := "fnExactChainMatrix", fn := fun _ => fun
  | [d] => { results := [.lit (.bool false)], args := [d] }
  | _ => none }
def FnExactChainMatrixWrongFalsely : Prop := fnExactChainMatrixRow.holds Try.pinned (OpenSpec.ofChange fnExactChainMatrixWrong)

/-- 'laws.FnExactTimesVector': WHATEVER THE INPUT: true; the input reads as it did. -/
def fnExactTimesVectorSpec : ChangeSpec := { name := "fnExactTimesVector", fn := fun _ => fun
  | [d1, d2] => { results := [.lit (.bool true)], args := [d1, d2] }
  | _ => none }
def fnExactTimesVectorRow : OpenClaim := { program := "ytgjfdfmbknmpaaa", sum := "d13b119f70c885c41217d5e92cfd327f1faee03ef86e464a9d633c88f7afdf09", func := "loop.example/g01327/laws.FnExactTimesVector", spec := "fnExactTimesVector", inPlace := ["math.Float64bits", "math.Float64frombits"], unfollowed := true, recurses := true, apart := false }
def FnExactTimesVectorSaid : Prop := fnExactTimesVectorRow.holds Try.pinned (OpenSpec.ofChange fnExactTimesVectorSpec)

/-- ITS FALSE NEIGHBOUR: 'it returns false'. Refute it at one input. -/
def fnExactTimesVectorWrong : ChangeSpec := { name := "fnExactTimesVector", fn := fun _ => fun
  | [d1, d2] => { results := [.lit (.bool false)], args := [d1, d2] }
  | _ => none }
def FnExactTimesVectorWrongFalsely : Prop := fnExactTimesVectorRow.holds Try.pinned (OpenSpec.ofChange fnExactTimesVectorWrong)

/-- 'laws.FnExactUnitVector': WHATEVER THE INPUT: true; the input reads as it did. -/
def fnExactUnitVectorSpec : ChangeSpec := { name := "fnExactUnitVector", fn := fun _ => fun
  | [d] => { results := [.lit (.bool true)], args := [d] }
  | _ => none }
def fnExactUnitVectorRow : OpenClaim := { program := "ytgjfdfmbknmpaaa", sum := "d13b119f70c885c41217d5e92cfd327f1faee03ef86e464a9d633c88f7afdf09", func := "loop.example/g01327/laws.FnExactUnitVector", spec := "fnExactUnitVector", inPlace := ["math.sqrt", "math.Float64bits", "math.Float64frombits"], unfollowed := true, recurses := true, apart := false }
def FnExactUnitVectorSaid : Prop := fnExactUnitVectorRow.holds Try.pinned (OpenSpec.ofChange fnExactUnitVectorSpec)

/-- ITS FALSE NEIGHBOUR: 'it returns false'. Refute it at one input. -/
def fnExactUnitVectorWrong : ChangeSpec := { name := "fnExactUnitVector", fn := fun _ => fun
  | [d] => { results := [.lit (.bool false)], args := [d] }
  | _ => none }
def FnExactUnitVectorWrongFalsely : Prop := fnExactUnitVectorRow.holds Try.pinned (OpenSpec.ofChange fnExactUnitVectorWrong)

/-- 'laws.FnExactOffNorm': WHATEVER THE INPUT: true; the input reads as it did. -/
def fnExactOffNormSpec : ChangeSpec := { name := "fnExactOffNorm", fn := fun _ => fun
  | [d] => { results := [.lit (.bool true)], args := [d] }
  | _ => none }
def fnExactOffNormRow : OpenClaim := { program := "ytgjfdfmbknmpaaa", sum := "d13b119f70c885c41217d5e92cfd327f1faee03ef86e464a9d633c88f7afdf09", func := "loop.example/g01327/laws.FnExactOffNorm", spec := "fnExactOffNorm", inPlace := ["math.sqrt", "math.Float64bits", "math.Float64frombits"], unfollowed := true, recurses := true, apart := false }
def FnExactOffNormSaid : Prop := fnExactOffNormRow.holds Try.pinned (OpenSpec.ofChange fnExactOffNormSpec)

/-- ITS FALSE NEIGHBOUR: 'it returns false'. Refute it at one input. -/
def fnExactOffNormWrong : ChangeSpec := { name := "fnExactOffNorm", fn := fun _ => fun
  | [d] => { results := [.lit (.bool false)], args := [d] }
  | _ => none }
def FnExactOffNormWrongFalsely : Prop := fnExactOffNormRow.holds Try.pinned (OpenSpec.ofChange fnExactOffNormWrong)

/-- 'laws.FnExactRayleighOf': WHATEVER THE INPUT: true; the input reads as it did. -/
def fnExactRayleighOfSpec : ChangeSpec := { name := "fnExactRayleighOf", fn := fun _ => fun
  | [d1, d2] => { results := [.lit (.bool true)], args := [d1, d2] }
  | _ => none }
def fnExactRayleighOfRow : OpenClaim := { program := "ytgjfdfmbknmpaaa", sum := "d13b119f70c885c41217d5e92cfd327f1faee03ef86e464a9d633c88f7afdf09", func := "loop.example/g01327/laws.FnExactRayleighOf", spec := "fnExactRayleighOf", inPlace := ["math.Float64bits", "math.Float64frombits"], unfollowed := true, recurses := true, apart := false }
def FnExactRayleighOfSaid : Prop := fnExactRayleighOfRow.holds Try.pinned (OpenSpec.ofChange fnExactRayleighOfSpec)

/-- ITS FALSE NEIGHBOUR: 'it returns false'. Refute it at one input. -/
def fnExactRayleighOfWrong : ChangeSpec := { name := "fnExactRayleighOf", fn := fun _ => fun
  | [d1, d2] => { results := [.lit (.bool false)], args := [d1, d2] }
  | _ => none }
def FnExactRayleighOfWrongFalsely : Prop := fnExactRayleighOfRow.holds Try.pinned (OpenSpec.ofChange fnExactRayleighOfWrong)

/-- 'laws.FnExactUpperSolve': WHATEVER THE INPUT: true; the input reads as it did. -/
def fnExactUpperSolveSpec : ChangeSpec := { name := "fnExactUpperSolve", fn := fun _ => fun
  | [d1, d2] => { results := [.lit (.bool true)], args := [d1, d2] }
  | _ => none }
def fnExactUpperSolveRow : OpenClaim := { program := "ytgjfdfmbknmpaaa", sum := "d13b119f70c885c41217d5e92cfd327f1faee03ef86e464a9d633c88f7afdf09", func := "loop.example/g01327/laws.FnExactUpperSolve", spec := "fnExactUpperSolve", inPlace := ["math.Float64bits", "math.Float64frombits"], unfollowed := true, recurses := true, apart := false }
def FnExactUpperSolveSaid : Prop := fnExactUpperSolveRow.holds Try.pinned (OpenSpec.ofChange fnExactUpperSolveSpec)

/-- ITS FALSE NEIGHBOUR: 'it returns false'. Refute it at one input. -/
def fnExactUpperSolveWrong : ChangeSpec := { name := "fnExactUpperSolve", fn := fun _ => fun
  | [d1, d2] => { results := [.lit (.bool false)], args := [d1, d2] }
  | _ => none }
def FnExactUpperSolveWrongFalsely : Prop := fnExactUpperSolveRow.holds Try.pinned (OpenSpec.ofChange fnExactUpperSolveWrong)

/-- 'laws.FnExactRootSolve': WHATEVER THE INPUT: true; the input reads as it did. -/
def fnExactRootSolveSpec : ChangeSpec := { name := "fnExactRootSolve", fn := fun _ => fun
  | [d1, d2] => { results := [.lit (.bool true)], args := [d1, d2] }
  | _ => none }
def fnExactRootSolveRow : OpenClaim := { program := "ytgjfdfmbknmpaaa", sum := "d13b119f70c885c41217d5e92cfd327f1faee03ef86e464a9d633c88f7afdf09", func := "loop.example/g01327/laws.FnExactRootSolve", spec := "fnExactRootSolve", inPlace := ["math.Float64bits", "math.Float64frombits"], unfollowed := true, recurses := true, apart := false }
def FnExactRootSolveSaid : Prop := fnExactRootSolveRow.holds Try.pinned (OpenSpec.ofChange fnExactRootSolveSpec)

/-- ITS FALSE NEIGHBOUR: 'it returns false'. Refute it at one input. -/
def fnExactRootSolveWrong : ChangeSpec := { name := "fnExactRootSolve", fn := fun _ => fun
  | [d1, d2] => { results := [.lit (.bool false)], args := [d1, d2] }
  | _ => none }
def FnExactRootSolveWrongFalsely : Prop := fnExactRootSolveRow.holds Try.pinned (OpenSpec.ofChange fnExactRootSolveWrong)

/-- 'laws.FnExactMulMatrices': WHATEVER THE INPUT: true; the input reads as it did. -/
def fnExactMulMatricesSpec : ChangeSpec := { name := "fnExactMulMatrices", fn := fun _ => fun
  | [d1, d2] => { results := [.lit (.bool true)], args := [d1, d2] }
  | _ => none }
def fnExactMulMatricesRow : OpenClaim := { program := "ytgjfdfmbknmpaaa", sum := "d13b119f70c885c41217d5e92cfd327f1faee03ef86e464a9d633c88f7afdf09", func := "loop.example/g01327/laws.FnExactMulMatrices", spec := "fnExactMulMatrices", inPlace := ["math.Float64bits", "math.Float64frombits"], unfollowed := true, recurses := true, apart := false }
def FnExactMulMatricesSaid : Prop := fnExactMulMatricesRow.holds Try.pinned (OpenSpec.ofChange fnExactMulMatricesSpec)

/-- ITS FALSE NEIGHBOUR: 'it returns false'. Refute it at one input. -/
def fnExactMulMatricesWrong : ChangeSpec := { name := "fnExactMulMatrices", fn := fun _ => fun
  | [d1, d2] => { results := [.lit (.bool false)], args := [d1, d2] }
  | _ => none }
def FnExactMulMatricesWrongFalsely : Prop := fnExactMulMatricesRow.holds Try.pinned (OpenSpec.ofChange fnExactMulMatricesWrong)

/-- 'laws.FnExactCosineOf': WHATEVER THE INPUT: true; the input reads as it did. -/
def fnExactCosineOfSpec : ChangeSpec := { name := "fnExactCosineOf", fn := fun _ => fun
  | [d1, d2] => { results := [.lit (.bool true)], args := [d1, d2] }
  | _ => none }
def fnExactCosineOfRow : OpenClaim := { program := "ytgjfdfmbknmpaaa", sum := "d13b119f70c885c41217d5e92cfd327f1faee03ef86e464a9d633c88f7afdf09", func := "loop.example/g01327/laws.FnExactCosineOf", spec := "fnExactCosineOf", inPlace := ["math.sqrt", "math.Float64bits", "math.Float64frombits"], unfollowed := true, recurses := true, apart := false }
def FnExactCosineOfSaid : Prop := fnExactCosineOfRow.holds Try.pinned (OpenSpec.ofChange fnExactCosineOfSpec)

/-- ITS FALSE NEIGHBOUR: 'it returns false'. Refute it at one input. -/
def fnExactCosineOfWrong : ChangeSpec := { name := "fnExactCosineOf", fn := fun _ => fun
  | [d1, d2] => { results := [.lit (.bool false)], args := [d1, d2] }
  | _ => none }
def FnExactCosineOfWrongFalsely : Prop := fnExactCosineOfRow.holds Try.pinned (OpenSpec.ofChange fnExactCosineOfWrong)

/-- 'laws.FnExactValueOfChain': WHATEVER THE INPUT: true; the input reads as it did. -/
def fnExactValueOfChainSpec : ChangeSpec := { name := "fnExactValueOfChain", fn := fun _ => fun
  | [d1, d2] => { results := [.lit (.bool true)], args := [d1, d2] }
  | _ => none }
def fnExactValueOfChainRow : OpenClaim := { program := "ytgjfdfmbknmpaaa", sum := "d13b119f70c885c41217d5e92cfd327f1faee03ef86e464a9d633c88f7afdf09", func := "loop.example/g01327/laws.FnExactValueOfChain", spec := "fnExactValueOfChain", inPlace := ["math.Float64bits", "math.Float64frombits"], unfollowed := true, recurses := true, apart := false }
def FnExactValueOfChainSaid : Prop := fnExactValueOfChainRow.holds Try.pinned (OpenSpec.ofChange fnExactValueOfChainSpec)

/-- ITS FALSE NEIGHBOUR: 'it returns false'. Refute it at one input. -/
def fnExactValueOfChainWrong : ChangeSpec := { name := "fnExactValueOfChain", fn := fun _ => fun
  | [d1, d2] => { results := [.lit (.bool false)], args := [d1, d2] }
  | _ => none }
def FnExactValueOfChainWrongFalsely : Prop := fnExactValueOfChainRow.holds Try.pinned (OpenSpec.ofChange fnExactValueOfChainWrong)

/-- 'laws.FnExactValuesOfChain': WHATEVER THE INPUT: true; the input reads as it did. -/
def fnExactValuesOfChainSpec : ChangeSpec := { name := "fnExactValuesOfChain", fn := fun _ => fun
  | [d] => { results := [.lit (.bool true)], args := [d] }
  | _ => none }
def fnExactValuesOfChainRow : OpenClaim := { program := "ytgjfdfmbknmpaaa", sum := "d13b119f70c885c41217d5e92cfd327f1faee03ef86e464a9d633c88f7afdf09", func := "loop.example/g01327/laws.FnExactValuesOfChain", spec := "fnExactValuesOfChain", inPlace := ["math.Float64bits", "math.Float64frombits"], unfollowed := true, recurses := true, apart := false }
def FnExactValuesOfChainSaid : Prop := fnExactValuesOfChainRow.holds Try.pinned (OpenSpec.ofChange fnExactValuesOfChainSpec)

/-- ITS FALSE NEIGHBOUR: 'it returns false'. Refute it at one input. -/
def fnExactValuesOfChainWrong : ChangeSpec := { name := "fnExactValuesOfChain", fn := fun _ => fun
  | [d] => { results := [.lit (.bool false)], args := [d] }
  | _ => none }
def FnExactValuesOfChainWrongFalsely : Prop := fnExactValuesOfChainRow.holds Try.pinned (OpenSpec.ofChange fnExactValuesOfChainWrong)

/- THE SECOND FORM. 'bulk': how many values and letters a reading holds, each counted each time it is reached (what is shared counts as often as it is met; a slice's spare places count too). A statement '..UptoSaid' is the law's where the arguments, and the package variables that the reading takes, are together of bulk at most 1048576: NARROWER than '..Said'. Prove '..Said' where nothing that the law and all that it calls make is longer than what came in: it says more and counts as full. Else prove '..UptoSaid'. A law counts once. -/
mutual
def uptoBulk {H : Type} : DataW H → Nat
  | .lit (.string bytes) => bytes.length + 1
  | .lit _ => 1
  | .nil => 1
  | .ptr d => uptoBulk d + 1
  | .slice elems spare => uptoBulkAll elems + uptoBulkAll spare + 1
  | .agg parts => uptoBulkAll parts + 1
  | .iface _ d => uptoBulk d + 1
  | .map entries => uptoBulkEntries entries + 1
  | .held _ => 1
def uptoBulkAll {H : Type} : List (DataW H) → Nat
  | [] => 0
  | d :: r => uptoBulk d + uptoBulkAll r
def uptoBulkEntries {H : Type} : List (Lit × DataW H) → Nat
  | [] => 0
  | x :: r => uptoBulkEntry x + uptoBulkEntries r
def uptoBulkEntry {H : Type} : Lit × DataW H → Nat
  | (.string bytes, d) => bytes.length + uptoBulk d + 1
  | (_, d) => uptoBulk d + 1
 end
def uptoSmall : (H : Type) → List (DataW H) → Bool := fun _ ds => decide (uptoBulkAll ds ≤ 1048576)
def OpenSpec.upto (s : _root_.Go.ChangeSpec) : _root_.Go.OpenSpec := { _root_.Go.OpenSpec.ofChange s with cond := some uptoSmall }

/-- 'laws.FnExactValidChain', WHERE WHAT IT READS IS OF BULK AT MOST 1048576: true; the input reads as it did. -/
def fnExactValidChainUptoRow : OpenClaim := { program := "ytgjfdfmbknmpaaa", sum := "d13b119f70c885c41217d5e92cfd327f1faee03ef86e464a9d633c88f7afdf09", func := "loop.example/g01327/laws.FnExactValidChain", spec := "fnExactValidChain", inPlace := ["math.Float64bits", "math.Float64frombits"], unfollowed := true, recurses := true, apart := false, narrowed := true }
def FnExactValidChainUptoSaid : Prop := fnExactValidChainUptoRow.holds Try.pinned (OpenSpec.upto fnExactValidChainSpec)

/-- 'laws.FnExactIsSymmetric', WHERE WHAT IT READS IS OF BULK AT MOST 1048576: true; the input reads as it did. -/
def fnExactIsSymmetricUptoRow : OpenClaim := { program := "ytgjfdfmbknmpaaa", sum := "d13b119f70c885c41217d5e92cfd327f1faee03ef86e464a9d633c88f7afdf09", func := "loop.example/g01327/laws.FnExactIsSymmetric", spec := "fnExactIsSymmetric", inPlace := ["math.Float64bits", "math.Float64frombits"], unfollowed := true, recurses := true, apart := false, narrowed := true }
def FnExactIsSymmetricUptoSaid : Prop := fnExactIsSymmetricUptoRow.holds Try.pinned (OpenSpec.upto fnExactIsSymmetricSpec)

/-- 'laws.FnExactTraceOf', WHERE WHAT IT READS IS OF BULK AT MOST 1048576: true; the input reads as it did. -/
def fnExactTraceOfUptoRow : OpenClaim := { program := "ytgjfdfmbknmpaaa", sum := "d13b119f70c885c41217d5e92cfd327f1faee03ef86e464a9d633c88f7afdf09", func := "loop.example/g01327/laws.FnExactTraceOf", spec := "fnExactTraceOf", inPlace := ["math.Float64bits", "math.Float64frombits"], unfollowed := true, recurses := true, apart := false, narrowed := true }
def FnExactTraceOfUptoSaid : Prop := fnExactTraceOfUptoRow.holds Try.pinned (OpenSpec.upto fnExactTraceOfSpec)

/-- 'laws.FnExactCompanionMatrix', WHERE WHAT IT READS IS OF BULK AT MOST 1048576: true; the input reads as it did. -/
def fnExactCompanionMatrixUptoRow : OpenClaim := { program := "ytgjfdfmbknmpaaa", sum := "d13b119f70c885c41217d5e92cfd327f1faee03ef86e464a9d633c88f7afdf09", func := "loop.example/g01327/laws.FnExactCompanionMatrix", spec := "fnExactCompanionMatrix", inPlace := ["math.Float64bits", "math.Float64frombits"], unfollowed := true, recurses := true, apart := false, narrowed := true }
def FnExactCompanionMatrixUptoSaid : Prop := fnExactCompanionMatrixUptoRow.holds Try.pinned (OpenSpec.upto fnExactCompanionMatrixSpec)

/-- 'laws.FnExactCountBelow', WHERE WHAT IT READS IS OF BULK AT MOST 1048576: true; the input reads as it did. -/
def fnExactCountBelowUptoRow : OpenClaim := { program := "ytgjfdfmbknmpaaa", sum := "d13b119f70c885c41217d5e92cfd327f1faee03ef86e464a9d633c88f7afdf09", func := "loop.example/g01327/laws.FnExactCountBelow", spec := "fnExactCountBelow", inPlace := ["math.Float64bits", "math.Float64frombits"], unfollowed := true, recurses := true, apart := false, narrowed := true }
def FnExactCountBelowUptoSaid : Prop := fnExactCountBelowUptoRow.holds Try.pinned (OpenSpec.upto fnExactCountBelowSpec)

/-- 'laws.FnExactRowNorm', WHERE WHAT IT READS IS OF BULK AT MOST 1048576: true; the input reads as it did. -/
def fnExactRowNormUptoRow : OpenClaim := { program := "ytgjfdfmbknmpaaa", sum := "d13b119f70c885c41217d5e92cfd327f1faee03ef86e464a9d633c88f7afdf09", func := "loop.example/g01327/laws.FnExactRowNorm", spec := "fnExactRowNorm", inPlace := ["math.Float64bits", "math.Float64frombits"], unfollowed := true, recurses := true, apart := false, narrowed := true }
def FnExactRowNormUptoSaid : Prop := fnExactRowNormUptoRow.holds Try.pinned (OpenSpec.upto fnExactRowNormSpec)

/-- 'laws.FnExactOuterMatrix', WHERE WHAT IT READS IS OF BULK AT MOST 1048576: true; the input reads as it did. -/
def fnExactOuterMatrixUptoRow : OpenClaim := { program := "ytgjfdfmbknmpaaa", sum := "d13b119f70c885c41217d5e92cfd327f1faee03ef86e464a9d633c88f7afdf09", func := "loop.example/g01327/laws.FnExactOuterMatrix", spec := "fnExactOuterMatrix", inPlace := ["math.Float64bits", "math.Float64frombits"], unfollowed := true, recurses := true, apart := false, narrowed := true }
def FnExactOuterMatrixUptoSaid : Prop := fnExactOuterMatrixUptoRow.holds Try.pinned (OpenSpec.upto fnExactOuterMatrixSpec)

/-- 'laws.FnExactSpanOfChain', WHERE WHAT IT READS IS OF BULK AT MOST 1048576: true; the input reads as it did. -/
def fnExactSpanOfChainUptoRow : OpenClaim := { program := "ytgjfdfmbknmpaaa", sum := "d13b119f70c885c41217d5e92cfd327f1faee03ef86e464a9d633c88f7afdf09", func := "loop.example/g01327/laws.FnExactSpanOfChain", spec := "fnExactSpanOfChain", inPlace := ["math.Float64bits", "math.Float64frombits"], unfollowed := true, recurses := true, apart := false, narrowed := true }
def FnExactSpanOfChainUptoSaid : Prop := fnExactSpanOfChainUptoRow.holds Try.pinned (OpenSpec.upto fnExactSpanOfChainSpec)

/-- 'laws.FnExactFlipMatrix', WHERE WHAT IT READS IS OF BULK AT MOST 1048576: true; the input reads as it did. -/
def fnExactFlipMatrixUptoRow : OpenClaim := { program := "ytgjfdfmbknmpaaa", sum := "d13b119f70c885c41217d5e92cfd327f1faee03ef86e464a9d633c88f7afdf09", func := "loop.example/g01327/laws.FnExactFlipMatrix", spec := "fnExactFlipMatrix", inPlace := ["math.Float64bits", "math.Float64frombits"], unfollowed := true, recurses := true, apart := false, narrowed := true }
def FnExactFlipMatrixUptoSaid : Prop := fnExactFlipMatrixUptoRow.holds Try.pinned (OpenSpec.upto fnExactFlipMatrixSpec)

/-- 'laws.FnExactPartOfMatrix', WHERE WHAT IT READS IS OF BULK AT MOST 1048576: true; the input reads as it did. -/
def fnExactPartOfMatrixUptoRow : OpenClaim := { program := "ytgjfdfmbknmpaaa", sum := "d13b119f70c885c41217d5e92cfd327f1faee03ef86e464a9d633c88f7afdf09", func := "loop.example/g01327/laws.FnExactPartOfMatrix", spec := "fnExactPartOfMatrix", inPlace := ["math.Float64bits", "math.Float64frombits"], unfollowed := true, recurses := true, apart := false, narrowed := true }
def FnExactPartOfMatrixUptoSaid : Prop := fnExactPartOfMatrixUptoRow.holds Try.pinned (OpenSpec.upto fnExactPartOfMatrixSpec)

/-- 'laws.FnExactLongResidual', WHERE WHAT IT READS IS OF BULK AT MOST 1048576: true; the input reads as it did. -/
def fnExactLongResidualUptoRow : OpenClaim := { program := "ytgjfdfmbknmpaaa", sum := "d13b119f70c885c41217d5e92cfd327f1faee03ef86e464a9d633c88f7afdf09", func := "loop.example/g01327/laws.FnExactLongResidual", spec := "fnExactLongResidual", inPlace := ["math.Float64bits", "math.Float64frombits"], unfollowed := true, recurses := true, apart := false, narrowed := true }
def FnExactLongResidualUptoSaid : Prop := fnExactLongResidualUptoRow.holds Try.pinned (OpenSpec.upto fnExactLongResidualSpec)

/-- 'laws.FnExactWeighMatrices', WHERE WHAT IT READS IS OF BULK AT MOST 1048576: true; the input reads as it did. -/
def fnExactWeighMatricesUptoRow : OpenClaim := { program := "ytgjfdfmbknmpaaa", sum := "d13b119f70c885c41217d5e92cfd327f1faee03ef86e464a9d633c88f7afdf09", func := "loop.example/g01327/laws.FnExactWeighMatrices", spec := "fnExactWeighMatrices", inPlace := ["math.Float64bits", "math.Float64frombits"], unfollowed := true, recurses := true, apart := false, narrowed := true }
def FnExactWeighMatricesUptoSaid : Prop := fnExactWeighMatricesUptoRow.holds Try.pinned (OpenSpec.upto fnExactWeighMatricesSpec)

/-- 'laws.FnExactSymmetricPart', WHERE WHAT IT READS IS OF BULK AT MOST 1048576: true; the input reads as it did. -/
def fnExactSymmetricPartUptoRow : OpenClaim := { program := "ytgjfdfmbknmpaaa", sum := "d13b119f70c885c41217d5e92cfd327f1faee03ef86e464a9d633c88f7afdf09", func := "loop.example/g01327/laws.FnExactSymmetricPart", spec := "fnExactSymmetricPart", inPlace := ["math.Float64bits", "math.Float64frombits"], unfollowed := true, recurses := true, apart := false, narrowed := true }
def FnExactSymmetricPartUptoSaid : Prop := fnExactSymmetricPartUptoRow.holds Try.pinned (OpenSpec.upto fnExactSymmetricPartSpec)

/-- 'laws.FnExactKroneckerMatrix', WHERE WHAT IT READS IS OF BULK AT MOST 1048576: true; the input reads as it did. -/
def fnExactKroneckerMatrixUptoRow : OpenClaim := { program := "ytgjfdfmbknmpaaa", sum := "d13b119f70c885c41217d5e92cfd327f1faee03ef86e464a9d633c88f7afdf09", func := "loop.example/g01327/laws.FnExactKroneckerMatrix", spec := "fnExactKroneckerMatrix", inPlace := ["math.Float64bits", "math.Float64frombits"], unfollowed := true, recurses := true, apart := false, narrowed := true }
def FnExactKroneckerMatrixUptoSaid : Prop := fnExactKroneckerMatrixUptoRow.holds Try.pinned (OpenSpec.upto fnExactKroneckerMatrixSpec)

/-- 'laws.FnExactSolveChain', WHERE WHAT IT READS IS OF BULK AT MOST 1048576: true; the input reads as it did. -/
def fnExactSolveChainUptoRow : OpenClaim := { program := "ytgjfdfmbknmpaaa", sum := "d13b119f70c885c41217d5e92cfd327f1faee03ef86e464a9d633c88f7afdf09", func := "loop.example/g01327/laws.FnExactSolveChain", spec := "fnExactSolveChain", inPlace := ["math.Float64bits", "math.Float64frombits"], unfollowed := true, recurses := true, apart := false, narrowed := true }
def FnExactSolveChainUptoSaid : Prop := fnExactSolveChainUptoRow.holds Try.pinned (OpenSpec.upto fnExactSolveChainSpec)

/-- 'laws.FnExactColumnNorm', WHERE WHAT IT READS IS OF BULK AT MOST 1048576: true; the input reads as it did. -/
def fnExactColumnNormUptoRow : OpenClaim := { program := "ytgjfdfmbknmpaaa", sum := "d13b119f70c885c41217d5e92cfd327f1faee03ef86e464a9d633c88f7afdf09", func := "loop.example/g01327/laws.FnExactColumnNorm", spec := "fnExactColumnNorm", inPlace := ["math.Float64bits", "math.Float64frombits"], unfollowed := true, recurses := true, apart := false, narrowed := true }
def FnExactColumnNormUptoSaid : Prop := fnExactColumnNormUptoRow.holds Try.pinned (OpenSpec.upto fnExactColumnNormSpec)

/-- 'laws.FnExactChainMatrix', WHERE WHAT IT READS IS OF BULK AT MOST 1048576: true; the input reads as it did. -/
def fnExactChainMatrixUptoRow : OpenClaim := { program := "ytgjfdfmbknmpaaa", sum := "d13b119f70c885c41217d5e92cfd327f1faee03ef86e464a9d633c88f7afdf09", func := "loop.example/g01327/laws.FnExactChainMatrix", spec := "fnExactChainMatrix", inPlace := ["math.Float64bits", "math.Float64frombits"], unfollowed := true, recurses := true, apart := false, narrowed := true }
def FnExactChainMatrixUptoSaid : Prop := fnExactChainMatrixUptoRow.holds Try.pinned (OpenSpec.upto fnExactChainMatrixSpec)

/-- 'laws.FnExactTimesVector', WHERE WHAT IT READS IS OF BULK AT MOST 1048576: true; the input reads as it did. -/
def fnExactTimesVectorUptoRow : OpenClaim := { program := "ytgjfdfmbknmpaaa", sum := "d13b119f70c885c41217d5e92cfd327f1faee03ef86e464a9d633c88f7afdf09", func := "loop.example/g01327/laws.FnExactTimesVector", spec := "fnExactTimesVector", inPlace := ["math.Float64bits", "math.Float64frombits"], unfollowed := true, recurses := true, apart := false, narrowed := true }
def FnExactTimesVectorUptoSaid : Prop := fnExactTimesVectorUptoRow.holds Try.pinned (OpenSpec.upto fnExactTimesVectorSpec)

/-- 'laws.FnExactUnitVector', WHERE WHAT IT READS IS OF BULK AT MOST 1048576: true; the input reads as it did. -/
def fnExactUnitVectorUptoRow : OpenClaim := { program := "ytgjfdfmbknmpaaa", sum := "d13b119f70c885c41217d5e92cfd327f1faee03ef86e464a9d633c88f7afdf09", func := "loop.example/g01327/laws.FnExactUnitVector", spec := "fnExactUnitVector", inPlace := ["math.sqrt", "math.Float64bits", "math.Float64frombits"], unfollowed := true, recurses := true, apart := false, narrowed := true }
def FnExactUnitVectorUptoSaid : Prop := fnExactUnitVectorUptoRow.holds Try.pinned (OpenSpec.upto fnExactUnitVectorSpec)

/-- 'laws.FnExactOffNorm', WHERE WHAT IT READS IS OF BULK AT MOST 1048576: true; the input reads as it did. -/
def fnExactOffNormUptoRow : OpenClaim := { program := "ytgjfdfmbknmpaaa", sum := "d13b119f70c885c41217d5e92cfd327f1faee03ef86e464a9d633c88f7afdf09", func := "loop.example/g01327/laws.FnExactOffNorm", spec := "fnExactOffNorm", inPlace := ["math.sqrt", "math.Float64bits", "math.Float64frombits"], unfollowed := true, recurses := true, apart := false, narrowed := true }
def FnExactOffNormUptoSaid : Prop := fnExactOffNormUptoRow.holds Try.pinned (OpenSpec.upto fnExactOffNormSpec)

/-- 'laws.FnExactRayleighOf', WHERE WHAT IT READS IS OF BULK AT MOST 1048576: true; the input reads as it did. -/
def fnExactRayleighOfUptoRow : OpenClaim := { program := "ytgjfdfmbknmpaaa", sum := "d13b119f70c885c41217d5e92cfd327f1faee03ef86e464a9d633c88f7afdf09", func := "loop.example/g01327/laws.FnExactRayleighOf", spec := "fnExactRayleighOf", inPlace := ["math.Float64bits", "math.Float64frombits"], unfollowed := true, recurses := true, apart := false, narrowed := true }
def FnExactRayleighOfUptoSaid : Prop := fnExactRayleighOfUptoRow.holds Try.pinned (OpenSpec.upto fnExactRayleighOfSpec)

/-- 'laws.FnExactUpperSolve', WHERE WHAT IT READS IS OF BULK AT MOST 1048576: true; the input reads as it did. -/
def fnExactUpperSolveUptoRow : OpenClaim := { program := "ytgjfdfmbknmpaaa", sum := "d13b119f70c885c41217d5e92cfd327f1faee03ef86e464a9d633c88f7afdf09", func := "loop.example/g01327/laws.FnExactUpperSolve", spec := "fnExactUpperSolve", inPlace := ["math.Float64bits", "math.Float64frombits"], unfollowed := true, recurses := true, apart := false, narrowed := true }
def FnExactUpperSolveUptoSaid : Prop := fnExactUpperSolveUptoRow.holds Try.pinned (OpenSpec.upto fnExactUpperSolveSpec)

/-- 'laws.FnExactRootSolve', WHERE WHAT IT READS IS OF BULK AT MOST 1048576: true; the input reads as it did. -/
def fnExactRootSolveUptoRow : OpenClaim := { program := "ytgjfdfmbknmpaaa", sum := "d13b119f70c885c41217d5e92cfd327f1faee03ef86e464a9d633c88f7afdf09", func := "loop.example/g01327/laws.FnExactRootSolve", spec := "fnExactRootSolve", inPlace := ["math.Float64bits", "math.Float64frombits"], unfollowed := true, recurses := true, apart := false, narrowed := true }
def FnExactRootSolveUptoSaid : Prop := fnExactRootSolveUptoRow.holds Try.pinned (OpenSpec.upto fnExactRootSolveSpec)

/-- 'laws.FnExactMulMatrices', WHERE WHAT IT READS IS OF BULK AT MOST 1048576: true; the input reads as it did. -/
def fnExactMulMatricesUptoRow : OpenClaim := { program := "ytgjfdfmbknmpaaa", sum := "d13b119f70c885c41217d5e92cfd327f1faee03ef86e464a9d633c88f7afdf09", func := "loop.example/g01327/laws.FnExactMulMatrices", spec := "fnExactMulMatrices", inPlace := ["math.Float64bits", "math.Float64frombits"], unfollowed := true, recurses := true, apart := false, narrowed := true }
def FnExactMulMatricesUptoSaid : Prop := fnExactMulMatricesUptoRow.holds Try.pinned (OpenSpec.upto fnExactMulMatricesSpec)

/-- 'laws.FnExactCosineOf', WHERE WHAT IT READS IS OF BULK AT MOST 1048576: true; the input reads as it did. -/
def fnExactCosineOfUptoRow : OpenClaim := { program := "ytgjfdfmbknmpaaa", sum := "d13b119f70c885c41217d5e92cfd327f1faee03ef86e464a9d633c88f7afdf09", func := "loop.example/g01327/laws.FnExactCosineOf", spec := "fnExactCosineOf", inPlace := ["math.sqrt", "math.Float64bits", "math.Float64frombits"], unfollowed := true, recurses := true, apart := false, narrowed := true }
def FnExactCosineOfUptoSaid : Prop := fnExactCosineOfUptoRow.holds Try.pinned (OpenSpec.upto fnExactCosineOfSpec)

/-- 'laws.FnExactValueOfChain', WHERE WHAT IT READS IS OF BULK AT MOST 1048576: true; the input reads as it did. -/
def fnExactValueOfChainUptoRow : OpenClaim := { program := "ytgjfdfmbknmpaaa", sum := "d13b119f70c885c41217d5e92cfd327f1faee03ef86e464a9d633c88f7afdf09", func := "loop.example/g01327/laws.FnExactValueOfChain", spec := "fnExactValueOfChain", inPlace := ["math.Float64bits", "math.Float64frombits"], unfollowed := true, recurses := true, apart := false, narrowed := true }
def FnExactValueOfChainUptoSaid : Prop := fnExactValueOfChainUptoRow.holds Try.pinned (OpenSpec.upto fnExactValueOfChainSpec)

/-- 'laws.FnExactValuesOfChain', WHERE WHAT IT READS IS OF BULK AT MOST 1048576: true; the input reads as it did. -/
def fnExactValuesOfChainUptoRow : OpenClaim := { program := "ytgjfdfmbknmpaaa", sum := "d13b119f70c885c41217d5e92cfd327f1faee03ef86e464a9d633c88f7afdf09", func := "loop.example/g01327/laws.FnExactValuesOfChain", spec := "fnExactValuesOfChain", inPlace := ["math.Float64bits", "math.Float64frombits"], unfollowed := true, recurses := true, apart := false, narrowed := true }
def FnExactValuesOfChainUptoSaid : Prop := fnExactValuesOfChainUptoRow.holds Try.pinned (OpenSpec.upto fnExactValuesOfChainSpec)

end Rows
end Go.Proofs.Ytgjfdfmbknmpaaa
