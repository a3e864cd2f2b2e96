/-
  No cell of these rows narrows 'for every input' (looked for: loops, veiled, ifaces, maps, wideKeys, modest, calm, conditions, laid).
  DERIVED. THE GIVEN ROWS OF THIS SEAT. 15 by the template 'for every input the law returns true; each argument reads behind the call as it read before'; 0 by the template 'total and deterministic' (their statements: YtcfimkjkolgboaaTotals.lean).
  GIVEN WITH THE SEED: the statements are not yours to turn. If you find one false, say at which input.
  Laid BY PROGRAM, IN A SANDBOX (cutbox-rows.mjs): the forced cells as the released guide's own fill.sh prints them over the translation 14209f0df29b0811… (all of the seat's roots in one cut). By AI agents, Wed Nov 11 2026. No macro, syntax, notation, axiom, sorry.
-/
import Derived.Test.YtcfimkjkolgboaaChecked
import GoSem.Claim
import GoSem.ClaimJoined
import GoSem.ClaimMapViews
import Derived.JoinedTies
import Derived.KernelRfl
namespace Go.Proofs.Ytcfimkjkolgboaa
/- THE CELL 'sum', in the pinned program and in every row, IS THE sha256 OF THE DUMP (.gsa) THAT YtcfimkjkolgboaaProg.lean LOADS. Nothing in Lean hashes anything: it is a label: what it is worth is what the hold of that sum in a sandbox is worth. -/
noncomputable def Try.pinned : Pinned := { name := "ytcfimkjkolgboaa", sum := "14209f0df29b081109be3d59bdd31e09e337afffa4bc32a477c4d99969b967e2", checked := Try.checked }
namespace Rows
def none {H : Type} : Left H := { results := [], args := [] }

/-- 'laws.FnExactIsPrime': WHATEVER THE INPUT: true; the input reads as it did. -/
def fnExactIsPrimeSpec : ChangeSpec := { name := "fnExactIsPrime", fn := fun _ => fun
  | [d] => { results := [.lit (.bool true)], args := [d] }
  | _ => none }
def fnExactIsPrimeRow : OpenClaim := { program := "ytcfimkjkolgboaa", sum := "14209f0df29b081109be3d59bdd31e09e337afffa4bc32a477c4d99969b967e2", func := "loop.example/g01327/laws.FnExactIsPrime", spec := "fnExactIsPrime", apart := false }
def FnExactIsPrimeSaid : Prop := fnExactIsPrimeRow.holds Try.pinned (OpenSpec.ofChange fnExactIsPrimeSpec)

/-- ITS FALSE NEIGHBOUR: 'it returns false'. Refute it at one input. -/
def fnExactIsPrimeWrong : ChangeSpec := { name := "fnExactIsPrime", fn := fun _ => fun
  | [d] => { results := [.lit (.bool false)], args := [d] }
  | _ => none }
def FnExactIsPrimeWrongFalsely : Prop := fnExactIsPrimeRow.holds Try.pinned (OpenSpec.ofChange fnExactIsPrimeWrong)

/-- 'laws.FnExactGcdOf': WHATEVER THE INPUT: true; the input reads as it did. -/
def fnExactGcdOfSpec : ChangeSpec := { name := "fnExactGcdOf", fn := fun _ => fun
  | [d1, d2] => { results := [.lit (.bool true)], args := [d1, d2] }
  | _ => none }
def fnExactGcdOfRow : OpenClaim := { program := "ytcfimkjkolgboaa", sum := "14209f0df29b081109be3d59bdd31e09e337afffa4bc32a477c4d99969b967e2", func := "loop.example/g01327/laws.FnExactGcdOf", spec := "fnExactGcdOf", apart := false }
def FnExactGcdOfSaid : Prop := fnExactGcdOfRow.holds Try.pinned (OpenSpec.ofChange fnExactGcdOfSpec)

/-- ITS FALSE NEIGHBOUR: 'it returns false'. Refute it at one input. -/
def fnExactGcdOfWrong : ChangeSpec := { name := "fnExactGcdOf", fn := fun _ => fun
  | [d1, d2] => { results := [.lit (.bool false)], args := [d1, d2] }
  | _ => none }
def FnExactGcdOfWrongFalsely : Prop := fnExactGcdOfRow.holds Try.pinned (OpenSpec.ofChange fnExactGcdOfWrong)

/-- 'laws.FnExactBackOver': WHATEVER THE INPUT: true; the input reads as it did. -/
def fnExactBackOverSpec : ChangeSpec := { name := "fnExactBackOver", fn := fun _ => fun
  | [d1, d2] => { results := [.lit (.bool true)], args := [d1, d2] }
  | _ => none }
def fnExactBackOverRow : OpenClaim := { program := "ytcfimkjkolgboaa", sum := "14209f0df29b081109be3d59bdd31e09e337afffa4bc32a477c4d99969b967e2", func := "loop.example/g01327/laws.FnExactBackOver", spec := "fnExactBackOver", apart := false }
def FnExactBackOverSaid : Prop := fnExactBackOverRow.holds Try.pinned (OpenSpec.ofChange fnExactBackOverSpec)

/-- ITS FALSE NEIGHBOUR: 'it returns false'. Refute it at one input. -/
def fnExactBackOverWrong : ChangeSpec := { name := "fnExactBackOver", fn := fun _ => fun
  | [d1, d2] => { results := [.lit (.bool false)], args := [d1, d2] }
  | _ => none }
def FnExactBackOverWrongFalsely : Prop := fnExactBackOverRow.holds Try.pinned (OpenSpec.ofChange fnExactBackOverWrong)

/-- 'laws.FnExactSameWhole': WHATEVER THE INPUT: true; the input reads as it did. -/
def fnExactSameWholeSpec : ChangeSpec := { name := "fnExactSameWhole", fn := fun _ => fun
  | [d1, d2] => { results := [.lit (.bool true)], args := [d1, d2] }
  | _ => none }
def fnExactSameWholeRow : OpenClaim := { program := "ytcfimkjkolgboaa", sum := "14209f0df29b081109be3d59bdd31e09e337afffa4bc32a477c4d99969b967e2", func := "loop.example/g01327/laws.FnExactSameWhole", spec := "fnExactSameWhole", apart := false }
def FnExactSameWholeSaid : Prop := fnExactSameWholeRow.holds Try.pinned (OpenSpec.ofChange fnExactSameWholeSpec)

/-- ITS FALSE NEIGHBOUR: 'it returns false'. Refute it at one input. -/
def fnExactSameWholeWrong : ChangeSpec := { name := "fnExactSameWhole", fn := fun _ => fun
  | [d1, d2] => { results := [.lit (.bool false)], args := [d1, d2] }
  | _ => none }
def FnExactSameWholeWrongFalsely : Prop := fnExactSameWholeRow.holds Try.pinned (OpenSpec.ofChange fnExactSameWholeWrong)

/-- 'laws.FnExactValidWhole': WHATEVER THE INPUT: true; the input reads as it did. -/
def fnExactValidWholeSpec : ChangeSpec := { name := "fnExactValidWhole", fn := fun _ => fun
  | [d] => { results := [.lit (.bool true)], args := [d] }
  | _ => none }
def fnExactValidWholeRow : OpenClaim := { program := "ytcfimkjkolgboaa", sum := "14209f0df29b081109be3d59bdd31e09e337afffa4bc32a477c4d99969b967e2", func := "loop.example/g01327/laws.FnExactValidWhole", spec := "fnExactValidWhole", unfollowed := true, recurses := true, apart := false }
def FnExactValidWholeSaid : Prop := fnExactValidWholeRow.holds Try.pinned (OpenSpec.ofChange fnExactValidWholeSpec)

/-- ITS FALSE NEIGHBOUR: 'it returns false'. Refute it at one input. -/
def fnExactValidWholeWrong : ChangeSpec := { name := "fnExactValidWhole", fn := fun _ => fun
  | [d] => { results := [.lit (.bool false)], args := [d] }
  | _ => none }
def FnExactValidWholeWrongFalsely : Prop := fnExactValidWholeRow.holds Try.pinned (OpenSpec.ofChange fnExactValidWholeWrong)

/-- 'laws.FnExactUnitWhole': WHATEVER THE INPUT: true; the input reads as it did. -/
def fnExactUnitWholeSpec : ChangeSpec := { name := "fnExactUnitWhole", fn := fun _ => fun
  | [d] => { results := [.lit (.bool true)], args := [d] }
  | _ => none }
def fnExactUnitWholeRow : OpenClaim := { program := "ytcfimkjkolgboaa", sum := "14209f0df29b081109be3d59bdd31e09e337afffa4bc32a477c4d99969b967e2", func := "loop.example/g01327/laws.FnExactUnitWhole", spec := "fnExactUnitWhole", unfollowed := true, recurses := true, apart := false }
def FnExactUnitWholeSaid : Prop := fnExactUnitWholeRow.holds Try.pinned (OpenSpec.ofChange fnExactUnitWholeSpec)

/-- ITS FALSE NEIGHBOUR: 'it returns false'. Refute it at one input. -/
def fnExactUnitWholeWrong : ChangeSpec := { name := "fnExactUnitWhole", fn := fun _ => fun
  | [d] => { results := [.lit (.bool false)], args := [d] }
  | _ => none }
def FnExactUnitWholeWrongFalsely : Prop := fnExactUnitWholeRow.holds Try.pinned (OpenSpec.ofChange fnExactUnitWholeWrong)

/-- 'laws.FnExactContentOf': WHATEVER THE INPUT: true; the input reads as it did. -/
def fnExactContentOfSpec : ChangeSpec := { name := "fnExactContentOf", fn := fun _ => fun
  | [d] => { results := [.lit (.bool true)], args := [d] }
  | _ => none }
def fnExactContentOfRow : OpenClaim := { program := "ytcfimkjkolgboaa", sum := "14209f0df29b081109be3d59bdd31e09e337afffa4bc32a477c4d99969b967e2", func := "loop.example/g01327/laws.FnExactContentOf", spec := "fnExactContentOf", unfollowed := true, recurses := true, apart := false }
def FnExactContentOfSaid : Prop := fnExactContentOfRow.holds Try.pinned (OpenSpec.ofChange fnExactContentOfSpec)

/-- ITS FALSE NEIGHBOUR: 'it returns false'. Refute it at one input. -/
def fnExactContentOfWrong : ChangeSpec := { name := "fnExactContentOf", fn := fun _ => fun
  | [d] => { results := [.lit (.bool false)], args := [d] }
  | _ => none }
def FnExactContentOfWrongFalsely : Prop := fnExactContentOfRow.holds Try.pinned (OpenSpec.ofChange fnExactContentOfWrong)

/-- 'laws.FnExactFlipWhole': WHATEVER THE INPUT: true; the input reads as it did. -/
def fnExactFlipWholeSpec : ChangeSpec := { name := "fnExactFlipWhole", fn := fun _ => fun
  | [d] => { results := [.lit (.bool true)], args := [d] }
  | _ => none }
def fnExactFlipWholeRow : OpenClaim := { program := "ytcfimkjkolgboaa", sum := "14209f0df29b081109be3d59bdd31e09e337afffa4bc32a477c4d99969b967e2", func := "loop.example/g01327/laws.FnExactFlipWhole", spec := "fnExactFlipWhole", unfollowed := true, recurses := true, apart := false }
def FnExactFlipWholeSaid : Prop := fnExactFlipWholeRow.holds Try.pinned (OpenSpec.ofChange fnExactFlipWholeSpec)

/-- ITS FALSE NEIGHBOUR: 'it returns false'. Refute it at one input. -/
def fnExactFlipWholeWrong : ChangeSpec := { name := "fnExactFlipWhole", fn := fun _ => fun
  | [d] => { results := [.lit (.bool false)], args := [d] }
  | _ => none }
def FnExactFlipWholeWrongFalsely : Prop := fnExactFlipWholeRow.holds Try.pinned (OpenSpec.ofChange fnExactFlipWholeWrong)

/-- 'laws.FnExactDetOfWhole': WHATEVER THE INPUT: true; the input reads as it did. -/
def fnExactDetOfWholeSpec : ChangeSpec := { name := "fnExactDetOfWhole", fn := fun _ => fun
  | [d] => { results := [.lit (.bool true)], args := [d] }
  | _ => none }
def fnExactDetOfWholeRow : OpenClaim := { program := "ytcfimkjkolgboaa", sum := "14209f0df29b081109be3d59bdd31e09e337afffa4bc32a477c4d99969b967e2", func := "loop.example/g01327/laws.FnExactDetOfWhole", spec := "fnExactDetOfWhole", unfollowed := true, recurses := true, apart := false }
def FnExactDetOfWholeSaid : Prop := fnExactDetOfWholeRow.holds Try.pinned (OpenSpec.ofChange fnExactDetOfWholeSpec)

/-- ITS FALSE NEIGHBOUR: 'it returns false'. Refute it at one input. -/
def fnExactDetOfWholeWrong : ChangeSpec := { name := "fnExactDetOfWhole", fn := fun _ => fun
  | [d] => { results := [.lit (.bool false)], args := [d] }
  | _ => none }
def FnExactDetOfWholeWrongFalsely : Prop := fnExactDetOfWholeRow.holds Try.pinned (OpenSpec.ofChange fnExactDetOfWholeWrong)

/-- 'laws.FnExactMinorOfWhole': WHATEVER THE INPUT: true; the input reads as it did. -/
def fnExactMinorOfWholeSpec : ChangeSpec := { name := "fnExactMinorOfWhole", fn := fun _ => fun
  | [d1, d2, d3] => { results := [.lit (.bool true)], args := [d1, d2, d3] }
  | _ => none }
def fnExactMinorOfWholeRow : OpenClaim := { program := "ytcfimkjkolgboaa", sum := "14209f0df29b081109be3d59bdd31e09e337afffa4bc32a477c4d99969b967e2", func := "loop.example/g01327/laws.FnExactMinorOfWhole", spec := "fnExactMinorOfWhole", unfollowed := true, recurses := true, apart := false }
def FnExactMinorOfWholeSaid : Prop := fnExactMinorOfWholeRow.holds Try.pinned (OpenSpec.ofChange fnExactMinorOfWholeSpec)

/-- ITS FALSE NEIGHBOUR: 'it returns false'. Refute it at one input. -/
def fnExactMinorOfWholeWrong : ChangeSpec := { name := "fnExactMinorOfWhole", fn := fun _ => fun
  | [d1, d2, d3] => { results := [.lit (.bool false)], args := [d1, d2, d3] }
  | _ => none }
def FnExactMinorOfWholeWrongFalsely : Prop := fnExactMinorOfWholeRow.holds Try.pinned (OpenSpec.ofChange fnExactMinorOfWholeWrong)

/-- 'laws.FnExactMulWholes': WHATEVER THE INPUT: true; the input reads as it did. -/
def fnExactMulWholesSpec : ChangeSpec := { name := "fnExactMulWholes", fn := fun _ => fun
  | [d1, d2] => { results := [.lit (.bool true)], args := [d1, d2] }
  | _ => none }
def fnExactMulWholesRow : OpenClaim := { program := "ytcfimkjkolgboaa", sum := "14209f0df29b081109be3d59bdd31e09e337afffa4bc32a477c4d99969b967e2", func := "loop.example/g01327/laws.FnExactMulWholes", spec := "fnExactMulWholes", unfollowed := true, recurses := true, apart := false }
def FnExactMulWholesSaid : Prop := fnExactMulWholesRow.holds Try.pinned (OpenSpec.ofChange fnExactMulWholesSpec)

/-- ITS FALSE NEIGHBOUR: 'it returns false'. Refute it at one input. -/
def fnExactMulWholesWrong : ChangeSpec := { name := "fnExactMulWholes", fn := fun _ => fun
  | [d1, d2] => { results := [.lit (.bool false)], args := [d1, d2] }
  | _ => none }
def FnExactMulWholesWrongFalsely : Prop := fnExactMulWholesRow.holds Try.pinned (OpenSpec.ofChange fnExactMulWholesWrong)

/-- 'laws.FnExactMatrixOf': WHATEVER THE INPUT: true; the input reads as it did. -/
def fnExactMatrixOfSpec : ChangeSpec := { name := "fnExactMatrixOf", fn := fun _ => fun
  | [d] => { results := [.lit (.bool true)], args := [d] }
  | _ => none }
def fnExactMatrixOfRow : OpenClaim := { program := "ytcfimkjkolgboaa", sum := "14209f0df29b081109be3d59bdd31e09e337afffa4bc32a477c4d99969b967e2", func := "loop.example/g01327/laws.FnExactMatrixOf", spec := "fnExactMatrixOf", unfollowed := true, recurses := true, apart := false }
def FnExactMatrixOfSaid : Prop := fnExactMatrixOfRow.holds Try.pinned (OpenSpec.ofChange fnExactMatrixOfSpec)

/-- ITS FALSE NEIGHBOUR: 'it returns false'. Refute it at one input. -/
def fnExactMatrixOfWrong : ChangeSpec := { name := "fnExactMatrixOf", fn := fun _ => fun
  | [d] => { results := [.lit (.bool false)], args := [d] }
  | _ => none }
def FnExactMatrixOfWrongFalsely : Prop := fnExactMatrixOfRow.holds Try.pinned (OpenSpec.ofChange fnExactMatrixOfWrong)

/-- 'laws.FnExactGramOf': WHATEVER THE INPUT: true; the input reads as it did. -/
def fnExactGramOfSpec : ChangeSpec := { name := "fnExactGramOf", fn := fun _ => fun
  | [d] => { results := [.lit (.bool true)], args := [d] }
  | _ => none }
def fnExactGramOfRow : OpenClaim := { program := "ytcfimkjkolgboaa", sum := "14209f0df29b081109be3d59bdd31e09e337afffa4bc32a477c4d99969b967e2", func := "loop.example/g01327/laws.FnExactGramOf", spec := "fnExactGramOf", unfollowed := true, recurses := true, apart := false }
def FnExactGramOfSaid : Prop := fnExactGramOfRow.holds Try.pinned (OpenSpec.ofChange fnExactGramOfSpec)

/-- ITS FALSE NEIGHBOUR: 'it returns false'. Refute it at one input. -/
def fnExactGramOfWrong : ChangeSpec := { name := "fnExactGramOf", fn := fun _ => fun
  | [d] => { results := [.lit (.bool false)], args := [d] }
  | _ => none }
def FnExactGramOfWrongFalsely : Prop := fnExactGramOfRow.holds Try.pinned (OpenSpec.ofChange fnExactGramOfWrong)

/-- 'laws.FnExactShortestOf': WHATEVER THE INPUT: true; the input reads as it did. -/
def fnExactShortestOfSpec : ChangeSpec := { name := "fnExactShortestOf", fn := fun _ => fun
  | [d1, d2] => { results := [.lit (.bool true)], args := [d1, d2] }
  | _ => none }
def fnExactShortestOfRow : OpenClaim := { program := "ytcfimkjkolgboaa", sum := "14209f0df29b081109be3d59bdd31e09e337afffa4bc32a477c4d99969b967e2", func := "loop.example/g01327/laws.FnExactShortestOf", spec := "fnExactShortestOf", unfollowed := true, recurses := true, apart := false }
def FnExactShortestOfSaid : Prop := fnExactShortestOfRow.holds Try.pinned (OpenSpec.ofChange fnExactShortestOfSpec)

/-- ITS FALSE NEIGHBOUR: 'it returns false'. Refute it at one input. -/
def fnExactShortestOfWrong : ChangeSpec := { name := "fnExactShortestOf", fn := fun _ => fun
  | [d1, d2] => { results := [.lit (.bool false)], args := [d1, d2] }
  | _ => none }
def FnExactShortestOfWrongFalsely : Prop := fnExactShortestOfRow.holds Try.pinned (OpenSpec.ofChange fnExactShortestOfWrong)

/-- 'laws.FnExactCharactersOf': WHATEVER THE INPUT: true; the input reads as it did. -/
def fnExactCharactersOfSpec : ChangeSpec := { name := "fnExactCharactersOf", fn := fun _ => fun
  | [d] => { results := [.lit (.bool true)], args := [d] }
  | _ => none }
def fnExactCharactersOfRow : OpenClaim := { program := "ytcfimkjkolgboaa", sum := "14209f0df29b081109be3d59bdd31e09e337afffa4bc32a477c4d99969b967e2", func := "loop.example/g01327/laws.FnExactCharactersOf", spec := "fnExactCharactersOf", unfollowed := true, recurses := true, apart := false }
def FnExactCharactersOfSaid : Prop := fnExactCharactersOfRow.holds Try.pinned (OpenSpec.ofChange fnExactCharactersOfSpec)

/-- ITS FALSE NEIGHBOUR: 'it returns false'. Refute it at one input. -/
def fnExactCharactersOfWrong : ChangeSpec := { name := "fnExactCharactersOf", fn := fun _ => fun
  | [d] => { results := [.lit (.bool false)], args := [d] }
  | _ => none }
def FnExactCharactersOfWrongFalsely : Prop := fnExactCharactersOfRow.holds Try.pinned (OpenSpec.ofChange fnExactCharactersOfWrong)

/- THE SECOND FORM. 'bulk': how many values and letters a reading holds, each counted each time it is reached (what is shared counts as often as it is met; a slice's spare places count too). A statement '..UptoSaid' is the law's where the arguments, and the package variables that the reading takes, are together of bulk at most 1048576: NARROWER than '..Said'. Prove '..Said' where nothing that the law and all that it calls make is longer than what came in: it says more and counts as full. Else prove '..UptoSaid'. A law counts once. -/
mutual
def uptoBulk {H : Type} : DataW H → Nat
  | .lit (.string bytes) => bytes.length + 1
  | .lit _ => 1
  | .nil => 1
  | .ptr d => uptoBulk d + 1
  | .slice elems spare => uptoBulkAll elems + uptoBulkAll spare + 1
  | .agg parts => uptoBulkAll parts + 1
  | .iface _ d => uptoBulk d + 1
  | .map entries => uptoBulkEntries entries + 1
  | .held _ => 1
def uptoBulkAll {H : Type} : List (DataW H) → Nat
  | [] => 0
  | d :: r => uptoBulk d + uptoBulkAll r
def uptoBulkEntries {H : Type} : List (Lit × DataW H) → Nat
  | [] => 0
  | x :: r => uptoBulkEntry x + uptoBulkEntries r
def uptoBulkEntry {H : Type} : Lit × DataW H → Nat
  | (.string bytes, d) => bytes.length + uptoBulk d + 1
  | (_, d) => uptoBulk d + 1
 end
def uptoSmall : (H : Type) → List (DataW H) → Bool := fun _ ds => decide (uptoBulkAll ds ≤ 1048576)
def OpenSpec.upto (s : _root_.Go.ChangeSpec) : _root_.Go.OpenSpec := { _root_.Go.OpenSpec.ofChange s with cond := some uptoSmall }

/-- 'laws.FnExactIsPrime', WHERE WHAT IT READS IS OF BULK AT MOST 1048576: true; the input reads as it did. -/
def fnExactIsPrimeUptoRow : OpenClaim := { program := "ytcfimkjkolgboaa", sum := "14209f0df29b081109be3d59bdd31e09e337afffa4bc32a477c4d99969b967e2", func := "loop.example/g01327/laws.FnExactIsPrime", spec := "fnExactIsPrime", apart := false, narrowed := true }
def FnExactIsPrimeUptoSaid : Prop := fnExactIsPrimeUptoRow.holds Try.pinned (OpenSpec.upto fnExactIsPrimeSpec)

/-- 'laws.FnExactGcdOf', WHERE WHAT IT READS IS OF BULK AT MOST 1048576: true; the input reads as it did. -/
def fnExactGcdOfUptoRow : OpenClaim := { program := "ytcfimkjkolgboaa", sum := "14209f0df29b081109be3d59bdd31e09e337afffa4bc32a477c4d99969b967e2", func := "loop.example/g01327/laws.FnExactGcdOf", spec := "fnExactGcdOf", apart := false, narrowed := true }
def FnExactGcdOfUptoSaid : Prop := fnExactGcdOfUptoRow.holds Try.pinned (OpenSpec.upto fnExactGcdOfSpec)

/-- 'laws.FnExactBackOver', WHERE WHAT IT READS IS OF BULK AT MOST 1048576: true; the input reads as it did. -/
def fnExactBackOverUptoRow : OpenClaim := { program := "ytcfimkjkolgboaa", sum := "14209f0df29b081109be3d59bdd31e09e337afffa4bc32a477c4d99969b967e2", func := "loop.example/g01327/laws.FnExactBackOver", spec := "fnExactBackOver", apart := false, narrowed := true }
def FnExactBackOverUptoSaid : Prop := fnExactBackOverUptoRow.holds Try.pinned (OpenSpec.upto fnExactBackOverSpec)

/-- 'laws.FnExactSameWhole', WHERE WHAT IT READS IS OF BULK AT MOST 1048576: true; the input reads as it did. -/
def fnExactSameWholeUptoRow : OpenClaim := { program := "ytcfimkjkolgboaa", sum := "14209f0df29b081109be3d59bdd31e09e337afffa4bc32a477c4d99969b967e2", func := "loop.example/g01327/laws.FnExactSameWhole", spec := "fnExactSameWhole", apart := false, narrowed := true }
def FnExactSameWholeUptoSaid : Prop := fnExactSameWholeUptoRow.holds Try.pinned (OpenSpec.upto fnExactSameWholeSpec)

/-- 'laws.FnExactValidWhole', WHERE WHAT IT READS IS OF BULK AT MOST 1048576: true; the input reads as it did. -/
def fnExactValidWholeUptoRow : OpenClaim := { program := "ytcfimkjkolgboaa", sum := "14209f0df29b081109be3d59bdd31e09e337afffa4bc32a477c4d99969b967e2", func := "loop.example/g01327/laws.FnExactValidWhole", spec := "fnExactValidWhole", unfollowed := true, recurses := true, apart := false, narrowed := true }
def FnExactValidWholeUptoSaid : Prop := fnExactValidWholeUptoRow.holds Try.pinned (OpenSpec.upto fnExactValidWholeSpec)

/-- 'laws.FnExactUnitWhole', WHERE WHAT IT READS IS OF BULK AT MOST 1048576: true; the input reads as it did. -/
def fnExactUnitWholeUptoRow : OpenClaim := { program := "ytcfimkjkolgboaa", sum := "14209f0df29b081109be3d59bdd31e09e337afffa4bc32a477c4d99969b967e2", func := "loop.example/g01327/laws.FnExactUnitWhole", spec := "fnExactUnitWhole", unfollowed := true, recurses := true, apart := false, narrowed := true }
def FnExactUnitWholeUptoSaid : Prop := fnExactUnitWholeUptoRow.holds Try.pinned (OpenSpec.upto fnExactUnitWholeSpec)

/-- 'laws.FnExactContentOf', WHERE WHAT IT READS IS OF BULK AT MOST 1048576: true; the input reads as it did. -/
def fnExactContentOfUptoRow : OpenClaim := { program := "ytcfimkjkolgboaa", sum := "14209f0df29b081109be3d59bdd31e09e337afffa4bc32a477c4d99969b967e2", func := "loop.example/g01327/laws.FnExactContentOf", spec := "fnExactContentOf", unfollowed := true, recurses := true, apart := false, narrowed := true }
def FnExactContentOfUptoSaid : Prop := fnExactContentOfUptoRow.holds Try.pinned (OpenSpec.upto fnExactContentOfSpec)

/-- 'laws.FnExactFlipWhole', WHERE WHAT IT READS IS OF BULK AT MOST 1048576: true; the input reads as it did. -/
def fnExactFlipWholeUptoRow : OpenClaim := { program := "ytcfimkjkolgboaa", sum := "14209f0df29b081109be3d59bdd31e09e337afffa4bc32a477c4d99969b967e2", func := "loop.example/g01327/laws.FnExactFlipWhole", spec := "fnExactFlipWhole", unfollowed := true, recurses := true, apart := false, narrowed := true }
def FnExactFlipWholeUptoSaid : Prop := fnExactFlipWholeUptoRow.holds Try.pinned (OpenSpec.upto fnExactFlipWholeSpec)

/-- 'laws.FnExactDetOfWhole', WHERE WHAT IT READS IS OF BULK AT MOST 1048576: true; the input reads as it did. -/
def fnExactDetOfWholeUptoRow : OpenClaim := { program := "ytcfimkjkolgboaa", sum := "14209f0df29b081109be3d59bdd31e09e337afffa4bc32a477c4d99969b967e2", func := "loop.example/g01327/laws.FnExactDetOfWhole", spec := "fnExactDetOfWhole", unfollowed := true, recurses := true, apart := false, narrowed := true }
def FnExactDetOfWholeUptoSaid : Prop := fnExactDetOfWholeUptoRow.holds Try.pinned (OpenSpec.upto fnExactDetOfWholeSpec)

/-- 'laws.FnExactMinorOfWhole', WHERE WHAT IT READS IS OF BULK AT MOST 1048576: true; the input reads as it did. -/
def fnExactMinorOfWholeUptoRow : OpenClaim := { program := "ytcfimkjkolgboaa", sum := "14209f0df29b081109be3d59bdd31e09e337afffa4bc32a477c4d99969b967e2", func := "loop.example/g01327/laws.FnExactMinorOfWhole", spec := "fnExactMinorOfWhole", unfollowed := true, recurses := true, apart := false, narrowed := true }
def FnExactMinorOfWholeUptoSaid : Prop := fnExactMinorOfWholeUptoRow.holds Try.pinned (OpenSpec.upto fnExactMinorOfWholeSpec)

/-- 'laws.FnExactMulWholes', WHERE WHAT IT READS IS OF BULK AT MOST 1048576: true; the input reads as it did. -/
def fnExactMulWholesUptoRow : OpenClaim := { program := "ytcfimkjkolgboaa", sum := "14209f0df29b081109be3d59bdd31e09e337afffa4bc32a477c4d99969b967e2", func := "loop.example/g01327/laws.FnExactMulWholes", spec := "fnExactMulWholes", unfollowed := true, recurses := true, apart := false, narrowed := true }
def FnExactMulWholesUptoSaid : Prop := fnExactMulWholesUptoRow.holds Try.pinned (OpenSpec.upto fnExactMulWholesSpec)

/-- 'laws.FnExactMatrixOf', WHERE WHAT IT READS IS OF BULK AT MOST 1048576: true; the input reads as it did. -/
def fnExactMatrixOfUptoRow : OpenClaim := { program := "ytcfimkjkolgboaa", sum := "14209f0df29b081109be3d59bdd31e09e337afffa4bc32a477c4d99969b967e2", func := "loop.example/g01327/laws.FnExactMatrixOf", spec := "fnExactMatrixOf", unfollowed := true, recurses := true, apart := false, narrowed := true }
def FnExactMatrixOfUptoSaid : Prop := fnExactMatrixOfUptoRow.holds Try.pinned (OpenSpec.upto fnExactMatrixOfSpec)

/-- 'laws.FnExactGramOf', WHERE WHAT IT READS IS OF BULK AT MOST 1048576: true; the input reads as it did. -/
def fnExactGramOfUptoRow : OpenClaim := { program := "ytcfimkjkolgboaa", sum := "14209f0df29b081109be3d59bdd31e09e337afffa4bc32a477c4d99969b967e2", func := "loop.example/g01327/laws.FnExactGramOf", spec := "fnExactGramOf", unfollowed := true, recurses := true, apart := false, narrowed := true }
def FnExactGramOfUptoSaid : Prop := fnExactGramOfUptoRow.holds Try.pinned (OpenSpec.upto fnExactGramOfSpec)

/-- 'laws.FnExactShortestOf', WHERE WHAT IT READS IS OF BULK AT MOST 1048576: true; the input reads as it did. -/
def fnExactShortestOfUptoRow : OpenClaim := { program := "ytcfimkjkolgboaa", sum := "14209f0df29b081109be3d59bdd31e09e337afffa4bc32a477c4d99969b967e2", func := "loop.example/g01327/laws.FnExactShortestOf", spec := "fnExactShortestOf", unfollowed := true, recurses := true, apart := false, narrowed := true }
def FnExactShortestOfUptoSaid : Prop := fnExactShortestOfUptoRow.holds Try.pinned (OpenSpec.upto fnExactShortestOfSpec)

/-- 'laws.FnExactCharactersOf', WHERE WHAT IT READS IS OF BULK AT MOST 1048576: true; the input reads as it did. -/
def fnExactCharactersOfUptoRow : OpenClaim := { program := "ytcfimkjkolgboaa", sum := "14209f0df29b081109be3d59bdd31e09e337afffa4bc32a477c4d99969b967e2", func := "loop.example/g01327/laws.FnExactCharactersOf", spec := "fnExactCharactersOf", unfollowed := true, recurses := true, apart := false, narrowed := true }
def FnExactCharactersOfUptoSaid : Prop := fnExactCharactersOfUptoRow.holds Try.pinned (OpenSpec.upto fnExactCharactersOfSpec)

end Rows
end Go.Proofs.Ytcfimkjkolgboaa
