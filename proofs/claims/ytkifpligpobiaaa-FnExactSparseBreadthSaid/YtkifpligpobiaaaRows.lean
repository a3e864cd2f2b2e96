/-
  No cell of these rows narrows 'for every input' (looked for: loops, veiled, ifaces, maps, wideKeys, modest, calm, conditions, laid).
  DERIVED. THE GIVEN ROWS OF THIS SEAT. 17 by the template 'for every input the law returns true; each argument reads behind the call as it read before'; 0 by the template 'total and deterministic' (their statements: YtkifpligpobiaaaTotals.lean).
  GIVEN WITH THE SEED: the statements are not yours to turn. If you find one false, say at which input.
  Laid BY PROGRAM, IN A SANDBOX (cutbox-rows.mjs): the forced cells as the released guide's own fill.sh prints them over the translation e22f22e0e0aa9134… (all of the seat's roots in one cut). By AI agents, Wed Nov 11 2026. No macro, syntax, notation, axiom, sorry.
-/
import Derived.Test.YtkifpligpobiaaaChecked
import GoSem.Claim
import GoSem.ClaimJoined
import GoSem.ClaimMapViews
import Derived.JoinedTies
import Derived.KernelRfl
namespace Go.Proofs.Ytkifpligpobiaaa
/- THE CELL 'sum', in the pinned program and in every row, IS THE sha256 OF THE DUMP (.gsa) THAT YtkifpligpobiaaaProg.lean LOADS. Nothing in Lean hashes anything: it is a label: what it is worth is what the hold of that sum in a sandbox is worth. -/
noncomputable def Try.pinned : Pinned := { name := "ytkifpligpobiaaa", sum := "e22f22e0e0aa9134c374d74b2a416e3ced4229eef3f7b31d637c767c51bc0d95", checked := Try.checked }
namespace Rows
def none {H : Type} : Left H := { results := [], args := [] }

/-- 'laws.FnExactSparseRoot': WHATEVER THE INPUT: true; the input reads as it did. -/
def fnExactSparseRootSpec : ChangeSpec := { name := "fnExactSparseRoot", fn := fun _ => fun
  | [d] => { results := [.lit (.bool true)], args := [d] }
  | _ => none }
def fnExactSparseRootRow : OpenClaim := { program := "ytkifpligpobiaaa", sum := "e22f22e0e0aa9134c374d74b2a416e3ced4229eef3f7b31d637c767c51bc0d95", func := "loop.example/g01327/laws.FnExactSparseRoot", spec := "fnExactSparseRoot", inPlace := ["math.sqrt", "math.Float64bits", "math.Float64frombits"], unfollowed := true, recurses := true, plainKeys := false, apart := false }
def FnExactSparseRootSaid : Prop := fnExactSparseRootRow.holds Try.pinned (OpenSpec.ofChange fnExactSparseRootSpec)

/-- ITS FALSE NEIGHBOUR: 'it returns false'. Refute it at one input. -/
def fnExactSparseRootWrong : ChangeSpec := { name := "fnExactSparseRoot", fn := fun _ => fun
  | [d] => { results := [.lit (.bool false)], args := [d] }
  | _ => none }
def FnExactSparseRootWrongFalsely : Prop := fnExactSparseRootRow.holds Try.pinned (OpenSpec.ofChange fnExactSparseRootWrong)

/-- 'laws.FnExactSparseOrder': WHATEVER THE INPUT: true; the input reads as it did. -/
def fnExactSparseOrderSpec : ChangeSpec := { name := "fnExactSparseOrder", fn := fun _ => fun
  | [d1, d2] => { results := [.lit (.bool true)], args := [d1, d2] }
  | _ => none }
def fnExactSparseOrderRow : OpenClaim := { program := "ytkifpligpobiaaa", sum := "e22f22e0e0aa9134c374d74b2a416e3ced4229eef3f7b31d637c767c51bc0d95", func := "loop.example/g01327/laws.FnExactSparseOrder", spec := "fnExactSparseOrder", inPlace := ["math.Float64bits", "math.Float64frombits"], unfollowed := true, recurses := true, plainKeys := false, apart := false }
def FnExactSparseOrderSaid : Prop := fnExactSparseOrderRow.holds Try.pinned (OpenSpec.ofChange fnExactSparseOrderSpec)

/-- ITS FALSE NEIGHBOUR: 'it returns false'. Refute it at one input. -/
def fnExactSparseOrderWrong : ChangeSpec := { name := "fnExactSparseOrder", fn := fun _ => fun
  | [d1, d2] => { results := [.lit (.bool false)], args := [d1, d2] }
  | _ => none }
def FnExactSparseOrderWrongFalsely : Prop := fnExactSparseOrderRow.holds Try.pinned (OpenSpec.ofChange fnExactSparseOrderWrong)

/-- 'laws.FnExactSameSparse': WHATEVER THE INPUT: true; the input reads as it did. -/
def fnExactSameSparseSpec : ChangeSpec := { name := "fnExactSameSparse", fn := fun _ => fun
  | [d1, d2] => { results := [.lit (.bool true)], args := [d1, d2] }
  | _ => none }
def fnExactSameSparseRow : OpenClaim := { program := "ytkifpligpobiaaa", sum := "e22f22e0e0aa9134c374d74b2a416e3ced4229eef3f7b31d637c767c51bc0d95", func := "loop.example/g01327/laws.FnExactSameSparse", spec := "fnExactSameSparse", inPlace := ["math.Float32bits", "math.Float64bits"], unfollowed := true, recurses := true, plainKeys := false, apart := false }
def FnExactSameSparseSaid : Prop := fnExactSameSparseRow.holds Try.pinned (OpenSpec.ofChange fnExactSameSparseSpec)

/-- ITS FALSE NEIGHBOUR: 'it returns false'. Refute it at one input. -/
def fnExactSameSparseWrong : ChangeSpec := { name := "fnExactSameSparse", fn := fun _ => fun
  | [d1, d2] => { results := [.lit (.bool false)], args := [d1, d2] }
  | _ => none }
def FnExactSameSparseWrongFalsely : Prop := fnExactSameSparseRow.holds Try.pinned (OpenSpec.ofChange fnExactSameSparseWrong)

/-- 'laws.FnExactSparseBreadth': WHATEVER THE INPUT: true; the input reads as it did. -/
def fnExactSparseBreadthSpec : ChangeSpec := { name := "fnExactSparseBreadth", fn := fun _ => fun
  | [d] => { results := [.lit (.bool true)], args := [d] }
  | _ => none }
def fnExactSparseBreadthRow : OpenClaim := { program := "ytkifpligpobiaaa", sum := "e22f22e0e0aa9134c374d74b2a416e3ced4229eef3f7b31d637c767c51bc0d95", func := "loop.example/g01327/laws.FnExactSparseBreadth", spec := "fnExactSparseBreadth", inPlace := ["math.Float64bits", "math.Float64frombits"], unfollowed := true, recurses := true, plainKeys := false, apart := false }
def FnExactSparseBreadthSaid : Prop := fnExactSparseBreadthRow.holds Try.pinned (OpenSpec.ofChange fnExactSparseBreadthSpec)

/-- ITS FALSE NEIGHBOUR: 'it returns false'. Refute it at one input. -/
def fnExactSparseBreadthWrong : ChangeSpec := { name := "fnExactSparseBreadth", fn := fun _ => fun
  | [d] => { results := [.lit (.bool false)], args := [d] }
  | _ => none }
def FnExactSparseBreadthWrongFalsely : Prop := fnExactSparseBreadthRow.holds Try.pinned (OpenSpec.ofChange fnExactSparseBreadthWrong)

/-- 'laws.FnExactValidSparse': WHATEVER THE INPUT: true; the input reads as it did. -/
def fnExactValidSparseSpec : ChangeSpec := { name := "fnExactValidSparse", fn := fun _ => fun
  | [d] => { results := [.lit (.bool true)], args := [d] }
  | _ => none }
def fnExactValidSparseRow : OpenClaim := { program := "ytkifpligpobiaaa", sum := "e22f22e0e0aa9134c374d74b2a416e3ced4229eef3f7b31d637c767c51bc0d95", func := "loop.example/g01327/laws.FnExactValidSparse", spec := "fnExactValidSparse", inPlace := ["math.Float64bits", "math.Float64frombits"], unfollowed := true, recurses := true, plainKeys := false, apart := false }
def FnExactValidSparseSaid : Prop := fnExactValidSparseRow.holds Try.pinned (OpenSpec.ofChange fnExactValidSparseSpec)

/-- ITS FALSE NEIGHBOUR: 'it returns false'. Refute it at one input. -/
def fnExactValidSparseWrong : ChangeSpec := { name := "fnExactValidSparse", fn := fun _ => fun
  | [d] => { results := [.lit (.bool false)], args := [d] }
  | _ => none }
def FnExactValidSparseWrongFalsely : Prop := fnExactValidSparseRow.holds Try.pinned (OpenSpec.ofChange fnExactValidSparseWrong)

/-- 'laws.FnExactSparseAt': WHATEVER THE INPUT: true; the input reads as it did. -/
def fnExactSparseAtSpec : ChangeSpec := { name := "fnExactSparseAt", fn := fun _ => fun
  | [d1, d2, d3] => { results := [.lit (.bool true)], args := [d1, d2, d3] }
  | _ => none }
def fnExactSparseAtRow : OpenClaim := { program := "ytkifpligpobiaaa", sum := "e22f22e0e0aa9134c374d74b2a416e3ced4229eef3f7b31d637c767c51bc0d95", func := "loop.example/g01327/laws.FnExactSparseAt", spec := "fnExactSparseAt", inPlace := ["math.Float64bits", "math.Float64frombits"], unfollowed := true, recurses := true, plainKeys := false, apart := false }
def FnExactSparseAtSaid : Prop := fnExactSparseAtRow.holds Try.pinned (OpenSpec.ofChange fnExactSparseAtSpec)

/-- ITS FALSE NEIGHBOUR: 'it returns false'. Refute it at one input. -/
def fnExactSparseAtWrong : ChangeSpec := { name := "fnExactSparseAt", fn := fun _ => fun
  | [d1, d2, d3] => { results := [.lit (.bool false)], args := [d1, d2, d3] }
  | _ => none }
def FnExactSparseAtWrongFalsely : Prop := fnExactSparseAtRow.holds Try.pinned (OpenSpec.ofChange fnExactSparseAtWrong)

/-- 'laws.FnExactSparseBand': WHATEVER THE INPUT: true; the input reads as it did. -/
def fnExactSparseBandSpec : ChangeSpec := { name := "fnExactSparseBand", fn := fun _ => fun
  | [d] => { results := [.lit (.bool true)], args := [d] }
  | _ => none }
def fnExactSparseBandRow : OpenClaim := { program := "ytkifpligpobiaaa", sum := "e22f22e0e0aa9134c374d74b2a416e3ced4229eef3f7b31d637c767c51bc0d95", func := "loop.example/g01327/laws.FnExactSparseBand", spec := "fnExactSparseBand", inPlace := ["math.Float64bits", "math.Float64frombits"], unfollowed := true, recurses := true, plainKeys := false, apart := false }
def FnExactSparseBandSaid : Prop := fnExactSparseBandRow.holds Try.pinned (OpenSpec.ofChange fnExactSparseBandSpec)

/-- ITS FALSE NEIGHBOUR: 'it returns false'. Refute it at one input. -/
def fnExactSparseBandWrong : ChangeSpec := { name := "fnExactSparseBand", fn := fun _ => fun
  | [d] => { results := [.lit (.bool false)], args := [d] }
  | _ => none }
def FnExactSparseBandWrongFalsely : Prop := fnExactSparseBandRow.holds Try.pinned (OpenSpec.ofChange fnExactSparseBandWrong)

/-- 'laws.FnExactEntriesOf': WHATEVER THE INPUT: true; the input reads as it did. -/
def fnExactEntriesOfSpec : ChangeSpec := { name := "fnExactEntriesOf", fn := fun _ => fun
  | [d] => { results := [.lit (.bool true)], args := [d] }
  | _ => none }
def fnExactEntriesOfRow : OpenClaim := { program := "ytkifpligpobiaaa", sum := "e22f22e0e0aa9134c374d74b2a416e3ced4229eef3f7b31d637c767c51bc0d95", func := "loop.example/g01327/laws.FnExactEntriesOf", spec := "fnExactEntriesOf", inPlace := ["math.Float64bits", "math.Float64frombits"], unfollowed := true, recurses := true, plainKeys := false, apart := false }
def FnExactEntriesOfSaid : Prop := fnExactEntriesOfRow.holds Try.pinned (OpenSpec.ofChange fnExactEntriesOfSpec)

/-- ITS FALSE NEIGHBOUR: 'it returns false'. Refute it at one input. -/
def fnExactEntriesOfWrong : ChangeSpec := { name := "fnExactEntriesOf", fn := fun _ => fun
  | [d] => { results := [.lit (.bool false)], args := [d] }
  | _ => none }
def FnExactEntriesOfWrongFalsely : Prop := fnExactEntriesOfRow.holds Try.pinned (OpenSpec.ofChange fnExactEntriesOfWrong)

/-- 'laws.FnExactSparseDegrees': WHATEVER THE INPUT: true; the input reads as it did. -/
def fnExactSparseDegreesSpec : ChangeSpec := { name := "fnExactSparseDegrees", fn := fun _ => fun
  | [d] => { results := [.lit (.bool true)], args := [d] }
  | _ => none }
def fnExactSparseDegreesRow : OpenClaim := { program := "ytkifpligpobiaaa", sum := "e22f22e0e0aa9134c374d74b2a416e3ced4229eef3f7b31d637c767c51bc0d95", func := "loop.example/g01327/laws.FnExactSparseDegrees", spec := "fnExactSparseDegrees", inPlace := ["math.Float64bits", "math.Float64frombits"], unfollowed := true, recurses := true, plainKeys := false, apart := false }
def FnExactSparseDegreesSaid : Prop := fnExactSparseDegreesRow.holds Try.pinned (OpenSpec.ofChange fnExactSparseDegreesSpec)

/-- ITS FALSE NEIGHBOUR: 'it returns false'. Refute it at one input. -/
def fnExactSparseDegreesWrong : ChangeSpec := { name := "fnExactSparseDegrees", fn := fun _ => fun
  | [d] => { results := [.lit (.bool false)], args := [d] }
  | _ => none }
def FnExactSparseDegreesWrongFalsely : Prop := fnExactSparseDegreesRow.holds Try.pinned (OpenSpec.ofChange fnExactSparseDegreesWrong)

/-- 'laws.FnExactSparseFrom': WHATEVER THE INPUT: true; the input reads as it did. -/
def fnExactSparseFromSpec : ChangeSpec := { name := "fnExactSparseFrom", fn := fun _ => fun
  | [d1, d2] => { results := [.lit (.bool true)], args := [d1, d2] }
  | _ => none }
def fnExactSparseFromRow : OpenClaim := { program := "ytkifpligpobiaaa", sum := "e22f22e0e0aa9134c374d74b2a416e3ced4229eef3f7b31d637c767c51bc0d95", func := "loop.example/g01327/laws.FnExactSparseFrom", spec := "fnExactSparseFrom", inPlace := ["math.Float64bits", "math.Float64frombits"], unfollowed := true, recurses := true, plainKeys := false, apart := false }
def FnExactSparseFromSaid : Prop := fnExactSparseFromRow.holds Try.pinned (OpenSpec.ofChange fnExactSparseFromSpec)

/-- ITS FALSE NEIGHBOUR: 'it returns false'. Refute it at one input. -/
def fnExactSparseFromWrong : ChangeSpec := { name := "fnExactSparseFrom", fn := fun _ => fun
  | [d1, d2] => { results := [.lit (.bool false)], args := [d1, d2] }
  | _ => none }
def FnExactSparseFromWrongFalsely : Prop := fnExactSparseFromRow.holds Try.pinned (OpenSpec.ofChange fnExactSparseFromWrong)

/-- 'laws.FnExactSparseMul': WHATEVER THE INPUT: true; the input reads as it did. -/
def fnExactSparseMulSpec : ChangeSpec := { name := "fnExactSparseMul", fn := fun _ => fun
  | [d1, d2] => { results := [.lit (.bool true)], args := [d1, d2] }
  | _ => none }
def fnExactSparseMulRow : OpenClaim := { program := "ytkifpligpobiaaa", sum := "e22f22e0e0aa9134c374d74b2a416e3ced4229eef3f7b31d637c767c51bc0d95", func := "loop.example/g01327/laws.FnExactSparseMul", spec := "fnExactSparseMul", inPlace := ["math.Float64bits", "math.Float64frombits"], unfollowed := true, recurses := true, plainKeys := false, apart := false }
def FnExactSparseMulSaid : Prop := fnExactSparseMulRow.holds Try.pinned (OpenSpec.ofChange fnExactSparseMulSpec)

/-- ITS FALSE NEIGHBOUR: 'it returns false'. Refute it at one input. -/
def fnExactSparseMulWrong : ChangeSpec := { name := "fnExactSparseMul", fn := fun _ => fun
  | [d1, d2] => { results := [.lit (.bool false)], args := [d1, d2] }
  | _ => none }
def FnExactSparseMulWrongFalsely : Prop := fnExactSparseMulRow.holds Try.pinned (OpenSpec.ofChange fnExactSparseMulWrong)

/-- 'laws.FnExactSparseFlip': WHATEVER THE INPUT: true; the input reads as it did. -/
def fnExactSparseFlipSpec : ChangeSpec := { name := "fnExactSparseFlip", fn := fun _ => fun
  | [d] => { results := [.lit (.bool true)], args := [d] }
  | _ => none }
def fnExactSparseFlipRow : OpenClaim := { program := "ytkifpligpobiaaa", sum := "e22f22e0e0aa9134c374d74b2a416e3ced4229eef3f7b31d637c767c51bc0d95", func := "loop.example/g01327/laws.FnExactSparseFlip", spec := "fnExactSparseFlip", inPlace := ["math.Float64bits", "math.Float64frombits"], unfollowed := true, recurses := true, plainKeys := false, apart := false }
def FnExactSparseFlipSaid : Prop := fnExactSparseFlipRow.holds Try.pinned (OpenSpec.ofChange fnExactSparseFlipSpec)

/-- ITS FALSE NEIGHBOUR: 'it returns false'. Refute it at one input. -/
def fnExactSparseFlipWrong : ChangeSpec := { name := "fnExactSparseFlip", fn := fun _ => fun
  | [d] => { results := [.lit (.bool false)], args := [d] }
  | _ => none }
def FnExactSparseFlipWrongFalsely : Prop := fnExactSparseFlipRow.holds Try.pinned (OpenSpec.ofChange fnExactSparseFlipWrong)

/-- 'laws.FnExactSparseWeigh': WHATEVER THE INPUT: true; the input reads as it did. -/
def fnExactSparseWeighSpec : ChangeSpec := { name := "fnExactSparseWeigh", fn := fun _ => fun
  | [d1, d2, d3, d4] => { results := [.lit (.bool true)], args := [d1, d2, d3, d4] }
  | _ => none }
def fnExactSparseWeighRow : OpenClaim := { program := "ytkifpligpobiaaa", sum := "e22f22e0e0aa9134c374d74b2a416e3ced4229eef3f7b31d637c767c51bc0d95", func := "loop.example/g01327/laws.FnExactSparseWeigh", spec := "fnExactSparseWeigh", inPlace := ["math.Float64bits", "math.Float64frombits"], unfollowed := true, recurses := true, plainKeys := false, apart := false }
def FnExactSparseWeighSaid : Prop := fnExactSparseWeighRow.holds Try.pinned (OpenSpec.ofChange fnExactSparseWeighSpec)

/-- ITS FALSE NEIGHBOUR: 'it returns false'. Refute it at one input. -/
def fnExactSparseWeighWrong : ChangeSpec := { name := "fnExactSparseWeigh", fn := fun _ => fun
  | [d1, d2, d3, d4] => { results := [.lit (.bool false)], args := [d1, d2, d3, d4] }
  | _ => none }
def FnExactSparseWeighWrongFalsely : Prop := fnExactSparseWeighRow.holds Try.pinned (OpenSpec.ofChange fnExactSparseWeighWrong)

/-- 'laws.FnExactSparseFill': WHATEVER THE INPUT: true; the input reads as it did. -/
def fnExactSparseFillSpec : ChangeSpec := { name := "fnExactSparseFill", fn := fun _ => fun
  | [d] => { results := [.lit (.bool true)], args := [d] }
  | _ => none }
def fnExactSparseFillRow : OpenClaim := { program := "ytkifpligpobiaaa", sum := "e22f22e0e0aa9134c374d74b2a416e3ced4229eef3f7b31d637c767c51bc0d95", func := "loop.example/g01327/laws.FnExactSparseFill", spec := "fnExactSparseFill", inPlace := ["math.Float64bits", "math.Float64frombits"], unfollowed := true, recurses := true, plainKeys := false, apart := false }
def FnExactSparseFillSaid : Prop := fnExactSparseFillRow.holds Try.pinned (OpenSpec.ofChange fnExactSparseFillSpec)

/-- ITS FALSE NEIGHBOUR: 'it returns false'. Refute it at one input. -/
def fnExactSparseFillWrong : ChangeSpec := { name := "fnExactSparseFill", fn := fun _ => fun
  | [d] => { results := [.lit (.bool false)], args := [d] }
  | _ => none }
def FnExactSparseFillWrongFalsely : Prop := fnExactSparseFillRow.holds Try.pinned (OpenSpec.ofChange fnExactSparseFillWrong)

/-- 'laws.FnExactSparseTree': WHATEVER THE INPUT: true; the input reads as it did. -/
def fnExactSparseTreeSpec : ChangeSpec := { name := "fnExactSparseTree", fn := fun _ => fun
  | [d] => { results := [.lit (.bool true)], args := [d] }
  | _ => none }
def fnExactSparseTreeRow : OpenClaim := { program := "ytkifpligpobiaaa", sum := "e22f22e0e0aa9134c374d74b2a416e3ced4229eef3f7b31d637c767c51bc0d95", func := "loop.example/g01327/laws.FnExactSparseTree", spec := "fnExactSparseTree", inPlace := ["math.Float64bits", "math.Float64frombits"], unfollowed := true, recurses := true, plainKeys := false, apart := false }
def FnExactSparseTreeSaid : Prop := fnExactSparseTreeRow.holds Try.pinned (OpenSpec.ofChange fnExactSparseTreeSpec)

/-- ITS FALSE NEIGHBOUR: 'it returns false'. Refute it at one input. -/
def fnExactSparseTreeWrong : ChangeSpec := { name := "fnExactSparseTree", fn := fun _ => fun
  | [d] => { results := [.lit (.bool false)], args := [d] }
  | _ => none }
def FnExactSparseTreeWrongFalsely : Prop := fnExactSparseTreeRow.holds Try.pinned (OpenSpec.ofChange fnExactSparseTreeWrong)

/-- 'laws.FnExactSparseLeast': WHATEVER THE INPUT: true; the input reads as it did. -/
def fnExactSparseLeastSpec : ChangeSpec := { name := "fnExactSparseLeast", fn := fun _ => fun
  | [d] => { results := [.lit (.bool true)], args := [d] }
  | _ => none }
def fnExactSparseLeastRow : OpenClaim := { program := "ytkifpligpobiaaa", sum := "e22f22e0e0aa9134c374d74b2a416e3ced4229eef3f7b31d637c767c51bc0d95", func := "loop.example/g01327/laws.FnExactSparseLeast", spec := "fnExactSparseLeast", inPlace := ["math.Float64bits", "math.Float64frombits"], unfollowed := true, recurses := true, plainKeys := false, apart := false }
def FnExactSparseLeastSaid : Prop := fnExactSparseLeastRow.holds Try.pinned (OpenSpec.ofChange fnExactSparseLeastSpec)

/-- ITS FALSE NEIGHBOUR: 'it returns false'. Refute it at one input. -/
def fnExactSparseLeastWrong : ChangeSpec := { name := "fnExactSparseLeast", fn := fun _ => fun
  | [d] => { results := [.lit (.bool false)], args := [d] }
  | _ => none }
def FnExactSparseLeastWrongFalsely : Prop := fnExactSparseLeastRow.holds Try.pinned (OpenSpec.ofChange fnExactSparseLeastWrong)

/-- 'laws.FnExactSparseDrop': WHATEVER THE INPUT: true; the input reads as it did. -/
def fnExactSparseDropSpec : ChangeSpec := { name := "fnExactSparseDrop", fn := fun _ => fun
  | [d] => { results := [.lit (.bool true)], args := [d] }
  | _ => none }
def fnExactSparseDropRow : OpenClaim := { program := "ytkifpligpobiaaa", sum := "e22f22e0e0aa9134c374d74b2a416e3ced4229eef3f7b31d637c767c51bc0d95", func := "loop.example/g01327/laws.FnExactSparseDrop", spec := "fnExactSparseDrop", inPlace := ["math.sqrt", "math.Float64bits", "math.Float64frombits"], unfollowed := true, recurses := true, plainKeys := false, apart := false }
def FnExactSparseDropSaid : Prop := fnExactSparseDropRow.holds Try.pinned (OpenSpec.ofChange fnExactSparseDropSpec)

/-- ITS FALSE NEIGHBOUR: 'it returns false'. Refute it at one input. -/
def fnExactSparseDropWrong : ChangeSpec := { name := "fnExactSparseDrop", fn := fun _ => fun
  | [d] => { results := [.lit (.bool false)], args := [d] }
  | _ => none }
def FnExactSparseDropWrongFalsely : Prop := fnExactSparseDropRow.holds Try.pinned (OpenSpec.ofChange fnExactSparseDropWrong)

/- THE SECOND FORM. 'bulk': how many values and letters a reading holds, each counted each time it is reached (what is shared counts as often as it is met; a slice's spare places count too). A statement '..UptoSaid' is the law's where the arguments, and the package variables that the reading takes, are together of bulk at most 1048576: NARROWER than '..Said'. Prove '..Said' where nothing that the law and all that it calls make is longer than what came in: it says more and counts as full. Else prove '..UptoSaid'. A law counts once. -/
mutual
def uptoBulk {H : Type} : DataW H → Nat
  | .lit (.string bytes) => bytes.length + 1
  | .lit _ => 1
  | .nil => 1
  | .ptr d => uptoBulk d + 1
  | .slice elems spare => uptoBulkAll elems + uptoBulkAll spare + 1
  | .agg parts => uptoBulkAll parts + 1
  | .iface _ d => uptoBulk d + 1
  | .map entries => uptoBulkEntries entries + 1
  | .held _ => 1
def uptoBulkAll {H : Type} : List (DataW H) → Nat
  | [] => 0
  | d :: r => uptoBulk d + uptoBulkAll r
def uptoBulkEntries {H : Type} : List (Lit × DataW H) → Nat
  | [] => 0
  | x :: r => uptoBulkEntry x + uptoBulkEntries r
def uptoBulkEntry {H : Type} : Lit × DataW H → Nat
  | (.string bytes, d) => bytes.length + uptoBulk d + 1
  | (_, d) => uptoBulk d + 1
 end
def uptoSmall : (H : Type) → List (DataW H) → Bool := fun _ ds => decide (uptoBulkAll ds ≤ 1048576)
def OpenSpec.upto (s : _root_.Go.ChangeSpec) : _root_.Go.OpenSpec := { _root_.Go.OpenSpec.ofChange s with cond := some uptoSmall }

/-- 'laws.FnExactSparseRoot', WHERE WHAT IT READS IS OF BULK AT MOST 1048576: true; the input reads as it did. -/
def fnExactSparseRootUptoRow : OpenClaim := { program := "ytkifpligpobiaaa", sum := "e22f22e0e0aa9134c374d74b2a416e3ced4229eef3f7b31d637c767c51bc0d95", func := "loop.example/g01327/laws.FnExactSparseRoot", spec := "fnExactSparseRoot", inPlace := ["math.sqrt", "math.Float64bits", "math.Float64frombits"], unfollowed := true, recurses := true, plainKeys := false, apart := false, narrowed := true }
def FnExactSparseRootUptoSaid : Prop := fnExactSparseRootUptoRow.holds Try.pinned (OpenSpec.upto fnExactSparseRootSpec)

/-- 'laws.FnExactSparseOrder', WHERE WHAT IT READS IS OF BULK AT MOST 1048576: true; the input reads as it did. -/
def fnExactSparseOrderUptoRow : OpenClaim := { program := "ytkifpligpobiaaa", sum := "e22f22e0e0aa9134c374d74b2a416e3ced4229eef3f7b31d637c767c51bc0d95", func := "loop.example/g01327/laws.FnExactSparseOrder", spec := "fnExactSparseOrder", inPlace := ["math.Float64bits", "math.Float64frombits"], unfollowed := true, recurses := true, plainKeys := false, apart := false, narrowed := true }
def FnExactSparseOrderUptoSaid : Prop := fnExactSparseOrderUptoRow.holds Try.pinned (OpenSpec.upto fnExactSparseOrderSpec)

/-- 'laws.FnExactSameSparse', WHERE WHAT IT READS IS OF BULK AT MOST 1048576: true; the input reads as it did. -/
def fnExactSameSparseUptoRow : OpenClaim := { program := "ytkifpligpobiaaa", sum := "e22f22e0e0aa9134c374d74b2a416e3ced4229eef3f7b31d637c767c51bc0d95", func := "loop.example/g01327/laws.FnExactSameSparse", spec := "fnExactSameSparse", inPlace := ["math.Float32bits", "math.Float64bits"], unfollowed := true, recurses := true, plainKeys := false, apart := false, narrowed := true }
def FnExactSameSparseUptoSaid : Prop := fnExactSameSparseUptoRow.holds Try.pinned (OpenSpec.upto fnExactSameSparseSpec)

/-- 'laws.FnExactSparseBreadth', WHERE WHAT IT READS IS OF BULK AT MOST 1048576: true; the input reads as it did. -/
def fnExactSparseBreadthUptoRow : OpenClaim := { program := "ytkifpligpobiaaa", sum := "e22f22e0e0aa9134c374d74b2a416e3ced4229eef3f7b31d637c767c51bc0d95", func := "loop.example/g01327/laws.FnExactSparseBreadth", spec := "fnExactSparseBreadth", inPlace := ["math.Float64bits", "math.Float64frombits"], unfollowed := true, recurses := true, plainKeys := false, apart := false, narrowed := true }
def FnExactSparseBreadthUptoSaid : Prop := fnExactSparseBreadthUptoRow.holds Try.pinned (OpenSpec.upto fnExactSparseBreadthSpec)

/-- 'laws.FnExactValidSparse', WHERE WHAT IT READS IS OF BULK AT MOST 1048576: true; the input reads as it did. -/
def fnExactValidSparseUptoRow : OpenClaim := { program := "ytkifpligpobiaaa", sum := "e22f22e0e0aa9134c374d74b2a416e3ced4229eef3f7b31d637c767c51bc0d95", func := "loop.example/g01327/laws.FnExactValidSparse", spec := "fnExactValidSparse", inPlace := ["math.Float64bits", "math.Float64frombits"], unfollowed := true, recurses := true, plainKeys := false, apart := false, narrowed := true }
def FnExactValidSparseUptoSaid : Prop := fnExactValidSparseUptoRow.holds Try.pinned (OpenSpec.upto fnExactValidSparseSpec)

/-- 'laws.FnExactSparseAt', WHERE WHAT IT READS IS OF BULK AT MOST 1048576: true; the input reads as it did. -/
def fnExactSparseAtUptoRow : OpenClaim := { program := "ytkifpligpobiaaa", sum := "e22f22e0e0aa9134c374d74b2a416e3ced4229eef3f7b31d637c767c51bc0d95", func := "loop.example/g01327/laws.FnExactSparseAt", spec := "fnExactSparseAt", inPlace := ["math.Float64bits", "math.Float64frombits"], unfollowed := true, recurses := true, plainKeys := false, apart := false, narrowed := true }
def FnExactSparseAtUptoSaid : Prop := fnExactSparseAtUptoRow.holds Try.pinned (OpenSpec.upto fnExactSparseAtSpec)

/-- 'laws.FnExactSparseBand', WHERE WHAT IT READS IS OF BULK AT MOST 1048576: true; the input reads as it did. -/
def fnExactSparseBandUptoRow : OpenClaim := { program := "ytkifpligpobiaaa", sum := "e22f22e0e0aa9134c374d74b2a416e3ced4229eef3f7b31d637c767c51bc0d95", func := "loop.example/g01327/laws.FnExactSparseBand", spec := "fnExactSparseBand", inPlace := ["math.Float64bits", "math.Float64frombits"], unfollowed := true, recurses := true, plainKeys := false, apart := false, narrowed := true }
def FnExactSparseBandUptoSaid : Prop := fnExactSparseBandUptoRow.holds Try.pinned (OpenSpec.upto fnExactSparseBandSpec)

/-- 'laws.FnExactEntriesOf', WHERE WHAT IT READS IS OF BULK AT MOST 1048576: true; the input reads as it did. -/
def fnExactEntriesOfUptoRow : OpenClaim := { program := "ytkifpligpobiaaa", sum := "e22f22e0e0aa9134c374d74b2a416e3ced4229eef3f7b31d637c767c51bc0d95", func := "loop.example/g01327/laws.FnExactEntriesOf", spec := "fnExactEntriesOf", inPlace := ["math.Float64bits", "math.Float64frombits"], unfollowed := true, recurses := true, plainKeys := false, apart := false, narrowed := true }
def FnExactEntriesOfUptoSaid : Prop := fnExactEntriesOfUptoRow.holds Try.pinned (OpenSpec.upto fnExactEntriesOfSpec)

/-- 'laws.FnExactSparseDegrees', WHERE WHAT IT READS IS OF BULK AT MOST 1048576: true; the input reads as it did. -/
def fnExactSparseDegreesUptoRow : OpenClaim := { program := "ytkifpligpobiaaa", sum := "e22f22e0e0aa9134c374d74b2a416e3ced4229eef3f7b31d637c767c51bc0d95", func := "loop.example/g01327/laws.FnExactSparseDegrees", spec := "fnExactSparseDegrees", inPlace := ["math.Float64bits", "math.Float64frombits"], unfollowed := true, recurses := true, plainKeys := false, apart := false, narrowed := true }
def FnExactSparseDegreesUptoSaid : Prop := fnExactSparseDegreesUptoRow.holds Try.pinned (OpenSpec.upto fnExactSparseDegreesSpec)

/-- 'laws.FnExactSparseFrom', WHERE WHAT IT READS IS OF BULK AT MOST 1048576: true; the input reads as it did. -/
def fnExactSparseFromUptoRow : OpenClaim := { program := "ytkifpligpobiaaa", sum := "e22f22e0e0aa9134c374d74b2a416e3ced4229eef3f7b31d637c767c51bc0d95", func := "loop.example/g01327/laws.FnExactSparseFrom", spec := "fnExactSparseFrom", inPlace := ["math.Float64bits", "math.Float64frombits"], unfollowed := true, recurses := true, plainKeys := false, apart := false, narrowed := true }
def FnExactSparseFromUptoSaid : Prop := fnExactSparseFromUptoRow.holds Try.pinned (OpenSpec.upto fnExactSparseFromSpec)

/-- 'laws.FnExactSparseMul', WHERE WHAT IT READS IS OF BULK AT MOST 1048576: true; the input reads as it did. -/
def fnExactSparseMulUptoRow : OpenClaim := { program := "ytkifpligpobiaaa", sum := "e22f22e0e0aa9134c374d74b2a416e3ced4229eef3f7b31d637c767c51bc0d95", func := "loop.example/g01327/laws.FnExactSparseMul", spec := "fnExactSparseMul", inPlace := ["math.Float64bits", "math.Float64frombits"], unfollowed := true, recurses := true, plainKeys := false, apart := false, narrowed := true }
def FnExactSparseMulUptoSaid : Prop := fnExactSparseMulUptoRow.holds Try.pinned (OpenSpec.upto fnExactSparseMulSpec)

/-- 'laws.FnExactSparseFlip', WHERE WHAT IT READS IS OF BULK AT MOST 1048576: true; the input reads as it did. -/
def fnExactSparseFlipUptoRow : OpenClaim := { program := "ytkifpligpobiaaa", sum := "e22f22e0e0aa9134c374d74b2a416e3ced4229eef3f7b31d637c767c51bc0d95", func := "loop.example/g01327/laws.FnExactSparseFlip", spec := "fnExactSparseFlip", inPlace := ["math.Float64bits", "math.Float64frombits"], unfollowed := true, recurses := true, plainKeys := false, apart := false, narrowed := true }
def FnExactSparseFlipUptoSaid : Prop := fnExactSparseFlipUptoRow.holds Try.pinned (OpenSpec.upto fnExactSparseFlipSpec)

/-- 'laws.FnExactSparseWeigh', WHERE WHAT IT READS IS OF BULK AT MOST 1048576: true; the input reads as it did. -/
def fnExactSparseWeighUptoRow : OpenClaim := { program := "ytkifpligpobiaaa", sum := "e22f22e0e0aa9134c374d74b2a416e3ced4229eef3f7b31d637c767c51bc0d95", func := "loop.example/g01327/laws.FnExactSparseWeigh", spec := "fnExactSparseWeigh", inPlace := ["math.Float64bits", "math.Float64frombits"], unfollowed := true, recurses := true, plainKeys := false, apart := false, narrowed := true }
def FnExactSparseWeighUptoSaid : Prop := fnExactSparseWeighUptoRow.holds Try.pinned (OpenSpec.upto fnExactSparseWeighSpec)

/-- 'laws.FnExactSparseFill', WHERE WHAT IT READS IS OF BULK AT MOST 1048576: true; the input reads as it did. -/
def fnExactSparseFillUptoRow : OpenClaim := { program := "ytkifpligpobiaaa", sum := "e22f22e0e0aa9134c374d74b2a416e3ced4229eef3f7b31d637c767c51bc0d95", func := "loop.example/g01327/laws.FnExactSparseFill", spec := "fnExactSparseFill", inPlace := ["math.Float64bits", "math.Float64frombits"], unfollowed := true, recurses := true, plainKeys := false, apart := false, narrowed := true }
def FnExactSparseFillUptoSaid : Prop := fnExactSparseFillUptoRow.holds Try.pinned (OpenSpec.upto fnExactSparseFillSpec)

/-- 'laws.FnExactSparseTree', WHERE WHAT IT READS IS OF BULK AT MOST 1048576: true; the input reads as it did. -/
def fnExactSparseTreeUptoRow : OpenClaim := { program := "ytkifpligpobiaaa", sum := "e22f22e0e0aa9134c374d74b2a416e3ced4229eef3f7b31d637c767c51bc0d95", func := "loop.example/g01327/laws.FnExactSparseTree", spec := "fnExactSparseTree", inPlace := ["math.Float64bits", "math.Float64frombits"], unfollowed := true, recurses := true, plainKeys := false, apart := false, narrowed := true }
def FnExactSparseTreeUptoSaid : Prop := fnExactSparseTreeUptoRow.holds Try.pinned (OpenSpec.upto fnExactSparseTreeSpec)

/-- 'laws.FnExactSparseLeast', WHERE WHAT IT READS IS OF BULK AT MOST 1048576: true; the input reads as it did. -/
def fnExactSparseLeastUptoRow : OpenClaim := { program := "ytkifpligpobiaaa", sum := "e22f22e0e0aa9134c374d74b2a416e3ced4229eef3f7b31d637c767c51bc0d95", func := "loop.example/g01327/laws.FnExactSparseLeast", spec := "fnExactSparseLeast", inPlace := ["math.Float64bits", "math.Float64frombits"], unfollowed := true, recurses := true, plainKeys := false, apart := false, narrowed := true }
def FnExactSparseLeastUptoSaid : Prop := fnExactSparseLeastUptoRow.holds Try.pinned (OpenSpec.upto fnExactSparseLeastSpec)

/-- 'laws.FnExactSparseDrop', WHERE WHAT IT READS IS OF BULK AT MOST 1048576: true; the input reads as it did. -/
def fnExactSparseDropUptoRow : OpenClaim := { program := "ytkifpligpobiaaa", sum := "e22f22e0e0aa9134c374d74b2a416e3ced4229eef3f7b31d637c767c51bc0d95", func := "loop.example/g01327/laws.FnExactSparseDrop", spec := "fnExactSparseDrop", inPlace := ["math.sqrt", "math.Float64bits", "math.Float64frombits"], unfollowed := true, recurses := true, plainKeys := false, apart := false, narrowed := true }
def FnExactSparseDropUptoSaid : Prop := fnExactSparseDropUptoRow.holds Try.pinned (OpenSpec.upto fnExactSparseDropSpec)

end Rows
end Go.Proofs.Ytkifpligpobiaaa
