
/- How a struct of whole numbers and slices is read as data. Nothing of the program. -/

import Derived.Test.YtdmeobffijhloaaLib

import Derived.ProofKit

import Derived.Lib.SmallJoins

import Derived.OpenShut

import Derived.Deep.Slices
set_option linter.unusedVariables false
set_option linter.unusedSimpArgs false

namespace Go.Proofs.Ytdmeobffijhloaa

open Go.RowKit Go.ChangeShapes Go.WideShapes Go.Deep

section

variable {H : Type} {enc : TypeId × Value → H} {P : Program} {w : World}

/-- A slice of whole numbers that came in. -/
theorem wf_i64 {x : Int} (h : (Lit.int .i64 x).wf = true) : -9223372036854775808 ≤ x ∧ x ≤ 9223372036854775807 := by simpa [Lit.wf, IntKind.min, IntKind.max, IntKind.signed, IntKind.bits] using h
theorem open_int_slice {t e : TypeId} {fuel : Nat} {v : Value} {x : DataW H × List MemPlace} (ht : P.underlying t = some (.slice e)) (he : P.underlying e = some (.int .i64)) (hc : P.cellsOf e = 1)
    (h : DataW.trod enc P w 0 (fun _ => true) true fuel t [v] = some x) : ∃ A n cap xs, v = .slice A n cap ∧ Rds w A n (ints xs) := by
  rcases open_ints ht he hc h with ⟨hcs, _⟩ | ⟨a, len, cap, zs, hcs, _, hl, hm, hz, _, hcell, _⟩
  · simp only [List.cons.injEq, and_true] at hcs
    exact ⟨none, 0, 0, [], hcs, rfl, by omega, fun h => by omega⟩
  · simp only [List.cons.injEq, and_true] at hcs
    simp only [if_true] at hz
    refine ⟨some a, len, cap, zs.take len, hcs, ?_, by unfold maxLen at hm; omega, fun _ => ⟨a, rfl, fun j hj => ?_⟩⟩
    · rw [ints_length, List.length_take]; omega
    · rw [hcell j (by omega), ints_get (by rw [List.length_take]; omega)]
      congr 2
      have h1 : j < zs.length := by omega
      simp [rd, h1, hj]
end

end Go.Proofs.Ytdmeobffijhloaa
