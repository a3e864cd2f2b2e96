
/- How a struct of whole numbers and slices of floats is read as data. Nothing of the program. -/

import Derived.Test.YtkifpligpobiaaaT0

import Derived.ProofKit

import Derived.Lib.SmallJoins

import Derived.OpenShut

import Derived.Deep.Slices
set_option linter.unusedVariables false
set_option linter.unusedSimpArgs false

namespace Go.Proofs.Ytkifpligpobiaaa

open Go.RowKit Go.ChangeShapes Go.WideShapes Go.Deep

section

variable {H : Type} {enc : TypeId × Value → H} {P : Program} {w : World}

theorem wf_i64 {x : Int} (h : (Lit.int .i64 x).wf = true) : -9223372036854775808 ≤ x ∧ x ≤ 9223372036854775807 := by simpa [Lit.wf, IntKind.min, IntKind.max, IntKind.signed, IntKind.bits] using h
/-- A slice of whole numbers that came in. -/
theorem open_int_slice {t e : TypeId} {fuel : Nat} {v : Value} {x : DataW H × List MemPlace} (ht : P.underlying t = some (.slice e)) (he : P.underlying e = some (.int .i64)) (hc : P.cellsOf e = 1)
    (h : DataW.trod enc P w 0 (fun _ => true) true fuel t [v] = some x) : ∃ A n cap xs, v = .slice A n cap ∧ Rds w A n (ints xs) := by
  rcases open_ints ht he hc h with ⟨hcs, _⟩ | ⟨a, len, cap, zs, hcs, _, hl, hm, hz, _, hcell, _⟩
  · simp only [List.cons.injEq, and_true] at hcs
    exact ⟨none, 0, 0, [], hcs, rfl, by omega, fun h => by omega⟩
  · simp only [List.cons.injEq, and_true] at hcs
    simp only [if_true] at hz
    refine ⟨some a, len, cap, zs.take len, hcs, ?_, by unfold maxLen at hm; omega, fun _ => ⟨a, rfl, fun j hj => ?_⟩⟩
    · rw [ints_length, List.length_take]; omega
    · rw [hcell j (by omega), ints_get (by rw [List.length_take]; omega)]
      congr 2
      have h1 : j < zs.length := by omega
      simp [rd, h1, hj]
theorem trod_flt {base : Nat} {spare : Nat → Bool} {held : Bool} {t : TypeId} {k : FloatKind} {fuel : Nat} {cs : List Value} {x : DataW H × List MemPlace} (ht : P.underlying t = some (.float k)) (h : DataW.trod enc P w base spare held fuel t cs = some x) : ∃ n, cs = [.float k n] ∧ x = (.lit (.float k n), []) ∧ (Lit.float k n).wf = true := by
  cases fuel with
  | zero => simp [DataW.trod] at h
  | succ n =>
    unfold DataW.trod at h
    rw [ht] at h
    split at h <;> simp_all
/-- A slice of floats that came in. -/
theorem open_flt_slice {t e : TypeId} {fuel : Nat} {v : Value} {x : DataW H × List MemPlace} (ht : P.underlying t = some (.slice e)) (he : P.underlying e = some (.float .f32)) (hc : P.cellsOf e = 1)
    (h : DataW.trod enc P w 0 (fun _ => true) true fuel t [v] = some x) : ∃ A n cap xs, v = .slice A n cap ∧ Rds w A n (flts xs) ∧ ∀ x ∈ xs, x < 4294967296 := by
  rcases DataW.trod_slice ht h with ⟨hcs, _⟩ | ⟨a, len, cap, elems, rest, n, _, hcs, _, hb, hl, hm, hlen, hel, hsp, hns⟩
  · simp only [List.cons.injEq, and_true] at hcs
    exact ⟨none, 0, 0, [], hcs, ⟨rfl, by omega, fun h => by omega⟩, fun _ h => by cases h⟩
  · simp only [List.cons.injEq, and_true] at hcs
    have each : ∀ i, i < len → ∃ b, w.cell? (a.add i) = some (.float .f32 b) ∧ (Lit.float .f32 b).wf = true := by
      intro i hi
      have h1 := hel i hi
      have hi' : i < elems.length := by omega
      rw [List.getElem?_eq_getElem hi', hc, Nat.mul_one, Option.bind_eq_some_iff] at h1
      obtain ⟨cs', hcs', hy'⟩ := h1
      obtain ⟨b, rfl, _, hw⟩ := trod_flt he hy'
      exact ⟨b, cell_of_cells?_one hcs', hw⟩
    refine ⟨some a, len, cap, (List.range len).map fun i => match w.cell? (a.add i) with | some (.float _ b) => b | _ => 0, hcs, ⟨by simp [flts], by unfold maxLen at hm; omega, fun _ => ⟨a, rfl, fun j hj => ?_⟩⟩, ?_⟩
    · obtain ⟨b, hb1, _⟩ := each j hj
      rw [hb1]
      simp [flts, hj, hb1]
    · intro x hx
      rw [List.mem_map] at hx
      obtain ⟨i, hi, rfl⟩ := hx
      rw [List.mem_range] at hi
      obtain ⟨b, hb1, hb2⟩ := each i hi
      rw [hb1]
      have : b < 2 ^ 32 := by simpa [Lit.wf] using hb2
      exact this
end

end Go.Proofs.Ytkifpligpobiaaa
