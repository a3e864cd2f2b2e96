
/- Maps from places to numbers. -/

import Derived.Test.YtkifpligpobiaaaQ3

import Derived.Maps.RangeWalk

import Derived.DeepKeys4
set_option linter.unusedVariables false
set_option linter.unusedSimpArgs false

namespace Go.Proofs.Ytkifpligpobiaaa

open Go.RowKit


theorem laid_out : laidOutB Try.prog = true := by kernel_rfl
theorem place_row : 95 < Try.prog.types.size := by
  have h : decide (95 < Try.prog.types.size) = true := by kernel_rfl
  exact of_decide_eq_true h
theorem place_law : Maps.Keyed Try.prog 95 := Maps.Keyed.of_law (deep_law_laid laid_out (m := 2) (by omega) place_row (by kernel_rfl) (by rw [Try.underlying95]))

theorem place_deep : Try.prog.keyType 95 = true := by kernel_rfl
theorem place_deep' : Try.prog.keyTypeAt (Try.prog.types.size + 1) 95 = true := by kernel_rfl
theorem place_cells : Try.prog.cellsOf 95 = 2 := by kernel_rfl
theorem int_cells : Try.prog.cellsOf 2 = 1 := by kernel_rfl
theorem place_size : ∃ d, Try.prog.types.size + 1 = d + 2 := by
  have h := place_row
  exact ⟨Try.prog.types.size - 1, by omega⟩
def placeV (i j : Int) : Value := .agg #[.int .i64 i, .int .i64 j]
theorem place_some {i j : Int} (hi : (Lit.int .i64 i).wf = true) (hj : (Lit.int .i64 j).wf = true) : ∃ l, keyOf Try.prog 95 (placeV i j) = some l := by
  obtain ⟨d, hd⟩ := place_size
  unfold keyOf placeV
  rw [Try.underlying95]
  simp only [place_deep, Value.formed, Try.underlying95, place_cells]
  rw [hd]
  simp [Program.keyLits, Try.underlying95, Try.underlying2, place_cells, int_cells, hi, hj, Value.cells]

/-- The key of a place. -/
noncomputable def kp (i j : Int) : Lit := (keyOf Try.prog 95 (placeV i j)).getD (.bool false)
theorem kp_key {i j : Int} (hi : (Lit.int .i64 i).wf = true) (hj : (Lit.int .i64 j).wf = true) : keyOf Try.prog 95 (placeV i j) = some (kp i j) := by
  obtain ⟨l, hl⟩ := place_some hi hj
  unfold kp
  rw [hl]
  rfl
attribute [irreducible] kp
theorem nat_wf {i : Nat} (h : i < 64) : (Lit.int .i64 (i : Int)).wf = true := by
  simp [Lit.wf, IntKind.min, IntKind.max, IntKind.signed, IntKind.bits]
  omega
theorem kp_inj {i j a b : Nat} (hi : i < 64) (hj : j < 64) (ha : a < 64) (hb : b < 64) (h : kp i j = kp a b) : i = a ∧ j = b := by
  have h1 := kp_key (nat_wf hi) (nat_wf hj)
  have h2 := kp_key (nat_wf ha) (nat_wf hb)
  rw [h] at h1
  have := place_law.inj h1 h2
  simp [placeV] at this
  omega
/-- How a number of a map reads. -/
def fltR (v : Value) : Option (DataW Unit × List MemPlace) := match v with
  | .float .f32 x => some (.lit (.float .f32 x), [])
  | _ => none

end Go.Proofs.Ytkifpligpobiaaa
