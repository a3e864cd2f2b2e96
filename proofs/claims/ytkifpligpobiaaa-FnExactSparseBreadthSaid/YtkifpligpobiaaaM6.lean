
import Derived.Test.YtkifpligpobiaaaM4

import Derived.Test.YtkifpligpobiaaaA2
set_option linter.unusedVariables false
set_option linter.unusedSimpArgs false

namespace Go.Proofs.Ytkifpligpobiaaa

open Go.RowKit

theorem info_f32 : (Try.prog.info? 43).map (fun i => (i.zero, i.size, i.bytes)) = some (some (.float .f32 0), 1, 4) := by kernel_rfl

/-- A matrix with a row of its own. -/
def RetMat (w : World) (r c : Int) (n : Nat) (L : List (Option Nat)) (e : Ending) (w' : World) : Prop := ∃ A k ys, cfs ys = L ∧ e = .returned (.agg #[.int .i64 r, .int .i64 c, .slice A n k]) ∧ Own w' w.heap.size 43 (.slice A n k) (flts ys) ∧ Ext w w'
/-- A list of its own. -/
def RetFs (w : World) (n : Nat) (L : List (Option Nat)) (e : Ending) (w' : World) : Prop := ∃ A k ys, cfs ys = L ∧ e = .returned (.slice A n k) ∧ Own w' w.heap.size 43 (.slice A n k) (flts ys) ∧ Ext w w'
/-- A matrix that a function answers, or that it fails. -/
structure MD where
  r : Int
  c : Int
  xs : List Nat
  ok : Bool
def MD.bad : MD := ⟨0, 0, [], false⟩
def RetMDb (w : World) (base : Nat) (d : MD) (e : Ending) (w' : World) : Prop := ∃ A k, e = .returned (.tuple #[.agg #[.int .i64 d.r, .int .i64 d.c, .slice A d.xs.length k], .bool d.ok]) ∧ Own w' base 43 (.slice A d.xs.length k) (flts d.xs) ∧ Ext w w'
def RetMD (w : World) (d : MD) (e : Ending) (w' : World) : Prop := RetMDb w w.heap.size d e w'
theorem RetMD.bad {w w' : World} {base : Nat} {d : MD} (hd : d = MD.bad) (h : Ext w w') : RetMDb w base d (.returned (.tuple #[.agg #[.int .i64 0, .int .i64 0, .slice none 0 0], .bool false])) w' := by
  subst hd
  exact ⟨none, 0, rfl, own_nil _ _ _, h⟩
/-- What lies done of a table. -/
def doneT (F : Nat → Nat → Option Nat) (i k : Nat) : Nat → Nat → Option Nat := fun a b => if a < i ∨ (a = i ∧ b < k) then F a b else some 0
theorem doneT_row (F : Nat → Nat → Option Nat) (i C R : Nat) : tab C (doneT F i C) (R * C) = tab C (doneT F (i + 1) 0) (R * C) := tab_congr (by
  intro a b _ hb
  unfold doneT
  by_cases h : a < i + 1
  · rw [if_pos (by omega), if_pos (by omega)]
  · rw [if_neg (by omega), if_neg (by omega)])

end Go.Proofs.Ytkifpligpobiaaa
