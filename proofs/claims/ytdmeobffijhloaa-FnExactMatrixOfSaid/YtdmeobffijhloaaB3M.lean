
import Derived.Test.YtdmeobffijhloaaB2M
set_option linter.unusedVariables false
set_option linter.unusedSimpArgs false

namespace Go.Proofs.Ytdmeobffijhloaa

open Go.RowKit

/-- A Matrix with a row of its own. -/
def RetMx (w : World) (r c : Int) (n : Nat) (xs : List Nat) (e : Ending) (w' : World) : Prop := ∃ A k, e = .returned (.agg #[.int .i64 r, .int .i64 c, .slice A n k]) ∧ Own w' w.heap.size 46 (.slice A n k) (flts xs) ∧ Ext w w'

set_option maxHeartbeats 1000000 in
theorem eqMatrix_any (r c r' c' : Int) (A B : Option Addr) (n m cap cap' : Nat) (xs ys : List Nat) (w : World) (hr : Rds w A n (flts xs)) (hq : Rds w B m (flts ys)) (h : r = r' ∧ c = c' ∧ xs = ys) :
    Calls Try.prog 9 #[.agg #[.int .i64 r, .int .i64 c, .slice A n cap], .agg #[.int .i64 r', .int .i64 c', .slice B m cap']] w fun e w' => e = .returned (.bool true) ∧ Ext w w' := by
  obtain ⟨rfl, rfl, rfl⟩ := h
  have hx0 : Ext w ((w.alloc (.cells #[.int .i64 r, .int .i64 c, .slice A n cap] 28)).alloc (.cells #[.int .i64 r, .int .i64 c, .slice B m cap'] 28)) := ((Ext.refl _).alloc _).alloc _
  have d1 : (r != r) = false := by simp
  have d2 : (c != c) = false := by simp
  go_enter Try.func9, Try.ntmps9
  go_wp2_with fail
  refine (eqFloat32S_any A B n m cap cap' xs xs _ (hr.below hx0) (hq.below hx0) rfl).mono ?_
  rintro e w1 ⟨rfl, hx⟩
  go_wp2_with fail
  go_ret
  exact ⟨rfl, hx0.trans hx⟩

set_option maxHeartbeats 1000000 in
theorem markMatrix_any (base : Nat) (r c : Int) (A : Option Addr) (n cap : Nat) (vs : List Value) (k : Int) (w : World) (hk : 0 ≤ k ∧ k ≤ 100000000) (hown : Own w base 46 (.slice A n cap) vs) :
    Calls Try.prog 12 #[.agg #[.int .i64 r, .int .i64 c, .slice A n cap], .int .i64 k] w fun e w' => e = .returned (.int .i64 (k + n)) ∧ Own w' base 46 (.slice A n cap) (flts (marksF k n)) ∧ Wr w w' (.slice A n cap) := by
  have hs := hown.small
  have hl := hown.len
  rw [hl] at hs
  clear hl
  go_enter Try.func12, Try.ntmps12
  go_wp2_with fail
  refine (markFloat32S_any base A n cap vs k _ hk (hown.ext ((Ext.refl _).alloc _))).mono ?_
  rintro e w1 ⟨rfl, h1, h2⟩
  go_wp2_with fail
  go_ret
  exact ⟨rfl, h1, (Wr.of_ext ((Ext.refl _).alloc _) _).trans h2⟩

set_option maxHeartbeats 1000000 in
theorem heldMatrix_any (r c : Int) (A : Option Addr) (n cap : Nat) (k : Int) (w : World) (hk : 0 ≤ k ∧ k ≤ 100000000) (hn : n ≤ 1048576) (hr : Rds w A n (flts (marksF k n))) :
    Calls Try.prog 13 #[.agg #[.int .i64 r, .int .i64 c, .slice A n cap], .int .i64 k] w fun e w' => e = .returned (.int .i64 (k + n)) ∧ Ext w w' := by
  go_enter Try.func13, Try.ntmps13
  go_wp2_with fail
  refine (heldFloat32S_any A n cap k _ hk hn (hr.below ((Ext.refl _).alloc _))).mono ?_
  rintro e w1 ⟨rfl, h1⟩
  go_wp2_with fail
  go_ret
  exact ⟨rfl, ((Ext.refl _).alloc _).trans h1⟩

end Go.Proofs.Ytdmeobffijhloaa
