import Derived.Test.YtgjfdfmbknmpaaaB2M
set_option linter.unusedVariables false
set_option linter.unusedSimpArgs false
namespace Go.Proofs.Ytgjfdfmbknmpaaa
open Go.RowKit

set_option maxHeartbeats 1000000 in
theorem szMatrix_any (r c : Int) (A : Option Addr) (n cap : Nat) (left : Int) (hl : 0 ≤ left ∧ left ≤ 1048576) (hn : n ≤ 9223372036854775807) (w : World) :
    Calls Try.prog 35 #[.agg #[.int .i64 r, .int .i64 c, .slice A n cap], .int .i64 left] w fun e w' => e = .returned (.int .i64 (szL n left)) ∧ Ext w w' := by
  have hb : -1 ≤ szL n left ∧ szL n left ≤ 1048576 := by unfold szL; split <;> omega
  by_cases h : szL n left < 0
  all_goals
    go_enter Try.func35, Try.ntmps35
    go_wp2_with fail
    refine (szFloat32S_any A n cap left hl hn _).mono ?_
    rintro e w1 ⟨rfl, rfl⟩
    go_wp2_with fail
    go_ret
    exact ⟨ret_int (by unfold szL at h hb ⊢; split at h <;> split <;> omega), (Ext.refl _).alloc _⟩

/-- A Matrix with a row of its own. -/
def RetMx (w : World) (r c : Int) (n : Nat) (xs : List Nat) (e : Ending) (w' : World) : Prop := ∃ A k, e = .returned (.agg #[.int .i64 r, .int .i64 c, .slice A n k]) ∧ Own w' w.heap.size 39 (.slice A n k) (flts xs) ∧ Ext w w'

set_option maxHeartbeats 1000000 in
theorem toMatrix_any (r c : Int) (A : Option Addr) (n cap : Nat) (xs : List Nat) (w : World) (hr : Rds w A n (flts xs)) (hn : n ≤ 1048576) :
    Calls Try.prog 37 #[.agg #[.int .i64 r, .int .i64 c, .slice A n cap]] w (RetMx w r c n xs) := by
  go_enter Try.func37, Try.ntmps37
  go_wp2_with fail
  have hx0 : Ext w (((w.alloc (.cells #[.int .i64 r, .int .i64 c, .slice A n cap] 32)).alloc (.cells #[.int .i64 0, .int .i64 0, .slice none 0 0] 35)).alloc (.cells #[.int .i64 r, .int .i64 c, .slice none 0 0] 35)) := (((Ext.refl _).alloc _).alloc _).alloc _
  refine (toFloat32S_any A n cap xs _ (hr.below hx0) hn).mono ?_
  rintro e w1 ⟨A', k', rfl, hown, hx⟩
  obtain ⟨hc, hf⟩ := ecell hx
  have hz : w.heap.size + 1 + 1 < w1.heap.size := by have := hx.size; simp at this; omega
  have hx1 := hx0.trans hx
  clear hx hx0
  go_wp2_with fail
  refine bodyPost_ret (v := .agg #[.int .i64 r, .int .i64 c, .slice A' n k']) (by simp [results, Try.results37, go_sem, hc, hz]) rfl ⟨A', k', rfl, ?_, ?_⟩
  · exact ((((hown.set (by simp) _).set (by simp) _).set (by simp) _).set (by simp) _).base (by simp; omega)
  · exact (((hx1.set (by simp; omega) _).set (by simp) _).set (by simp) _).set (by simp) _

set_option maxHeartbeats 1000000 in
theorem eqMatrix_any (r c r' c' : Int) (A B : Option Addr) (n m cap cap' : Nat) (xs ys : List Nat) (w : World) (hr : Rds w A n (flts xs)) (hq : Rds w B m (flts ys)) (h : r = r' ∧ c = c' ∧ xs = ys) :
    Calls Try.prog 39 #[.agg #[.int .i64 r, .int .i64 c, .slice A n cap], .agg #[.int .i64 r', .int .i64 c', .slice B m cap']] w fun e w' => e = .returned (.bool true) ∧ Ext w w' := by
  obtain ⟨rfl, rfl, rfl⟩ := h
  have hx0 : Ext w ((w.alloc (.cells #[.int .i64 r, .int .i64 c, .slice A n cap] 35)).alloc (.cells #[.int .i64 r, .int .i64 c, .slice B m cap'] 35)) := ((Ext.refl _).alloc _).alloc _
  have d1 : (r != r) = false := by simp
  have d2 : (c != c) = false := by simp
  go_enter Try.func39, Try.ntmps39
  go_wp2_with fail
  refine (eqFloat32S_any A B n m cap cap' xs xs _ (hr.below hx0) (hq.below hx0) rfl).mono ?_
  rintro e w1 ⟨rfl, hx⟩
  go_wp2_with fail
  go_ret
  exact ⟨rfl, hx0.trans hx⟩

set_option maxHeartbeats 1000000 in
theorem markMatrix_any (base : Nat) (r c : Int) (A : Option Addr) (n cap : Nat) (vs : List Value) (k : Int) (w : World) (hk : 0 ≤ k ∧ k ≤ 100000000) (hown : Own w base 39 (.slice A n cap) vs) :
    Calls Try.prog 48 #[.agg #[.int .i64 r, .int .i64 c, .slice A n cap], .int .i64 k] w fun e w' => e = .returned (.int .i64 (k + n)) ∧ Own w' base 39 (.slice A n cap) (flts (marksF k n)) ∧ Wr w w' (.slice A n cap) := by
  have hs := hown.small
  have hl := hown.len
  rw [hl] at hs
  clear hl
  go_enter Try.func48, Try.ntmps48
  go_wp2_with fail
  refine (markFloat32S_any base A n cap vs k _ hk (hown.ext ((Ext.refl _).alloc _))).mono ?_
  rintro e w1 ⟨rfl, h1, h2⟩
  go_wp2_with fail
  go_ret
  exact ⟨rfl, h1, (Wr.of_ext ((Ext.refl _).alloc _) _).trans h2⟩

set_option maxHeartbeats 1000000 in
theorem heldMatrix_any (r c : Int) (A : Option Addr) (n cap : Nat) (k : Int) (w : World) (hk : 0 ≤ k ∧ k ≤ 100000000) (hn : n ≤ 1048576) (hr : Rds w A n (flts (marksF k n))) :
    Calls Try.prog 49 #[.agg #[.int .i64 r, .int .i64 c, .slice A n cap], .int .i64 k] w fun e w' => e = .returned (.int .i64 (k + n)) ∧ Ext w w' := by
  go_enter Try.func49, Try.ntmps49
  go_wp2_with fail
  refine (heldFloat32S_any A n cap k _ hk hn (hr.below ((Ext.refl _).alloc _))).mono ?_
  rintro e w1 ⟨rfl, h1⟩
  go_wp2_with fail
  go_ret
  exact ⟨rfl, ((Ext.refl _).alloc _).trans h1⟩

end Go.Proofs.Ytgjfdfmbknmpaaa
