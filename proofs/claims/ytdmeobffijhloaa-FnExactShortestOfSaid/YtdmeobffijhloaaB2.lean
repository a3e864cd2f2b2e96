
import Derived.Test.YtdmeobffijhloaaB1
set_option linter.unusedVariables false
set_option linter.unusedSimpArgs false

namespace Go.Proofs.Ytdmeobffijhloaa

open Go.RowKit

set_option maxHeartbeats 1000000 in
theorem szWhole_any (r c : Int) (A : Option Addr) (n cap : Nat) (left : Int) (hl : 0 ≤ left ∧ left ≤ 1048576) (hn : n ≤ 9223372036854775807) (w : World) :
    Calls Try.prog 5 #[.agg #[.int .i64 r, .int .i64 c, .slice A n cap], .int .i64 left] w fun e w' => e = .returned (.int .i64 (szL n left)) ∧ Ext w w' := by
  have hb : -1 ≤ szL n left ∧ szL n left ≤ 1048576 := by unfold szL; split <;> omega
  by_cases h : szL n left < 0
  all_goals
    go_enter Try.func5, Try.ntmps5
    go_wp2_with fail
    refine (szInt64S_any A n cap left hl hn _).mono ?_
    rintro e w1 ⟨rfl, rfl⟩
    go_wp2_with fail
    go_ret
    exact ⟨ret_int (by unfold szL at h hb ⊢; split at h <;> split <;> omega), (Ext.refl _).alloc _⟩

/-- A Whole with a row of its own. -/
def RetWhole (w : World) (r c : Int) (n : Nat) (xs : List Int) (e : Ending) (w' : World) : Prop := ∃ A k, e = .returned (.agg #[.int .i64 r, .int .i64 c, .slice A n k]) ∧ Own w' w.heap.size 2 (.slice A n k) (ints xs) ∧ Ext w w'

set_option maxHeartbeats 1000000 in
theorem toWhole_any (r c : Int) (A : Option Addr) (n cap : Nat) (xs : List Int) (w : World) (hr : Rds w A n (ints xs)) (hn : n ≤ 1048576) :
    Calls Try.prog 7 #[.agg #[.int .i64 r, .int .i64 c, .slice A n cap]] w (RetWhole w r c n xs) := by
  go_enter Try.func7, Try.ntmps7
  go_wp2_with fail
  have hx0 : Ext w (((w.alloc (.cells #[.int .i64 r, .int .i64 c, .slice A n cap] 24)).alloc (.cells #[.int .i64 0, .int .i64 0, .slice none 0 0] 31)).alloc (.cells #[.int .i64 r, .int .i64 c, .slice none 0 0] 31)) := (((Ext.refl _).alloc _).alloc _).alloc _
  refine (toInt64S_any A n cap xs _ (hr.below hx0) hn).mono ?_
  rintro e w1 ⟨A', k', rfl, hown, hx⟩
  obtain ⟨hc, hf⟩ := ecell hx
  have hz : w.heap.size + 1 + 1 < w1.heap.size := by have := hx.size; simp at this; omega
  have hx1 := hx0.trans hx
  clear hx hx0
  go_wp2_with fail
  refine bodyPost_ret (v := .agg #[.int .i64 r, .int .i64 c, .slice A' n k']) (by simp [results, Try.results7, go_sem, hc, hz]) rfl ⟨A', k', rfl, ?_, ?_⟩
  · exact ((((hown.set (by simp) _).set (by simp) _).set (by simp) _).set (by simp) _).base (by simp; omega)
  · exact (((hx1.set (by simp; omega) _).set (by simp) _).set (by simp) _).set (by simp) _

def eqWB (r c r' c' : Int) (xs ys : List Int) : Bool := decide (r = r') && decide (c = c') && decide (xs = ys)
theorem eqWB_refl (r c : Int) (xs : List Int) : eqWB r c r c xs xs = true := by simp [eqWB]
set_option maxHeartbeats 1000000 in
theorem eqWhole_any (r c r' c' : Int) (A B : Option Addr) (n m cap cap' : Nat) (xs ys : List Int) (w : World) (hr : Rds w A n (ints xs)) (hq : Rds w B m (ints ys)) :
    Calls Try.prog 10 #[.agg #[.int .i64 r, .int .i64 c, .slice A n cap], .agg #[.int .i64 r', .int .i64 c', .slice B m cap']] w fun e w' => e = .returned (.bool (eqWB r c r' c' xs ys)) ∧ Ext w w' := by
  obtain ⟨res, hres⟩ : ∃ res, res = eqWB r c r' c' xs ys := ⟨_, rfl⟩
  rw [← hres]
  unfold eqWB at hres
  have Hres := Lib.hid hres
  clear hres
  have hx0 : Ext w ((w.alloc (.cells #[.int .i64 r, .int .i64 c, .slice A n cap] 31)).alloc (.cells #[.int .i64 r', .int .i64 c', .slice B m cap'] 31)) := ((Ext.refl _).alloc _).alloc _
  by_cases h1 : r = r'
  · have d1 : (r != r') = false := by simp [h1]
    by_cases h2 : c = c'
    · have d2 : (c != c') = false := by simp [h2]
      have E : Hid (r = r' ∧ c = c') := ⟨h1, h2⟩
      clear h1 h2
      by_cases h3 : xs = ys
      · have d3 : decide (xs = ys) = true := decide_eq_true h3
        have E3 := Lib.hid h3
        clear h3
        go_enter Try.func10, Try.ntmps10
        go_wp2_with fail
        refine (eqInt64S_any A B n m cap cap' xs ys _ (hr.below hx0) (hq.below hx0)).mono ?_
        rintro e w1 ⟨rfl, hx⟩
        go_wp2_with fail
        go_ret
        exact ⟨ret_bool (by rw [Hres.out, decide_eq_true E.out.1, decide_eq_true E.out.2, d3]; rfl), hx0.trans hx⟩
      · have d3 : decide (xs = ys) = false := decide_eq_false h3
        go_enter Try.func10, Try.ntmps10
        go_wp2_with fail
        refine (eqInt64S_any A B n m cap cap' xs ys _ (hr.below hx0) (hq.below hx0)).mono ?_
        rintro e w1 ⟨rfl, hx⟩
        go_wp2_with fail
        go_ret
        exact ⟨ret_bool (by rw [Hres.out, decide_eq_true E.out.1, decide_eq_true E.out.2, d3]; rfl), hx0.trans hx⟩
    · have d2 : (c != c') = true := by simp [h2]
      go_enter Try.func10, Try.ntmps10
      go_wp2_with fail
      go_ret
      exact ⟨ret_bool (by rw [Hres.out, decide_eq_false h2]; simp), ((Ext.refl _).alloc _).alloc _⟩
  · have d1 : (r != r') = true := by simp [h1]
    go_enter Try.func10, Try.ntmps10
    go_wp2_with fail
    go_ret
    exact ⟨ret_bool (by rw [Hres.out, decide_eq_false h1]; simp), ((Ext.refl _).alloc _).alloc _⟩

set_option maxHeartbeats 1000000 in
theorem markWhole_any (base : Nat) (r c : Int) (A : Option Addr) (n cap : Nat) (vs : List Value) (k : Int) (w : World) (hk : 0 ≤ k ∧ k ≤ 100000000) (hown : Own w base 2 (.slice A n cap) vs) :
    Calls Try.prog 11 #[.agg #[.int .i64 r, .int .i64 c, .slice A n cap], .int .i64 k] w fun e w' => e = .returned (.int .i64 (k + n)) ∧ Own w' base 2 (.slice A n cap) (ints (marks k n)) ∧ Wr w w' (.slice A n cap) := by
  have hs := hown.small
  have hl := hown.len
  rw [hl] at hs
  clear hl
  go_enter Try.func11, Try.ntmps11
  go_wp2_with fail
  refine (markInt64S_any base A n cap vs k _ hk (hown.ext ((Ext.refl _).alloc _))).mono ?_
  rintro e w1 ⟨rfl, h1, h2⟩
  go_wp2_with fail
  go_ret
  exact ⟨rfl, h1, (Wr.of_ext ((Ext.refl _).alloc _) _).trans h2⟩

end Go.Proofs.Ytdmeobffijhloaa
