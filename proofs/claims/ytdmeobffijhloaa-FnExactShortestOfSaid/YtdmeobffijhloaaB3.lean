
import Derived.Test.YtdmeobffijhloaaA2

import Derived.Test.YtdmeobffijhloaaB2
set_option linter.unusedVariables false
set_option linter.unusedSimpArgs false

namespace Go.Proofs.Ytdmeobffijhloaa

open Go.RowKit

set_option maxHeartbeats 400000 in
theorem l00In_any (n lo hi : Int) (w : World) :
    Calls Try.prog 31 #[.int .i64 n, .int .i64 lo, .int .i64 hi] w fun e w' => e = .returned (.bool (inR lo n hi)) ∧ w = w' := by
  by_cases h1 : lo ≤ n
  all_goals
    go_enter Try.func31, Try.ntmps31
    go_wp2
    go_ret
    exact ⟨by simp [inR]; omega, rfl⟩

set_option maxHeartbeats 1000000 in
theorem l06Bound_any (A : Option Addr) (n cap : Nat) (xs : List Int) (most : Int) (w : World) (hm : 0 ≤ most ∧ most ≤ 1000000) (hr : Rds w A n (ints xs)) :
    Calls Try.prog 36 #[.slice A n cap, .int .i64 most] w fun e w' => e = .returned (.bool (xs.all fun x => inR (-most) x most)) ∧ Ext w w' := by
  have hl := hr.ilen
  have hs := hr.small
  have hwm : IntKind.i64.wrap (-most) = -most := IntWalk.i64_in _ (by omega)
  obtain ⟨res, hres⟩ : ∃ res, res = xs.all fun x => inR (-most) x most := ⟨_, rfl⟩
  rw [← hres]
  have Hres := Lib.hid hres
  clear hres
  go_enter Try.func36, Try.ntmps36
  go_wp2_with fail
  go_loopw [5] (fun i wr => ∃ k : Nat, k ≤ n ∧ i = .int .i64 k ∧ Hid (∀ j, j < k → inR (-most) (rd xs j) most = true) ∧ Ext w wr) (fun i _ => n - (intOf i).toNat)
  case atStart => exact ⟨0, Nat.zero_le _, rfl, fun j hj => by omega, Ext.refl _⟩
  case round =>
    obtain ⟨k, hk, rfl, hall, hx⟩ := hrel
    by_cases hlt : k < n
    · obtain ⟨ad, rfl, hc⟩ := (hr.below hx).intN k hlt
      cases hin : inR (-most) (rd xs k) most with
      | true =>
        go_wp2_with fail
        refine (l00In_any _ _ _ _).mono ?_
        rintro e w1 ⟨rfl, rfl⟩
        go_wp2_with fail
        go_roundw
        case rel => exact ⟨k + 1, by omega, by go_num, fun j hj => if e : j = k then (by subst e; exact hin) else hall.out j (by omega), hx⟩
        case measure => simp [intOf]; omega
      | false =>
        go_wp2_with fail
        refine (l00In_any _ _ _ _).mono ?_
        rintro e w1 ⟨rfl, rfl⟩
        go_wp2_with fail
        go_ret
        refine ⟨ret_bool ?_, hx⟩
        rw [Hres.out, Eq.comm, List.all_eq_false]
        exact ⟨_, List.getElem_mem (show k < xs.length by omega), by rw [← rd_get, hin]; simp⟩
    · go_wp2_with fail
      go_ret
      refine ⟨ret_bool ?_, hx⟩
      rw [Hres.out, Eq.comm, List.all_eq_true]
      intro x hx'
      obtain ⟨j, hj, rfl⟩ := List.mem_iff_getElem.1 hx'
      have := hall.out j (by omega)
      rwa [rd_get hj] at this

set_option maxHeartbeats 1000000 in
theorem l06Is_any (b : Nat) (r c most : Int) (A : Option Addr) (n cap : Nat) (xs : List Int) (w : World) (hc0 : w.cell? ⟨b, 0, none⟩ = some (.int .i64 r)) (hc1 : w.cell? ⟨b, 1, none⟩ = some (.int .i64 c)) (hc2 : w.cell? ⟨b, 2, none⟩ = some (.slice A n cap))
    (hr : Rds w A n (ints xs)) (hm : 0 ≤ most ∧ most ≤ 1000000) :
    Calls Try.prog 20 #[.pointer (some ⟨b, 0, none⟩), .int .i64 most] w fun e w' => e = .returned (.bool (isWholeB r c xs most)) ∧ Ext w w' := by
  have hs := hr.small
  have hl := hr.ilen
  obtain ⟨res, hres⟩ : ∃ res, res = isWholeB r c xs most := ⟨_, rfl⟩
  rw [← hres]
  unfold isWholeB at hres
  rw [hl] at hres
  have Hres := Lib.hid hres
  clear hres hl
  go_enter Try.func20, Try.ntmps20
  go_wp2_with fail
  cases h1 : inR 1 r 6 with
  | false =>
    refine wp_region_T (cs := []) [0, 1, 2, 3, 4, 5, 6, 7, 8, 9, 10, 11, 12, 13, 14, 15, 16, 17, 18, 19, 20, 21, 22, 23, 24, 25, 26, 27, 28, 29, 30, 31, 32, 33, 34, 35, 36, 37] [] [4] [] (fun i__ v => match i__ with | 4 => v = (.bool false) | _ => False) (fun _ _ _ => True) (by kernel_rfl) (by kernel_rfl) (fun _ _ _ _ _ _ => trivial) ?_
    refine' wpT_det (o := ⟨some 5, Op.move (Operand.tmp 0), 44, "l06_integers.go:21", #[], none⟩) rfl (by rfl) (by rfl) (fun w' hw' => ?_) ?_; rotate_left
    · go_simp <;> first | rfl | exact ⟨rfl, rfl⟩
    simp only [Act.put, List.setIfInBounds_toArray, List.set_cons_zero, List.set_cons_succ]
    refine' wpT_det (o := ⟨some 6, Op.nilCheck (Operand.tmp 5), 0, "l06_integers.go:21", #[{ on := 0, ground := Ground.data }], none⟩) rfl (by rfl) (by rfl) (fun w' hw' => ?_) ?_; rotate_left
    · go_simp <;> first | rfl | exact ⟨rfl, rfl⟩
    simp only [Act.put, List.setIfInBounds_toArray, List.set_cons_zero, List.set_cons_succ]
    refine' wpT_det (o := ⟨some 7, Op.fieldAddr 31 (Operand.tmp 6) 0, 0, "l06_integers.go:21", #[{ on := 1, ground := Ground.data }], none⟩) rfl (by rfl) (by rfl) (fun w' hw' => ?_) ?_; rotate_left
    · go_simp <;> first | rfl | exact ⟨rfl, rfl⟩
    simp only [Act.put, List.setIfInBounds_toArray, List.set_cons_zero, List.set_cons_succ]
    refine' wpT_det (o := ⟨some 8, Op.load 2 (Operand.tmp 7), 2, "l06_integers.go:21", #[{ on := 2, ground := Ground.data }], none⟩) rfl (by rfl) (by rfl) (fun w' hw' => ?_) ?_; rotate_left
    · have hc0_ := Ext.cell hw' hc0; have hc1_ := Ext.cell hw' hc1; have hc2_ := Ext.cell hw' hc2; go_simp <;> first | rfl | exact ⟨rfl, rfl⟩
    simp only [Act.put, List.setIfInBounds_toArray, List.set_cons_zero, List.set_cons_succ]
    refine wpT_nd (o := ⟨some 9, Op.call { callee := Callee.value (Operand.func 31), args := #[Operand.tmp 8, Operand.const (Value.int IntKind.i64 1), Operand.const (Value.int IntKind.i64 6)], argTypes := #[2, 2, 2] }, 4, "l06_integers.go:21", #[{ on := 3, ground := Ground.data }], none⟩) rfl (by rfl) (by rfl) (fun w' hw' hF R__ hGo => ?_) ⟨_, rfl⟩ ?_
    · go_simp
      refine gives_enter rfl ?_
      refine (l00In_any _ _ _ _).mono ?_
      rintro e w2 ⟨rfl, rfl⟩
      exact ⟨_, rfl, hGo _ _ (Ext.refl _) (congrArg Value.bool h1) trivial⟩
    intro v hv
    obtain rfl : v = (.bool false) := hv
    simp only [Act.put, List.setIfInBounds_toArray, List.set_cons_zero, List.set_cons_succ]
    refine' wpT_det (o := ⟨some 10, Op.move (Operand.tmp 9), 4, "l06_integers.go:21", #[{ on := 4, ground := Ground.data }, { on := 4, ground := Ground.chain }], none⟩) rfl (by rfl) (by rfl) (fun w' hw' => ?_) ?_; rotate_left
    · go_simp <;> first | rfl | exact ⟨rfl, rfl⟩
    simp only [Act.put, List.setIfInBounds_toArray, List.set_cons_zero, List.set_cons_succ]
    refine wpT_skip (o := ⟨some 11, Op.move (Operand.tmp 0), 44, "l06_integers.go:21", #[{ on := 5, ground := Ground.guard }], some (5, true)⟩) rfl (by rfl) ?_
    simp only [Act.put, List.setIfInBounds_toArray, List.set_cons_zero, List.set_cons_succ]
    refine wpT_skip (o := ⟨some 12, Op.nilCheck (Operand.tmp 11), 0, "l06_integers.go:21", #[{ on := 6, ground := Ground.data }, { on := 5, ground := Ground.guard }], some (5, true)⟩) rfl (by rfl) ?_
    simp only [Act.put, List.setIfInBounds_toArray, List.set_cons_zero, List.set_cons_succ]
    refine wpT_skip (o := ⟨some 13, Op.fieldAddr 31 (Operand.tmp 12) 1, 0, "l06_integers.go:21", #[{ on := 7, ground := Ground.data }, { on := 5, ground := Ground.guard }], some (5, true)⟩) rfl (by rfl) ?_
    simp only [Act.put, List.setIfInBounds_toArray, List.set_cons_zero, List.set_cons_succ]
    refine wpT_skip (o := ⟨some 14, Op.load 2 (Operand.tmp 13), 2, "l06_integers.go:21", #[{ on := 8, ground := Ground.data }, { on := 5, ground := Ground.guard }], some (5, true)⟩) rfl (by rfl) ?_
    simp only [Act.put, List.setIfInBounds_toArray, List.set_cons_zero, List.set_cons_succ]
    refine wpT_skip (o := ⟨some 15, Op.call { callee := Callee.value (Operand.func 31), args := #[Operand.tmp 14, Operand.const (Value.int IntKind.i64 1), Operand.const (Value.int IntKind.i64 6)], argTypes := #[2, 2, 2] }, 4, "l06_integers.go:21", #[{ on := 9, ground := Ground.data }, { on := 5, ground := Ground.chain }, { on := 5, ground := Ground.guard }], some (5, true)⟩) rfl (by rfl) ?_
    simp only [Act.put, List.setIfInBounds_toArray, List.set_cons_zero, List.set_cons_succ]
    refine' wpT_det (o := ⟨some 16, Op.pick (Operand.tmp 10) (Operand.tmp 15) (Operand.const (Value.bool false)), 4, "l06_integers.go:21", #[{ on := 5, ground := Ground.data }, { on := 10, ground := Ground.data }], none⟩) rfl (by rfl) (by rfl) (fun w' hw' => ?_) ?_; rotate_left
    · go_simp <;> first | rfl | exact ⟨rfl, rfl⟩
    simp only [Act.put, List.setIfInBounds_toArray, List.set_cons_zero, List.set_cons_succ]
    refine' wpT_det (o := ⟨some 17, Op.move (Operand.tmp 16), 4, "l06_integers.go:21", #[{ on := 11, ground := Ground.data }, { on := 10, ground := Ground.chain }], none⟩) rfl (by rfl) (by rfl) (fun w' hw' => ?_) ?_; rotate_left
    · go_simp <;> first | rfl | exact ⟨rfl, rfl⟩
    simp only [Act.put, List.setIfInBounds_toArray, List.set_cons_zero, List.set_cons_succ]
    refine wpT_skip (o := ⟨some 18, Op.move (Operand.tmp 0), 44, "l06_integers.go:21", #[{ on := 12, ground := Ground.guard }], some (12, true)⟩) rfl (by rfl) ?_
    simp only [Act.put, List.setIfInBounds_toArray, List.set_cons_zero, List.set_cons_succ]
    refine wpT_skip (o := ⟨some 19, Op.nilCheck (Operand.tmp 18), 0, "l06_integers.go:21", #[{ on := 13, ground := Ground.data }, { on := 12, ground := Ground.guard }], some (12, true)⟩) rfl (by rfl) ?_
    simp only [Act.put, List.setIfInBounds_toArray, List.set_cons_zero, List.set_cons_succ]
    refine wpT_skip (o := ⟨some 20, Op.fieldAddr 31 (Operand.tmp 19) 2, 0, "l06_integers.go:21", #[{ on := 14, ground := Ground.data }, { on := 12, ground := Ground.guard }], some (12, true)⟩) rfl (by rfl) ?_
    simp only [Act.put, List.setIfInBounds_toArray, List.set_cons_zero, List.set_cons_succ]
    refine wpT_skip (o := ⟨some 21, Op.load 22 (Operand.tmp 20), 22, "l06_integers.go:21", #[{ on := 15, ground := Ground.data }, { on := 12, ground := Ground.guard }], some (12, true)⟩) rfl (by rfl) ?_
    simp only [Act.put, List.setIfInBounds_toArray, List.set_cons_zero, List.set_cons_succ]
    refine wpT_skip (o := ⟨some 22, Op.call { callee := Callee.builtin Builtin.len, args := #[Operand.tmp 21], argTypes := #[22] }, 3, "l06_integers.go:21", #[{ on := 16, ground := Ground.data }, { on := 12, ground := Ground.guard }], some (12, true)⟩) rfl (by rfl) ?_
    simp only [Act.put, List.setIfInBounds_toArray, List.set_cons_zero, List.set_cons_succ]
    refine wpT_skip (o := ⟨some 23, Op.move (Operand.tmp 0), 44, "l06_integers.go:21", #[{ on := 12, ground := Ground.guard }], some (12, true)⟩) rfl (by rfl) ?_
    simp only [Act.put, List.setIfInBounds_toArray, List.set_cons_zero, List.set_cons_succ]
    refine wpT_skip (o := ⟨some 24, Op.nilCheck (Operand.tmp 23), 0, "l06_integers.go:21", #[{ on := 18, ground := Ground.data }, { on := 12, ground := Ground.guard }], some (12, true)⟩) rfl (by rfl) ?_
    simp only [Act.put, List.setIfInBounds_toArray, List.set_cons_zero, List.set_cons_succ]
    refine wpT_skip (o := ⟨some 25, Op.fieldAddr 31 (Operand.tmp 24) 0, 0, "l06_integers.go:21", #[{ on := 19, ground := Ground.data }, { on := 12, ground := Ground.guard }], some (12, true)⟩) rfl (by rfl) ?_
    simp only [Act.put, List.setIfInBounds_toArray, List.set_cons_zero, List.set_cons_succ]
    refine wpT_skip (o := ⟨some 26, Op.load 2 (Operand.tmp 25), 2, "l06_integers.go:21", #[{ on := 20, ground := Ground.data }, { on := 12, ground := Ground.guard }], some (12, true)⟩) rfl (by rfl) ?_
    simp only [Act.put, List.setIfInBounds_toArray, List.set_cons_zero, List.set_cons_succ]
    refine wpT_skip (o := ⟨some 27, Op.move (Operand.tmp 0), 44, "l06_integers.go:21", #[{ on := 12, ground := Ground.guard }], some (12, true)⟩) rfl (by rfl) ?_
    simp only [Act.put, List.setIfInBounds_toArray, List.set_cons_zero, List.set_cons_succ]
    refine wpT_skip (o := ⟨some 28, Op.nilCheck (Operand.tmp 27), 0, "l06_integers.go:21", #[{ on := 22, ground := Ground.data }, { on := 12, ground := Ground.guard }], some (12, true)⟩) rfl (by rfl) ?_
    simp only [Act.put, List.setIfInBounds_toArray, List.set_cons_zero, List.set_cons_succ]
    refine wpT_skip (o := ⟨some 29, Op.fieldAddr 31 (Operand.tmp 28) 1, 0, "l06_integers.go:21", #[{ on := 23, ground := Ground.data }, { on := 12, ground := Ground.guard }], some (12, true)⟩) rfl (by rfl) ?_
    simp only [Act.put, List.setIfInBounds_toArray, List.set_cons_zero, List.set_cons_succ]
    refine wpT_skip (o := ⟨some 30, Op.load 2 (Operand.tmp 29), 2, "l06_integers.go:21", #[{ on := 24, ground := Ground.data }, { on := 12, ground := Ground.guard }], some (12, true)⟩) rfl (by rfl) ?_
    simp only [Act.put, List.setIfInBounds_toArray, List.set_cons_zero, List.set_cons_succ]
    refine wpT_skip (o := ⟨some 31, Op.binOp BinOp.mul 2 (Operand.tmp 26) (Operand.tmp 30) 2, 2, "l06_integers.go:21", #[{ on := 21, ground := Ground.data }, { on := 25, ground := Ground.data }, { on := 12, ground := Ground.guard }], some (12, true)⟩) rfl (by rfl) ?_
    simp only [Act.put, List.setIfInBounds_toArray, List.set_cons_zero, List.set_cons_succ]
    refine wpT_skip (o := ⟨some 32, Op.binOp BinOp.eql 2 (Operand.tmp 22) (Operand.tmp 31) 2, 4, "l06_integers.go:21", #[{ on := 17, ground := Ground.data }, { on := 26, ground := Ground.data }, { on := 12, ground := Ground.guard }], some (12, true)⟩) rfl (by rfl) ?_
    simp only [Act.put, List.setIfInBounds_toArray, List.set_cons_zero, List.set_cons_succ]
    refine' wpT_det (o := ⟨some 33, Op.pick (Operand.tmp 17) (Operand.tmp 32) (Operand.const (Value.bool false)), 4, "l06_integers.go:21", #[{ on := 12, ground := Ground.data }, { on := 27, ground := Ground.data }], none⟩) rfl (by rfl) (by rfl) (fun w' hw' => ?_) ?_; rotate_left
    · go_simp <;> first | rfl | exact ⟨rfl, rfl⟩
    simp only [Act.put, List.setIfInBounds_toArray, List.set_cons_zero, List.set_cons_succ]
    refine' wpT_det (o := ⟨some 34, Op.move (Operand.tmp 33), 4, "l06_integers.go:21", #[{ on := 28, ground := Ground.data }, { on := 12, ground := Ground.chain }], none⟩) rfl (by rfl) (by rfl) (fun w' hw' => ?_) ?_; rotate_left
    · go_simp <;> first | rfl | exact ⟨rfl, rfl⟩
    simp only [Act.put, List.setIfInBounds_toArray, List.set_cons_zero, List.set_cons_succ]
    refine wpT_skip (o := ⟨some 35, Op.move (Operand.tmp 0), 44, "l06_integers.go:21", #[{ on := 29, ground := Ground.guard }], some (29, true)⟩) rfl (by rfl) ?_
    simp only [Act.put, List.setIfInBounds_toArray, List.set_cons_zero, List.set_cons_succ]
    refine wpT_skip (o := ⟨some 36, Op.nilCheck (Operand.tmp 35), 0, "l06_integers.go:21", #[{ on := 30, ground := Ground.data }, { on := 29, ground := Ground.guard }], some (29, true)⟩) rfl (by rfl) ?_
    simp only [Act.put, List.setIfInBounds_toArray, List.set_cons_zero, List.set_cons_succ]
    refine wpT_skip (o := ⟨some 37, Op.fieldAddr 31 (Operand.tmp 36) 2, 0, "l06_integers.go:21", #[{ on := 31, ground := Ground.data }, { on := 29, ground := Ground.guard }], some (29, true)⟩) rfl (by rfl) ?_
    simp only [Act.put, List.setIfInBounds_toArray, List.set_cons_zero, List.set_cons_succ]
    refine wpT_skip (o := ⟨some 38, Op.load 22 (Operand.tmp 37), 22, "l06_integers.go:21", #[{ on := 32, ground := Ground.data }, { on := 29, ground := Ground.guard }], some (29, true)⟩) rfl (by rfl) ?_
    simp only [Act.put, List.setIfInBounds_toArray, List.set_cons_zero, List.set_cons_succ]
    refine wpT_skip (o := ⟨some 39, Op.move (Operand.tmp 1), 2, "l06_integers.go:21", #[{ on := 29, ground := Ground.guard }], some (29, true)⟩) rfl (by rfl) ?_
    simp only [Act.put, List.setIfInBounds_toArray, List.set_cons_zero, List.set_cons_succ]
    refine wpT_skip (o := ⟨some 40, Op.call { callee := Callee.value (Operand.func 36), args := #[Operand.tmp 38, Operand.tmp 39], argTypes := #[22, 2] }, 4, "l06_integers.go:21", #[{ on := 33, ground := Ground.data }, { on := 34, ground := Ground.data }, { on := 29, ground := Ground.chain }, { on := 29, ground := Ground.guard }], some (29, true)⟩) rfl (by rfl) ?_
    simp only [Act.put, List.setIfInBounds_toArray, List.set_cons_zero, List.set_cons_succ]
    refine' wpT_det (o := ⟨some 41, Op.pick (Operand.tmp 34) (Operand.tmp 40) (Operand.const (Value.bool false)), 4, "l06_integers.go:21", #[{ on := 29, ground := Ground.data }, { on := 35, ground := Ground.data }], none⟩) rfl (by rfl) (by rfl) (fun w' hw' => ?_) ?_; rotate_left
    · go_simp <;> first | rfl | exact ⟨rfl, rfl⟩
    simp only [Act.put, List.setIfInBounds_toArray, List.set_cons_zero, List.set_cons_succ]
    refine' wpT_det (o := ⟨some 4, Op.assign (Operand.tmp 41), 4, "l06_integers.go:21", #[{ on := 36, ground := Ground.data }, { on := 35, ground := Ground.chain }, { on := 0, ground := Ground.phase }, { on := 1, ground := Ground.phase }, { on := 2, ground := Ground.phase }, { on := 3, ground := Ground.phase }, { on := 4, ground := Ground.phase }, { on := 5, ground := Ground.phase }, { on := 6, ground := Ground.phase }, { on := 7, ground := Ground.phase }, { on := 8, ground := Ground.phase }, { on := 9, ground := Ground.phase }, { on := 10, ground := Ground.phase }, { on := 11, ground := Ground.phase }, { on := 12, ground := Ground.phase }, { on := 13, ground := Ground.phase }, { on := 14, ground := Ground.phase }, { on := 15, ground := Ground.phase }, { on := 16, ground := Ground.phase }, { on := 17, ground := Ground.phase }, { on := 18, ground := Ground.phase }, { on := 19, ground := Ground.phase }, { on := 20, ground := Ground.phase }, { on := 21, ground := Ground.phase }, { on := 22, ground := Ground.phase }, { on := 23, ground := Ground.phase }, { on := 24, ground := Ground.phase }, { on := 25, ground := Ground.phase }, { on := 26, ground := Ground.phase }, { on := 27, ground := Ground.phase }, { on := 28, ground := Ground.phase }, { on := 29, ground := Ground.phase }, { on := 30, ground := Ground.phase }, { on := 31, ground := Ground.phase }, { on := 32, ground := Ground.phase }, { on := 33, ground := Ground.phase }, { on := 34, ground := Ground.phase }, { on := 35, ground := Ground.phase }, { on := 36, ground := Ground.phase }], none⟩) rfl (by rfl) (by rfl) (fun w' hw' => ?_) ?_; rotate_left
    · go_simp <;> first | rfl | exact ⟨rfl, rfl⟩
    simp only [Act.put, List.setIfInBounds_toArray, List.set_cons_zero, List.set_cons_succ]
    refine wpT_nil (fun w' hw' hF => ?_)
    refine wpList_nil ?_
    go_wp2_with fail
    go_ret
    exact ⟨ret_bool (by rw [Hres.out, h1]; rfl), hw'.undrew⟩
  | true =>
    cases h2 : inR 1 c 6 with
    | false =>
      refine wp_region_T (cs := []) [0, 1, 2, 3, 4, 5, 6, 7, 8, 9, 10, 11, 12, 13, 14, 15, 16, 17, 18, 19, 20, 21, 22, 23, 24, 25, 26, 27, 28, 29, 30, 31, 32, 33, 34, 35, 36, 37] [] [4, 10] [] (fun i__ v => match i__ with | 4 => v = (.bool true) | 10 => v = (.bool false) | _ => False) (fun _ _ _ => True) (by kernel_rfl) (by kernel_rfl) (fun _ _ _ _ _ _ => trivial) ?_
      refine' wpT_det (o := ⟨some 5, Op.move (Operand.tmp 0), 44, "l06_integers.go:21", #[], none⟩) rfl (by rfl) (by rfl) (fun w' hw' => ?_) ?_; rotate_left
      · go_simp <;> first | rfl | exact ⟨rfl, rfl⟩
      simp only [Act.put, List.setIfInBounds_toArray, List.set_cons_zero, List.set_cons_succ]
      refine' wpT_det (o := ⟨some 6, Op.nilCheck (Operand.tmp 5), 0, "l06_integers.go:21", #[{ on := 0, ground := Ground.data }], none⟩) rfl (by rfl) (by rfl) (fun w' hw' => ?_) ?_; rotate_left
      · go_simp <;> first | rfl | exact ⟨rfl, rfl⟩
      simp only [Act.put, List.setIfInBounds_toArray, List.set_cons_zero, List.set_cons_succ]
      refine' wpT_det (o := ⟨some 7, Op.fieldAddr 31 (Operand.tmp 6) 0, 0, "l06_integers.go:21", #[{ on := 1, ground := Ground.data }], none⟩) rfl (by rfl) (by rfl) (fun w' hw' => ?_) ?_; rotate_left
      · go_simp <;> first | rfl | exact ⟨rfl, rfl⟩
      simp only [Act.put, List.setIfInBounds_toArray, List.set_cons_zero, List.set_cons_succ]
      refine' wpT_det (o := ⟨some 8, Op.load 2 (Operand.tmp 7), 2, "l06_integers.go:21", #[{ on := 2, ground := Ground.data }], none⟩) rfl (by rfl) (by rfl) (fun w' hw' => ?_) ?_; rotate_left
      · have hc0_ := Ext.cell hw' hc0; have hc1_ := Ext.cell hw' hc1; have hc2_ := Ext.cell hw' hc2; go_simp <;> first | rfl | exact ⟨rfl, rfl⟩
      simp only [Act.put, List.setIfInBounds_toArray, List.set_cons_zero, List.set_cons_succ]
      refine wpT_nd (o := ⟨some 9, Op.call { callee := Callee.value (Operand.func 31), args := #[Operand.tmp 8, Operand.const (Value.int IntKind.i64 1), Operand.const (Value.int IntKind.i64 6)], argTypes := #[2, 2, 2] }, 4, "l06_integers.go:21", #[{ on := 3, ground := Ground.data }], none⟩) rfl (by rfl) (by rfl) (fun w' hw' hF R__ hGo => ?_) ⟨_, rfl⟩ ?_
      · go_simp
        refine gives_enter rfl ?_
        refine (l00In_any _ _ _ _).mono ?_
        rintro e w2 ⟨rfl, rfl⟩
        exact ⟨_, rfl, hGo _ _ (Ext.refl _) (congrArg Value.bool h1) trivial⟩
      intro v hv
      obtain rfl : v = (.bool true) := hv
      simp only [Act.put, List.setIfInBounds_toArray, List.set_cons_zero, List.set_cons_succ]
      refine' wpT_det (o := ⟨some 10, Op.move (Operand.tmp 9), 4, "l06_integers.go:21", #[{ on := 4, ground := Ground.data }, { on := 4, ground := Ground.chain }], none⟩) rfl (by rfl) (by rfl) (fun w' hw' => ?_) ?_; rotate_left
      · go_simp <;> first | rfl | exact ⟨rfl, rfl⟩
      simp only [Act.put, List.setIfInBounds_toArray, List.set_cons_zero, List.set_cons_succ]
      refine' wpT_det (o := ⟨some 11, Op.move (Operand.tmp 0), 44, "l06_integers.go:21", #[{ on := 5, ground := Ground.guard }], some (5, true)⟩) rfl (by rfl) (by rfl) (fun w' hw' => ?_) ?_; rotate_left
      · go_simp <;> first | rfl | exact ⟨rfl, rfl⟩
      simp only [Act.put, List.setIfInBounds_toArray, List.set_cons_zero, List.set_cons_succ]
      refine' wpT_det (o := ⟨some 12, Op.nilCheck (Operand.tmp 11), 0, "l06_integers.go:21", #[{ on := 6, ground := Ground.data }, { on := 5, ground := Ground.guard }], some (5, true)⟩) rfl (by rfl) (by rfl) (fun w' hw' => ?_) ?_; rotate_left
      · go_simp <;> first | rfl | exact ⟨rfl, rfl⟩
      simp only [Act.put, List.setIfInBounds_toArray, List.set_cons_zero, List.set_cons_succ]
      refine' wpT_det (o := ⟨some 13, Op.fieldAddr 31 (Operand.tmp 12) 1, 0, "l06_integers.go:21", #[{ on := 7, ground := Ground.data }, { on := 5, ground := Ground.guard }], some (5, true)⟩) rfl (by rfl) (by rfl) (fun w' hw' => ?_) ?_; rotate_left
      · go_simp <;> first | rfl | exact ⟨rfl, rfl⟩
      simp only [Act.put, List.setIfInBounds_toArray, List.set_cons_zero, List.set_cons_succ]
      refine' wpT_det (o := ⟨some 14, Op.load 2 (Operand.tmp 13), 2, "l06_integers.go:21", #[{ on := 8, ground := Ground.data }, { on := 5, ground := Ground.guard }], some (5, true)⟩) rfl (by rfl) (by rfl) (fun w' hw' => ?_) ?_; rotate_left
      · have hc0_ := Ext.cell hw' hc0; have hc1_ := Ext.cell hw' hc1; have hc2_ := Ext.cell hw' hc2; go_simp <;> first | rfl | exact ⟨rfl, rfl⟩
      simp only [Act.put, List.setIfInBounds_toArray, List.set_cons_zero, List.set_cons_succ]
      refine wpT_nd (o := ⟨some 15, Op.call { callee := Callee.value (Operand.func 31), args := #[Operand.tmp 14, Operand.const (Value.int IntKind.i64 1), Operand.const (Value.int IntKind.i64 6)], argTypes := #[2, 2, 2] }, 4, "l06_integers.go:21", #[{ on := 9, ground := Ground.data }, { on := 5, ground := Ground.chain }, { on := 5, ground := Ground.guard }], some (5, true)⟩) rfl (by rfl) (by rfl) (fun w' hw' hF R__ hGo => ?_) ⟨_, rfl⟩ ?_
      · go_simp
        refine gives_enter rfl ?_
        refine (l00In_any _ _ _ _).mono ?_
        rintro e w2 ⟨rfl, rfl⟩
        exact ⟨_, rfl, hGo _ _ (Ext.refl _) (congrArg Value.bool h2) trivial⟩
      intro v hv
      obtain rfl : v = (.bool false) := hv
      simp only [Act.put, List.setIfInBounds_toArray, List.set_cons_zero, List.set_cons_succ]
      refine' wpT_det (o := ⟨some 16, Op.pick (Operand.tmp 10) (Operand.tmp 15) (Operand.const (Value.bool false)), 4, "l06_integers.go:21", #[{ on := 5, ground := Ground.data }, { on := 10, ground := Ground.data }], none⟩) rfl (by rfl) (by rfl) (fun w' hw' => ?_) ?_; rotate_left
      · go_simp <;> first | rfl | exact ⟨rfl, rfl⟩
      simp only [Act.put, List.setIfInBounds_toArray, List.set_cons_zero, List.set_cons_succ]
      refine' wpT_det (o := ⟨some 17, Op.move (Operand.tmp 16), 4, "l06_integers.go:21", #[{ on := 11, ground := Ground.data }, { on := 10, ground := Ground.chain }], none⟩) rfl (by rfl) (by rfl) (fun w' hw' => ?_) ?_; rotate_left
      · go_simp <;> first | rfl | exact ⟨rfl, rfl⟩
      simp only [Act.put, List.setIfInBounds_toArray, List.set_cons_zero, List.set_cons_succ]
      refine wpT_skip (o := ⟨some 18, Op.move (Operand.tmp 0), 44, "l06_integers.go:21", #[{ on := 12, ground := Ground.guard }], some (12, true)⟩) rfl (by rfl) ?_
      simp only [Act.put, List.setIfInBounds_toArray, List.set_cons_zero, List.set_cons_succ]
      refine wpT_skip (o := ⟨some 19, Op.nilCheck (Operand.tmp 18), 0, "l06_integers.go:21", #[{ on := 13, ground := Ground.data }, { on := 12, ground := Ground.guard }], some (12, true)⟩) rfl (by rfl) ?_
      simp only [Act.put, List.setIfInBounds_toArray, List.set_cons_zero, List.set_cons_succ]
      refine wpT_skip (o := ⟨some 20, Op.fieldAddr 31 (Operand.tmp 19) 2, 0, "l06_integers.go:21", #[{ on := 14, ground := Ground.data }, { on := 12, ground := Ground.guard }], some (12, true)⟩) rfl (by rfl) ?_
      simp only [Act.put, List.setIfInBounds_toArray, List.set_cons_zero, List.set_cons_succ]
      refine wpT_skip (o := ⟨some 21, Op.load 22 (Operand.tmp 20), 22, "l06_integers.go:21", #[{ on := 15, ground := Ground.data }, { on := 12, ground := Ground.guard }], some (12, true)⟩) rfl (by rfl) ?_
      simp only [Act.put, List.setIfInBounds_toArray, List.set_cons_zero, List.set_cons_succ]
      refine wpT_skip (o := ⟨some 22, Op.call { callee := Callee.builtin Builtin.len, args := #[Operand.tmp 21], argTypes := #[22] }, 3, "l06_integers.go:21", #[{ on := 16, ground := Ground.data }, { on := 12, ground := Ground.guard }], some (12, true)⟩) rfl (by rfl) ?_
      simp only [Act.put, List.setIfInBounds_toArray, List.set_cons_zero, List.set_cons_succ]
      refine wpT_skip (o := ⟨some 23, Op.move (Operand.tmp 0), 44, "l06_integers.go:21", #[{ on := 12, ground := Ground.guard }], some (12, true)⟩) rfl (by rfl) ?_
      simp only [Act.put, List.setIfInBounds_toArray, List.set_cons_zero, List.set_cons_succ]
      refine wpT_skip (o := ⟨some 24, Op.nilCheck (Operand.tmp 23), 0, "l06_integers.go:21", #[{ on := 18, ground := Ground.data }, { on := 12, ground := Ground.guard }], some (12, true)⟩) rfl (by rfl) ?_
      simp only [Act.put, List.setIfInBounds_toArray, List.set_cons_zero, List.set_cons_succ]
      refine wpT_skip (o := ⟨some 25, Op.fieldAddr 31 (Operand.tmp 24) 0, 0, "l06_integers.go:21", #[{ on := 19, ground := Ground.data }, { on := 12, ground := Ground.guard }], some (12, true)⟩) rfl (by rfl) ?_
      simp only [Act.put, List.setIfInBounds_toArray, List.set_cons_zero, List.set_cons_succ]
      refine wpT_skip (o := ⟨some 26, Op.load 2 (Operand.tmp 25), 2, "l06_integers.go:21", #[{ on := 20, ground := Ground.data }, { on := 12, ground := Ground.guard }], some (12, true)⟩) rfl (by rfl) ?_
      simp only [Act.put, List.setIfInBounds_toArray, List.set_cons_zero, List.set_cons_succ]
      refine wpT_skip (o := ⟨some 27, Op.move (Operand.tmp 0), 44, "l06_integers.go:21", #[{ on := 12, ground := Ground.guard }], some (12, true)⟩) rfl (by rfl) ?_
      simp only [Act.put, List.setIfInBounds_toArray, List.set_cons_zero, List.set_cons_succ]
      refine wpT_skip (o := ⟨some 28, Op.nilCheck (Operand.tmp 27), 0, "l06_integers.go:21", #[{ on := 22, ground := Ground.data }, { on := 12, ground := Ground.guard }], some (12, true)⟩) rfl (by rfl) ?_
      simp only [Act.put, List.setIfInBounds_toArray, List.set_cons_zero, List.set_cons_succ]
      refine wpT_skip (o := ⟨some 29, Op.fieldAddr 31 (Operand.tmp 28) 1, 0, "l06_integers.go:21", #[{ on := 23, ground := Ground.data }, { on := 12, ground := Ground.guard }], some (12, true)⟩) rfl (by rfl) ?_
      simp only [Act.put, List.setIfInBounds_toArray, List.set_cons_zero, List.set_cons_succ]
      refine wpT_skip (o := ⟨some 30, Op.load 2 (Operand.tmp 29), 2, "l06_integers.go:21", #[{ on := 24, ground := Ground.data }, { on := 12, ground := Ground.guard }], some (12, true)⟩) rfl (by rfl) ?_
      simp only [Act.put, List.setIfInBounds_toArray, List.set_cons_zero, List.set_cons_succ]
      refine wpT_skip (o := ⟨some 31, Op.binOp BinOp.mul 2 (Operand.tmp 26) (Operand.tmp 30) 2, 2, "l06_integers.go:21", #[{ on := 21, ground := Ground.data }, { on := 25, ground := Ground.data }, { on := 12, ground := Ground.guard }], some (12, true)⟩) rfl (by rfl) ?_
      simp only [Act.put, List.setIfInBounds_toArray, List.set_cons_zero, List.set_cons_succ]
      refine wpT_skip (o := ⟨some 32, Op.binOp BinOp.eql 2 (Operand.tmp 22) (Operand.tmp 31) 2, 4, "l06_integers.go:21", #[{ on := 17, ground := Ground.data }, { on := 26, ground := Ground.data }, { on := 12, ground := Ground.guard }], some (12, true)⟩) rfl (by rfl) ?_
      simp only [Act.put, List.setIfInBounds_toArray, List.set_cons_zero, List.set_cons_succ]
      refine' wpT_det (o := ⟨some 33, Op.pick (Operand.tmp 17) (Operand.tmp 32) (Operand.const (Value.bool false)), 4, "l06_integers.go:21", #[{ on := 12, ground := Ground.data }, { on := 27, ground := Ground.data }], none⟩) rfl (by rfl) (by rfl) (fun w' hw' => ?_) ?_; rotate_left
      · go_simp <;> first | rfl | exact ⟨rfl, rfl⟩
      simp only [Act.put, List.setIfInBounds_toArray, List.set_cons_zero, List.set_cons_succ]
      refine' wpT_det (o := ⟨some 34, Op.move (Operand.tmp 33), 4, "l06_integers.go:21", #[{ on := 28, ground := Ground.data }, { on := 12, ground := Ground.chain }], none⟩) rfl (by rfl) (by rfl) (fun w' hw' => ?_) ?_; rotate_left
      · go_simp <;> first | rfl | exact ⟨rfl, rfl⟩
      simp only [Act.put, List.setIfInBounds_toArray, List.set_cons_zero, List.set_cons_succ]
      refine wpT_skip (o := ⟨some 35, Op.move (Operand.tmp 0), 44, "l06_integers.go:21", #[{ on := 29, ground := Ground.guard }], some (29, true)⟩) rfl (by rfl) ?_
      simp only [Act.put, List.setIfInBounds_toArray, List.set_cons_zero, List.set_cons_succ]
      refine wpT_skip (o := ⟨some 36, Op.nilCheck (Operand.tmp 35), 0, "l06_integers.go:21", #[{ on := 30, ground := Ground.data }, { on := 29, ground := Ground.guard }], some (29, true)⟩) rfl (by rfl) ?_
      simp only [Act.put, List.setIfInBounds_toArray, List.set_cons_zero, List.set_cons_succ]
      refine wpT_skip (o := ⟨some 37, Op.fieldAddr 31 (Operand.tmp 36) 2, 0, "l06_integers.go:21", #[{ on := 31, ground := Ground.data }, { on := 29, ground := Ground.guard }], some (29, true)⟩) rfl (by rfl) ?_
      simp only [Act.put, List.setIfInBounds_toArray, List.set_cons_zero, List.set_cons_succ]
      refine wpT_skip (o := ⟨some 38, Op.load 22 (Operand.tmp 37), 22, "l06_integers.go:21", #[{ on := 32, ground := Ground.data }, { on := 29, ground := Ground.guard }], some (29, true)⟩) rfl (by rfl) ?_
      simp only [Act.put, List.setIfInBounds_toArray, List.set_cons_zero, List.set_cons_succ]
      refine wpT_skip (o := ⟨some 39, Op.move (Operand.tmp 1), 2, "l06_integers.go:21", #[{ on := 29, ground := Ground.guard }], some (29, true)⟩) rfl (by rfl) ?_
      simp only [Act.put, List.setIfInBounds_toArray, List.set_cons_zero, List.set_cons_succ]
      refine wpT_skip (o := ⟨some 40, Op.call { callee := Callee.value (Operand.func 36), args := #[Operand.tmp 38, Operand.tmp 39], argTypes := #[22, 2] }, 4, "l06_integers.go:21", #[{ on := 33, ground := Ground.data }, { on := 34, ground := Ground.data }, { on := 29, ground := Ground.chain }, { on := 29, ground := Ground.guard }], some (29, true)⟩) rfl (by rfl) ?_
      simp only [Act.put, List.setIfInBounds_toArray, List.set_cons_zero, List.set_cons_succ]
      refine' wpT_det (o := ⟨some 41, Op.pick (Operand.tmp 34) (Operand.tmp 40) (Operand.const (Value.bool false)), 4, "l06_integers.go:21", #[{ on := 29, ground := Ground.data }, { on := 35, ground := Ground.data }], none⟩) rfl (by rfl) (by rfl) (fun w' hw' => ?_) ?_; rotate_left
      · go_simp <;> first | rfl | exact ⟨rfl, rfl⟩
      simp only [Act.put, List.setIfInBounds_toArray, List.set_cons_zero, List.set_cons_succ]
      refine' wpT_det (o := ⟨some 4, Op.assign (Operand.tmp 41), 4, "l06_integers.go:21", #[{ on := 36, ground := Ground.data }, { on := 35, ground := Ground.chain }, { on := 0, ground := Ground.phase }, { on := 1, ground := Ground.phase }, { on := 2, ground := Ground.phase }, { on := 3, ground := Ground.phase }, { on := 4, ground := Ground.phase }, { on := 5, ground := Ground.phase }, { on := 6, ground := Ground.phase }, { on := 7, ground := Ground.phase }, { on := 8, ground := Ground.phase }, { on := 9, ground := Ground.phase }, { on := 10, ground := Ground.phase }, { on := 11, ground := Ground.phase }, { on := 12, ground := Ground.phase }, { on := 13, ground := Ground.phase }, { on := 14, ground := Ground.phase }, { on := 15, ground := Ground.phase }, { on := 16, ground := Ground.phase }, { on := 17, ground := Ground.phase }, { on := 18, ground := Ground.phase }, { on := 19, ground := Ground.phase }, { on := 20, ground := Ground.phase }, { on := 21, ground := Ground.phase }, { on := 22, ground := Ground.phase }, { on := 23, ground := Ground.phase }, { on := 24, ground := Ground.phase }, { on := 25, ground := Ground.phase }, { on := 26, ground := Ground.phase }, { on := 27, ground := Ground.phase }, { on := 28, ground := Ground.phase }, { on := 29, ground := Ground.phase }, { on := 30, ground := Ground.phase }, { on := 31, ground := Ground.phase }, { on := 32, ground := Ground.phase }, { on := 33, ground := Ground.phase }, { on := 34, ground := Ground.phase }, { on := 35, ground := Ground.phase }, { on := 36, ground := Ground.phase }], none⟩) rfl (by rfl) (by rfl) (fun w' hw' => ?_) ?_; rotate_left
      · go_simp <;> first | rfl | exact ⟨rfl, rfl⟩
      simp only [Act.put, List.setIfInBounds_toArray, List.set_cons_zero, List.set_cons_succ]
      refine wpT_nil (fun w' hw' hF => ?_)
      refine wpList_nil ?_
      go_wp2_with fail
      go_ret
      exact ⟨ret_bool (by rw [Hres.out, h1, h2]; rfl), hw'.undrew⟩
    | true =>
      have b1 := inR_iff.1 h1
      have b2 := inR_iff.1 h2
      have q0 : 0 ≤ r * c := Int.mul_nonneg (by omega) (by omega)
      have q1 : r * c ≤ 36 := Int.le_trans (Int.mul_le_mul_of_nonneg_right b1.2 (by omega)) (by omega)
      have hw3 : IntKind.i64.wrap (r * c) = r * c := IntWalk.i64_in _ (by omega)
      by_cases h3 : (n : Int) = r * c
      · have h3' : ((n : Int) == r * c) = true := by simpa using h3
        have H3 := Lib.hid h3
        clear h3
        refine wp_region_T (cs := []) [0, 1, 2, 3, 4, 5, 6, 7, 8, 9, 10, 11, 12, 13, 14, 15, 16, 17, 18, 19, 20, 21, 22, 23, 24, 25, 26, 27, 28, 29, 30, 31, 32, 33, 34, 35, 36, 37] [] [4, 10, 35] [] (fun i__ v => match i__ with | 4 => v = (.bool true) | 10 => v = (.bool true) | 35 => v = (.bool (xs.all fun x => inR (-most) x most)) | _ => False) (fun _ _ _ => True) (by kernel_rfl) (by kernel_rfl) (fun _ _ _ _ _ _ => trivial) ?_
        refine' wpT_det (o := ⟨some 5, Op.move (Operand.tmp 0), 44, "l06_integers.go:21", #[], none⟩) rfl (by rfl) (by rfl) (fun w' hw' => ?_) ?_; rotate_left
        · go_simp <;> first | rfl | exact ⟨rfl, rfl⟩
        simp only [Act.put, List.setIfInBounds_toArray, List.set_cons_zero, List.set_cons_succ]
        refine' wpT_det (o := ⟨some 6, Op.nilCheck (Operand.tmp 5), 0, "l06_integers.go:21", #[{ on := 0, ground := Ground.data }], none⟩) rfl (by rfl) (by rfl) (fun w' hw' => ?_) ?_; rotate_left
        · go_simp <;> first | rfl | exact ⟨rfl, rfl⟩
        simp only [Act.put, List.setIfInBounds_toArray, List.set_cons_zero, List.set_cons_succ]
        refine' wpT_det (o := ⟨some 7, Op.fieldAddr 31 (Operand.tmp 6) 0, 0, "l06_integers.go:21", #[{ on := 1, ground := Ground.data }], none⟩) rfl (by rfl) (by rfl) (fun w' hw' => ?_) ?_; rotate_left
        · go_simp <;> first | rfl | exact ⟨rfl, rfl⟩
        simp only [Act.put, List.setIfInBounds_toArray, List.set_cons_zero, List.set_cons_succ]
        refine' wpT_det (o := ⟨some 8, Op.load 2 (Operand.tmp 7), 2, "l06_integers.go:21", #[{ on := 2, ground := Ground.data }], none⟩) rfl (by rfl) (by rfl) (fun w' hw' => ?_) ?_; rotate_left
        · have hc0_ := Ext.cell hw' hc0; have hc1_ := Ext.cell hw' hc1; have hc2_ := Ext.cell hw' hc2; go_simp <;> first | rfl | exact ⟨rfl, rfl⟩
        simp only [Act.put, List.setIfInBounds_toArray, List.set_cons_zero, List.set_cons_succ]
        refine wpT_nd (o := ⟨some 9, Op.call { callee := Callee.value (Operand.func 31), args := #[Operand.tmp 8, Operand.const (Value.int IntKind.i64 1), Operand.const (Value.int IntKind.i64 6)], argTypes := #[2, 2, 2] }, 4, "l06_integers.go:21", #[{ on := 3, ground := Ground.data }], none⟩) rfl (by rfl) (by rfl) (fun w' hw' hF R__ hGo => ?_) ⟨_, rfl⟩ ?_
        · go_simp
          refine gives_enter rfl ?_
          refine (l00In_any _ _ _ _).mono ?_
          rintro e w2 ⟨rfl, rfl⟩
          exact ⟨_, rfl, hGo _ _ (Ext.refl _) (congrArg Value.bool h1) trivial⟩
        intro v hv
        obtain rfl : v = (.bool true) := hv
        simp only [Act.put, List.setIfInBounds_toArray, List.set_cons_zero, List.set_cons_succ]
        refine' wpT_det (o := ⟨some 10, Op.move (Operand.tmp 9), 4, "l06_integers.go:21", #[{ on := 4, ground := Ground.data }, { on := 4, ground := Ground.chain }], none⟩) rfl (by rfl) (by rfl) (fun w' hw' => ?_) ?_; rotate_left
        · go_simp <;> first | rfl | exact ⟨rfl, rfl⟩
        simp only [Act.put, List.setIfInBounds_toArray, List.set_cons_zero, List.set_cons_succ]
        refine' wpT_det (o := ⟨some 11, Op.move (Operand.tmp 0), 44, "l06_integers.go:21", #[{ on := 5, ground := Ground.guard }], some (5, true)⟩) rfl (by rfl) (by rfl) (fun w' hw' => ?_) ?_; rotate_left
        · go_simp <;> first | rfl | exact ⟨rfl, rfl⟩
        simp only [Act.put, List.setIfInBounds_toArray, List.set_cons_zero, List.set_cons_succ]
        refine' wpT_det (o := ⟨some 12, Op.nilCheck (Operand.tmp 11), 0, "l06_integers.go:21", #[{ on := 6, ground := Ground.data }, { on := 5, ground := Ground.guard }], some (5, true)⟩) rfl (by rfl) (by rfl) (fun w' hw' => ?_) ?_; rotate_left
        · go_simp <;> first | rfl | exact ⟨rfl, rfl⟩
        simp only [Act.put, List.setIfInBounds_toArray, List.set_cons_zero, List.set_cons_succ]
        refine' wpT_det (o := ⟨some 13, Op.fieldAddr 31 (Operand.tmp 12) 1, 0, "l06_integers.go:21", #[{ on := 7, ground := Ground.data }, { on := 5, ground := Ground.guard }], some (5, true)⟩) rfl (by rfl) (by rfl) (fun w' hw' => ?_) ?_; rotate_left
        · go_simp <;> first | rfl | exact ⟨rfl, rfl⟩
        simp only [Act.put, List.setIfInBounds_toArray, List.set_cons_zero, List.set_cons_succ]
        refine' wpT_det (o := ⟨some 14, Op.load 2 (Operand.tmp 13), 2, "l06_integers.go:21", #[{ on := 8, ground := Ground.data }, { on := 5, ground := Ground.guard }], some (5, true)⟩) rfl (by rfl) (by rfl) (fun w' hw' => ?_) ?_; rotate_left
        · have hc0_ := Ext.cell hw' hc0; have hc1_ := Ext.cell hw' hc1; have hc2_ := Ext.cell hw' hc2; go_simp <;> first | rfl | exact ⟨rfl, rfl⟩
        simp only [Act.put, List.setIfInBounds_toArray, List.set_cons_zero, List.set_cons_succ]
        refine wpT_nd (o := ⟨some 15, Op.call { callee := Callee.value (Operand.func 31), args := #[Operand.tmp 14, Operand.const (Value.int IntKind.i64 1), Operand.const (Value.int IntKind.i64 6)], argTypes := #[2, 2, 2] }, 4, "l06_integers.go:21", #[{ on := 9, ground := Ground.data }, { on := 5, ground := Ground.chain }, { on := 5, ground := Ground.guard }], some (5, true)⟩) rfl (by rfl) (by rfl) (fun w' hw' hF R__ hGo => ?_) ⟨_, rfl⟩ ?_
        · go_simp
          refine gives_enter rfl ?_
          refine (l00In_any _ _ _ _).mono ?_
          rintro e w2 ⟨rfl, rfl⟩
          exact ⟨_, rfl, hGo _ _ (Ext.refl _) (congrArg Value.bool h2) trivial⟩
        intro v hv
        obtain rfl : v = (.bool true) := hv
        simp only [Act.put, List.setIfInBounds_toArray, List.set_cons_zero, List.set_cons_succ]
        refine' wpT_det (o := ⟨some 16, Op.pick (Operand.tmp 10) (Operand.tmp 15) (Operand.const (Value.bool false)), 4, "l06_integers.go:21", #[{ on := 5, ground := Ground.data }, { on := 10, ground := Ground.data }], none⟩) rfl (by rfl) (by rfl) (fun w' hw' => ?_) ?_; rotate_left
        · go_simp <;> first | rfl | exact ⟨rfl, rfl⟩
        simp only [Act.put, List.setIfInBounds_toArray, List.set_cons_zero, List.set_cons_succ]
        refine' wpT_det (o := ⟨some 17, Op.move (Operand.tmp 16), 4, "l06_integers.go:21", #[{ on := 11, ground := Ground.data }, { on := 10, ground := Ground.chain }], none⟩) rfl (by rfl) (by rfl) (fun w' hw' => ?_) ?_; rotate_left
        · go_simp <;> first | rfl | exact ⟨rfl, rfl⟩
        simp only [Act.put, List.setIfInBounds_toArray, List.set_cons_zero, List.set_cons_succ]
        refine' wpT_det (o := ⟨some 18, Op.move (Operand.tmp 0), 44, "l06_integers.go:21", #[{ on := 12, ground := Ground.guard }], some (12, true)⟩) rfl (by rfl) (by rfl) (fun w' hw' => ?_) ?_; rotate_left
        · go_simp <;> first | rfl | exact ⟨rfl, rfl⟩
        simp only [Act.put, List.setIfInBounds_toArray, List.set_cons_zero, List.set_cons_succ]
        refine' wpT_det (o := ⟨some 19, Op.nilCheck (Operand.tmp 18), 0, "l06_integers.go:21", #[{ on := 13, ground := Ground.data }, { on := 12, ground := Ground.guard }], some (12, true)⟩) rfl (by rfl) (by rfl) (fun w' hw' => ?_) ?_; rotate_left
        · go_simp <;> first | rfl | exact ⟨rfl, rfl⟩
        simp only [Act.put, List.setIfInBounds_toArray, List.set_cons_zero, List.set_cons_succ]
        refine' wpT_det (o := ⟨some 20, Op.fieldAddr 31 (Operand.tmp 19) 2, 0, "l06_integers.go:21", #[{ on := 14, ground := Ground.data }, { on := 12, ground := Ground.guard }], some (12, true)⟩) rfl (by rfl) (by rfl) (fun w' hw' => ?_) ?_; rotate_left
        · go_simp <;> first | rfl | exact ⟨rfl, rfl⟩
        simp only [Act.put, List.setIfInBounds_toArray, List.set_cons_zero, List.set_cons_succ]
        refine' wpT_det (o := ⟨some 21, Op.load 22 (Operand.tmp 20), 22, "l06_integers.go:21", #[{ on := 15, ground := Ground.data }, { on := 12, ground := Ground.guard }], some (12, true)⟩) rfl (by rfl) (by rfl) (fun w' hw' => ?_) ?_; rotate_left
        · have hc0_ := Ext.cell hw' hc0; have hc1_ := Ext.cell hw' hc1; have hc2_ := Ext.cell hw' hc2; go_simp <;> first | rfl | exact ⟨rfl, rfl⟩
        simp only [Act.put, List.setIfInBounds_toArray, List.set_cons_zero, List.set_cons_succ]
        refine' wpT_det (o := ⟨some 22, Op.call { callee := Callee.builtin Builtin.len, args := #[Operand.tmp 21], argTypes := #[22] }, 3, "l06_integers.go:21", #[{ on := 16, ground := Ground.data }, { on := 12, ground := Ground.guard }], some (12, true)⟩) rfl (by rfl) (by rfl) (fun w' hw' => ?_) ?_; rotate_left
        · go_simp <;> first | rfl | exact ⟨rfl, rfl⟩
        simp only [Act.put, List.setIfInBounds_toArray, List.set_cons_zero, List.set_cons_succ]
        refine' wpT_det (o := ⟨some 23, Op.move (Operand.tmp 0), 44, "l06_integers.go:21", #[{ on := 12, ground := Ground.guard }], some (12, true)⟩) rfl (by rfl) (by rfl) (fun w' hw' => ?_) ?_; rotate_left
        · go_simp <;> first | rfl | exact ⟨rfl, rfl⟩
        simp only [Act.put, List.setIfInBounds_toArray, List.set_cons_zero, List.set_cons_succ]
        refine' wpT_det (o := ⟨some 24, Op.nilCheck (Operand.tmp 23), 0, "l06_integers.go:21", #[{ on := 18, ground := Ground.data }, { on := 12, ground := Ground.guard }], some (12, true)⟩) rfl (by rfl) (by rfl) (fun w' hw' => ?_) ?_; rotate_left
        · go_simp <;> first | rfl | exact ⟨rfl, rfl⟩
        simp only [Act.put, List.setIfInBounds_toArray, List.set_cons_zero, List.set_cons_succ]
        refine' wpT_det (o := ⟨some 25, Op.fieldAddr 31 (Operand.tmp 24) 0, 0, "l06_integers.go:21", #[{ on := 19, ground := Ground.data }, { on := 12, ground := Ground.guard }], some (12, true)⟩) rfl (by rfl) (by rfl) (fun w' hw' => ?_) ?_; rotate_left
        · go_simp <;> first | rfl | exact ⟨rfl, rfl⟩
        simp only [Act.put, List.setIfInBounds_toArray, List.set_cons_zero, List.set_cons_succ]
        refine' wpT_det (o := ⟨some 26, Op.load 2 (Operand.tmp 25), 2, "l06_integers.go:21", #[{ on := 20, ground := Ground.data }, { on := 12, ground := Ground.guard }], some (12, true)⟩) rfl (by rfl) (by rfl) (fun w' hw' => ?_) ?_; rotate_left
        · have hc0_ := Ext.cell hw' hc0; have hc1_ := Ext.cell hw' hc1; have hc2_ := Ext.cell hw' hc2; go_simp <;> first | rfl | exact ⟨rfl, rfl⟩
        simp only [Act.put, List.setIfInBounds_toArray, List.set_cons_zero, List.set_cons_succ]
        refine' wpT_det (o := ⟨some 27, Op.move (Operand.tmp 0), 44, "l06_integers.go:21", #[{ on := 12, ground := Ground.guard }], some (12, true)⟩) rfl (by rfl) (by rfl) (fun w' hw' => ?_) ?_; rotate_left
        · go_simp <;> first | rfl | exact ⟨rfl, rfl⟩
        simp only [Act.put, List.setIfInBounds_toArray, List.set_cons_zero, List.set_cons_succ]
        refine' wpT_det (o := ⟨some 28, Op.nilCheck (Operand.tmp 27), 0, "l06_integers.go:21", #[{ on := 22, ground := Ground.data }, { on := 12, ground := Ground.guard }], some (12, true)⟩) rfl (by rfl) (by rfl) (fun w' hw' => ?_) ?_; rotate_left
        · go_simp <;> first | rfl | exact ⟨rfl, rfl⟩
        simp only [Act.put, List.setIfInBounds_toArray, List.set_cons_zero, List.set_cons_succ]
        refine' wpT_det (o := ⟨some 29, Op.fieldAddr 31 (Operand.tmp 28) 1, 0, "l06_integers.go:21", #[{ on := 23, ground := Ground.data }, { on := 12, ground := Ground.guard }], some (12, true)⟩) rfl (by rfl) (by rfl) (fun w' hw' => ?_) ?_; rotate_left
        · go_simp <;> first | rfl | exact ⟨rfl, rfl⟩
        simp only [Act.put, List.setIfInBounds_toArray, List.set_cons_zero, List.set_cons_succ]
        refine' wpT_det (o := ⟨some 30, Op.load 2 (Operand.tmp 29), 2, "l06_integers.go:21", #[{ on := 24, ground := Ground.data }, { on := 12, ground := Ground.guard }], some (12, true)⟩) rfl (by rfl) (by rfl) (fun w' hw' => ?_) ?_; rotate_left
        · have hc0_ := Ext.cell hw' hc0; have hc1_ := Ext.cell hw' hc1; have hc2_ := Ext.cell hw' hc2; go_simp <;> first | rfl | exact ⟨rfl, rfl⟩
        simp only [Act.put, List.setIfInBounds_toArray, List.set_cons_zero, List.set_cons_succ]
        refine' wpT_det (o := ⟨some 31, Op.binOp BinOp.mul 2 (Operand.tmp 26) (Operand.tmp 30) 2, 2, "l06_integers.go:21", #[{ on := 21, ground := Ground.data }, { on := 25, ground := Ground.data }, { on := 12, ground := Ground.guard }], some (12, true)⟩) rfl (by rfl) (by rfl) (fun w' hw' => ?_) ?_; rotate_left
        · go_simp <;> first | rfl | exact ⟨rfl, rfl⟩
        simp only [Act.put, List.setIfInBounds_toArray, List.set_cons_zero, List.set_cons_succ]
        refine' wpT_det (o := ⟨some 32, Op.binOp BinOp.eql 2 (Operand.tmp 22) (Operand.tmp 31) 2, 4, "l06_integers.go:21", #[{ on := 17, ground := Ground.data }, { on := 26, ground := Ground.data }, { on := 12, ground := Ground.guard }], some (12, true)⟩) rfl (by rfl) (by rfl) (fun w' hw' => ?_) ?_; rotate_left
        · go_simp <;> first | rfl | exact ⟨rfl, rfl⟩
        simp only [Act.put, List.setIfInBounds_toArray, List.set_cons_zero, List.set_cons_succ]
        refine' wpT_det (o := ⟨some 33, Op.pick (Operand.tmp 17) (Operand.tmp 32) (Operand.const (Value.bool false)), 4, "l06_integers.go:21", #[{ on := 12, ground := Ground.data }, { on := 27, ground := Ground.data }], none⟩) rfl (by rfl) (by rfl) (fun w' hw' => ?_) ?_; rotate_left
        · go_simp <;> first | rfl | exact ⟨rfl, rfl⟩
        simp only [Act.put, List.setIfInBounds_toArray, List.set_cons_zero, List.set_cons_succ]
        refine' wpT_det (o := ⟨some 34, Op.move (Operand.tmp 33), 4, "l06_integers.go:21", #[{ on := 28, ground := Ground.data }, { on := 12, ground := Ground.chain }], none⟩) rfl (by rfl) (by rfl) (fun w' hw' => ?_) ?_; rotate_left
        · go_simp <;> first | rfl | exact ⟨rfl, rfl⟩
        simp only [Act.put, List.setIfInBounds_toArray, List.set_cons_zero, List.set_cons_succ]
        refine' wpT_det (o := ⟨some 35, Op.move (Operand.tmp 0), 44, "l06_integers.go:21", #[{ on := 29, ground := Ground.guard }], some (29, true)⟩) rfl (by rfl) (by rfl) (fun w' hw' => ?_) ?_; rotate_left
        · go_simp <;> first | rfl | exact ⟨rfl, rfl⟩
        simp only [Act.put, List.setIfInBounds_toArray, List.set_cons_zero, List.set_cons_succ]
        refine' wpT_det (o := ⟨some 36, Op.nilCheck (Operand.tmp 35), 0, "l06_integers.go:21", #[{ on := 30, ground := Ground.data }, { on := 29, ground := Ground.guard }], some (29, true)⟩) rfl (by rfl) (by rfl) (fun w' hw' => ?_) ?_; rotate_left
        · go_simp <;> first | rfl | exact ⟨rfl, rfl⟩
        simp only [Act.put, List.setIfInBounds_toArray, List.set_cons_zero, List.set_cons_succ]
        refine' wpT_det (o := ⟨some 37, Op.fieldAddr 31 (Operand.tmp 36) 2, 0, "l06_integers.go:21", #[{ on := 31, ground := Ground.data }, { on := 29, ground := Ground.guard }], some (29, true)⟩) rfl (by rfl) (by rfl) (fun w' hw' => ?_) ?_; rotate_left
        · go_simp <;> first | rfl | exact ⟨rfl, rfl⟩
        simp only [Act.put, List.setIfInBounds_toArray, List.set_cons_zero, List.set_cons_succ]
        refine' wpT_det (o := ⟨some 38, Op.load 22 (Operand.tmp 37), 22, "l06_integers.go:21", #[{ on := 32, ground := Ground.data }, { on := 29, ground := Ground.guard }], some (29, true)⟩) rfl (by rfl) (by rfl) (fun w' hw' => ?_) ?_; rotate_left
        · have hc0_ := Ext.cell hw' hc0; have hc1_ := Ext.cell hw' hc1; have hc2_ := Ext.cell hw' hc2; go_simp <;> first | rfl | exact ⟨rfl, rfl⟩
        simp only [Act.put, List.setIfInBounds_toArray, List.set_cons_zero, List.set_cons_succ]
        refine' wpT_det (o := ⟨some 39, Op.move (Operand.tmp 1), 2, "l06_integers.go:21", #[{ on := 29, ground := Ground.guard }], some (29, true)⟩) rfl (by rfl) (by rfl) (fun w' hw' => ?_) ?_; rotate_left
        · go_simp <;> first | rfl | exact ⟨rfl, rfl⟩
        simp only [Act.put, List.setIfInBounds_toArray, List.set_cons_zero, List.set_cons_succ]
        refine wpT_nd (o := ⟨some 40, Op.call { callee := Callee.value (Operand.func 36), args := #[Operand.tmp 38, Operand.tmp 39], argTypes := #[22, 2] }, 4, "l06_integers.go:21", #[{ on := 33, ground := Ground.data }, { on := 34, ground := Ground.data }, { on := 29, ground := Ground.chain }, { on := 29, ground := Ground.guard }], some (29, true)⟩) rfl (by rfl) (by rfl) (fun w' hw' hF R__ hGo => ?_) ⟨_, rfl⟩ ?_
        · go_simp
          refine gives_enter rfl ?_
          refine (l06Bound_any _ _ _ _ _ _ hm (hr.below hw'.undrew)).mono ?_
          rintro e w2 ⟨rfl, hx⟩
          exact ⟨_, rfl, hGo _ _ hx rfl trivial⟩
        intro v hv
        obtain rfl : v = (.bool (xs.all fun x => inR (-most) x most)) := hv
        simp only [Act.put, List.setIfInBounds_toArray, List.set_cons_zero, List.set_cons_succ]
        refine' wpT_det (o := ⟨some 41, Op.pick (Operand.tmp 34) (Operand.tmp 40) (Operand.const (Value.bool false)), 4, "l06_integers.go:21", #[{ on := 29, ground := Ground.data }, { on := 35, ground := Ground.data }], none⟩) rfl (by rfl) (by rfl) (fun w' hw' => ?_) ?_; rotate_left
        · go_simp <;> first | rfl | exact ⟨rfl, rfl⟩
        simp only [Act.put, List.setIfInBounds_toArray, List.set_cons_zero, List.set_cons_succ]
        refine' wpT_det (o := ⟨some 4, Op.assign (Operand.tmp 41), 4, "l06_integers.go:21", #[{ on := 36, ground := Ground.data }, { on := 35, ground := Ground.chain }, { on := 0, ground := Ground.phase }, { on := 1, ground := Ground.phase }, { on := 2, ground := Ground.phase }, { on := 3, ground := Ground.phase }, { on := 4, ground := Ground.phase }, { on := 5, ground := Ground.phase }, { on := 6, ground := Ground.phase }, { on := 7, ground := Ground.phase }, { on := 8, ground := Ground.phase }, { on := 9, ground := Ground.phase }, { on := 10, ground := Ground.phase }, { on := 11, ground := Ground.phase }, { on := 12, ground := Ground.phase }, { on := 13, ground := Ground.phase }, { on := 14, ground := Ground.phase }, { on := 15, ground := Ground.phase }, { on := 16, ground := Ground.phase }, { on := 17, ground := Ground.phase }, { on := 18, ground := Ground.phase }, { on := 19, ground := Ground.phase }, { on := 20, ground := Ground.phase }, { on := 21, ground := Ground.phase }, { on := 22, ground := Ground.phase }, { on := 23, ground := Ground.phase }, { on := 24, ground := Ground.phase }, { on := 25, ground := Ground.phase }, { on := 26, ground := Ground.phase }, { on := 27, ground := Ground.phase }, { on := 28, ground := Ground.phase }, { on := 29, ground := Ground.phase }, { on := 30, ground := Ground.phase }, { on := 31, ground := Ground.phase }, { on := 32, ground := Ground.phase }, { on := 33, ground := Ground.phase }, { on := 34, ground := Ground.phase }, { on := 35, ground := Ground.phase }, { on := 36, ground := Ground.phase }], none⟩) rfl (by rfl) (by rfl) (fun w' hw' => ?_) ?_; rotate_left
        · go_simp <;> first | rfl | exact ⟨rfl, rfl⟩
        simp only [Act.put, List.setIfInBounds_toArray, List.set_cons_zero, List.set_cons_succ]
        refine wpT_nil (fun w' hw' hF => ?_)
        refine wpList_nil ?_
        go_wp2_with fail
        go_ret
        exact ⟨ret_bool (by rw [Hres.out, h1, h2, decide_eq_true H3.out]; rfl), hw'.undrew⟩
      · have h3' : ((n : Int) == r * c) = false := by simpa using h3
        refine wp_region_T (cs := []) [0, 1, 2, 3, 4, 5, 6, 7, 8, 9, 10, 11, 12, 13, 14, 15, 16, 17, 18, 19, 20, 21, 22, 23, 24, 25, 26, 27, 28, 29, 30, 31, 32, 33, 34, 35, 36, 37] [] [4, 10] [] (fun i__ v => match i__ with | 4 => v = (.bool true) | 10 => v = (.bool true) | _ => False) (fun _ _ _ => True) (by kernel_rfl) (by kernel_rfl) (fun _ _ _ _ _ _ => trivial) ?_
        refine' wpT_det (o := ⟨some 5, Op.move (Operand.tmp 0), 44, "l06_integers.go:21", #[], none⟩) rfl (by rfl) (by rfl) (fun w' hw' => ?_) ?_; rotate_left
        · go_simp <;> first | rfl | exact ⟨rfl, rfl⟩
        simp only [Act.put, List.setIfInBounds_toArray, List.set_cons_zero, List.set_cons_succ]
        refine' wpT_det (o := ⟨some 6, Op.nilCheck (Operand.tmp 5), 0, "l06_integers.go:21", #[{ on := 0, ground := Ground.data }], none⟩) rfl (by rfl) (by rfl) (fun w' hw' => ?_) ?_; rotate_left
        · go_simp <;> first | rfl | exact ⟨rfl, rfl⟩
        simp only [Act.put, List.setIfInBounds_toArray, List.set_cons_zero, List.set_cons_succ]
        refine' wpT_det (o := ⟨some 7, Op.fieldAddr 31 (Operand.tmp 6) 0, 0, "l06_integers.go:21", #[{ on := 1, ground := Ground.data }], none⟩) rfl (by rfl) (by rfl) (fun w' hw' => ?_) ?_; rotate_left
        · go_simp <;> first | rfl | exact ⟨rfl, rfl⟩
        simp only [Act.put, List.setIfInBounds_toArray, List.set_cons_zero, List.set_cons_succ]
        refine' wpT_det (o := ⟨some 8, Op.load 2 (Operand.tmp 7), 2, "l06_integers.go:21", #[{ on := 2, ground := Ground.data }], none⟩) rfl (by rfl) (by rfl) (fun w' hw' => ?_) ?_; rotate_left
        · have hc0_ := Ext.cell hw' hc0; have hc1_ := Ext.cell hw' hc1; have hc2_ := Ext.cell hw' hc2; go_simp <;> first | rfl | exact ⟨rfl, rfl⟩
        simp only [Act.put, List.setIfInBounds_toArray, List.set_cons_zero, List.set_cons_succ]
        refine wpT_nd (o := ⟨some 9, Op.call { callee := Callee.value (Operand.func 31), args := #[Operand.tmp 8, Operand.const (Value.int IntKind.i64 1), Operand.const (Value.int IntKind.i64 6)], argTypes := #[2, 2, 2] }, 4, "l06_integers.go:21", #[{ on := 3, ground := Ground.data }], none⟩) rfl (by rfl) (by rfl) (fun w' hw' hF R__ hGo => ?_) ⟨_, rfl⟩ ?_
        · go_simp
          refine gives_enter rfl ?_
          refine (l00In_any _ _ _ _).mono ?_
          rintro e w2 ⟨rfl, rfl⟩
          exact ⟨_, rfl, hGo _ _ (Ext.refl _) (congrArg Value.bool h1) trivial⟩
        intro v hv
        obtain rfl : v = (.bool true) := hv
        simp only [Act.put, List.setIfInBounds_toArray, List.set_cons_zero, List.set_cons_succ]
        refine' wpT_det (o := ⟨some 10, Op.move (Operand.tmp 9), 4, "l06_integers.go:21", #[{ on := 4, ground := Ground.data }, { on := 4, ground := Ground.chain }], none⟩) rfl (by rfl) (by rfl) (fun w' hw' => ?_) ?_; rotate_left
        · go_simp <;> first | rfl | exact ⟨rfl, rfl⟩
        simp only [Act.put, List.setIfInBounds_toArray, List.set_cons_zero, List.set_cons_succ]
        refine' wpT_det (o := ⟨some 11, Op.move (Operand.tmp 0), 44, "l06_integers.go:21", #[{ on := 5, ground := Ground.guard }], some (5, true)⟩) rfl (by rfl) (by rfl) (fun w' hw' => ?_) ?_; rotate_left
        · go_simp <;> first | rfl | exact ⟨rfl, rfl⟩
        simp only [Act.put, List.setIfInBounds_toArray, List.set_cons_zero, List.set_cons_succ]
        refine' wpT_det (o := ⟨some 12, Op.nilCheck (Operand.tmp 11), 0, "l06_integers.go:21", #[{ on := 6, ground := Ground.data }, { on := 5, ground := Ground.guard }], some (5, true)⟩) rfl (by rfl) (by rfl) (fun w' hw' => ?_) ?_; rotate_left
        · go_simp <;> first | rfl | exact ⟨rfl, rfl⟩
        simp only [Act.put, List.setIfInBounds_toArray, List.set_cons_zero, List.set_cons_succ]
        refine' wpT_det (o := ⟨some 13, Op.fieldAddr 31 (Operand.tmp 12) 1, 0, "l06_integers.go:21", #[{ on := 7, ground := Ground.data }, { on := 5, ground := Ground.guard }], some (5, true)⟩) rfl (by rfl) (by rfl) (fun w' hw' => ?_) ?_; rotate_left
        · go_simp <;> first | rfl | exact ⟨rfl, rfl⟩
        simp only [Act.put, List.setIfInBounds_toArray, List.set_cons_zero, List.set_cons_succ]
        refine' wpT_det (o := ⟨some 14, Op.load 2 (Operand.tmp 13), 2, "l06_integers.go:21", #[{ on := 8, ground := Ground.data }, { on := 5, ground := Ground.guard }], some (5, true)⟩) rfl (by rfl) (by rfl) (fun w' hw' => ?_) ?_; rotate_left
        · have hc0_ := Ext.cell hw' hc0; have hc1_ := Ext.cell hw' hc1; have hc2_ := Ext.cell hw' hc2; go_simp <;> first | rfl | exact ⟨rfl, rfl⟩
        simp only [Act.put, List.setIfInBounds_toArray, List.set_cons_zero, List.set_cons_succ]
        refine wpT_nd (o := ⟨some 15, Op.call { callee := Callee.value (Operand.func 31), args := #[Operand.tmp 14, Operand.const (Value.int IntKind.i64 1), Operand.const (Value.int IntKind.i64 6)], argTypes := #[2, 2, 2] }, 4, "l06_integers.go:21", #[{ on := 9, ground := Ground.data }, { on := 5, ground := Ground.chain }, { on := 5, ground := Ground.guard }], some (5, true)⟩) rfl (by rfl) (by rfl) (fun w' hw' hF R__ hGo => ?_) ⟨_, rfl⟩ ?_
        · go_simp
          refine gives_enter rfl ?_
          refine (l00In_any _ _ _ _).mono ?_
          rintro e w2 ⟨rfl, rfl⟩
          exact ⟨_, rfl, hGo _ _ (Ext.refl _) (congrArg Value.bool h2) trivial⟩
        intro v hv
        obtain rfl : v = (.bool true) := hv
        simp only [Act.put, List.setIfInBounds_toArray, List.set_cons_zero, List.set_cons_succ]
        refine' wpT_det (o := ⟨some 16, Op.pick (Operand.tmp 10) (Operand.tmp 15) (Operand.const (Value.bool false)), 4, "l06_integers.go:21", #[{ on := 5, ground := Ground.data }, { on := 10, ground := Ground.data }], none⟩) rfl (by rfl) (by rfl) (fun w' hw' => ?_) ?_; rotate_left
        · go_simp <;> first | rfl | exact ⟨rfl, rfl⟩
        simp only [Act.put, List.setIfInBounds_toArray, List.set_cons_zero, List.set_cons_succ]
        refine' wpT_det (o := ⟨some 17, Op.move (Operand.tmp 16), 4, "l06_integers.go:21", #[{ on := 11, ground := Ground.data }, { on := 10, ground := Ground.chain }], none⟩) rfl (by rfl) (by rfl) (fun w' hw' => ?_) ?_; rotate_left
        · go_simp <;> first | rfl | exact ⟨rfl, rfl⟩
        simp only [Act.put, List.setIfInBounds_toArray, List.set_cons_zero, List.set_cons_succ]
        refine' wpT_det (o := ⟨some 18, Op.move (Operand.tmp 0), 44, "l06_integers.go:21", #[{ on := 12, ground := Ground.guard }], some (12, true)⟩) rfl (by rfl) (by rfl) (fun w' hw' => ?_) ?_; rotate_left
        · go_simp <;> first | rfl | exact ⟨rfl, rfl⟩
        simp only [Act.put, List.setIfInBounds_toArray, List.set_cons_zero, List.set_cons_succ]
        refine' wpT_det (o := ⟨some 19, Op.nilCheck (Operand.tmp 18), 0, "l06_integers.go:21", #[{ on := 13, ground := Ground.data }, { on := 12, ground := Ground.guard }], some (12, true)⟩) rfl (by rfl) (by rfl) (fun w' hw' => ?_) ?_; rotate_left
        · go_simp <;> first | rfl | exact ⟨rfl, rfl⟩
        simp only [Act.put, List.setIfInBounds_toArray, List.set_cons_zero, List.set_cons_succ]
        refine' wpT_det (o := ⟨some 20, Op.fieldAddr 31 (Operand.tmp 19) 2, 0, "l06_integers.go:21", #[{ on := 14, ground := Ground.data }, { on := 12, ground := Ground.guard }], some (12, true)⟩) rfl (by rfl) (by rfl) (fun w' hw' => ?_) ?_; rotate_left
        · go_simp <;> first | rfl | exact ⟨rfl, rfl⟩
        simp only [Act.put, List.setIfInBounds_toArray, List.set_cons_zero, List.set_cons_succ]
        refine' wpT_det (o := ⟨some 21, Op.load 22 (Operand.tmp 20), 22, "l06_integers.go:21", #[{ on := 15, ground := Ground.data }, { on := 12, ground := Ground.guard }], some (12, true)⟩) rfl (by rfl) (by rfl) (fun w' hw' => ?_) ?_; rotate_left
        · have hc0_ := Ext.cell hw' hc0; have hc1_ := Ext.cell hw' hc1; have hc2_ := Ext.cell hw' hc2; go_simp <;> first | rfl | exact ⟨rfl, rfl⟩
        simp only [Act.put, List.setIfInBounds_toArray, List.set_cons_zero, List.set_cons_succ]
        refine' wpT_det (o := ⟨some 22, Op.call { callee := Callee.builtin Builtin.len, args := #[Operand.tmp 21], argTypes := #[22] }, 3, "l06_integers.go:21", #[{ on := 16, ground := Ground.data }, { on := 12, ground := Ground.guard }], some (12, true)⟩) rfl (by rfl) (by rfl) (fun w' hw' => ?_) ?_; rotate_left
        · go_simp <;> first | rfl | exact ⟨rfl, rfl⟩
        simp only [Act.put, List.setIfInBounds_toArray, List.set_cons_zero, List.set_cons_succ]
        refine' wpT_det (o := ⟨some 23, Op.move (Operand.tmp 0), 44, "l06_integers.go:21", #[{ on := 12, ground := Ground.guard }], some (12, true)⟩) rfl (by rfl) (by rfl) (fun w' hw' => ?_) ?_; rotate_left
        · go_simp <;> first | rfl | exact ⟨rfl, rfl⟩
        simp only [Act.put, List.setIfInBounds_toArray, List.set_cons_zero, List.set_cons_succ]
        refine' wpT_det (o := ⟨some 24, Op.nilCheck (Operand.tmp 23), 0, "l06_integers.go:21", #[{ on := 18, ground := Ground.data }, { on := 12, ground := Ground.guard }], some (12, true)⟩) rfl (by rfl) (by rfl) (fun w' hw' => ?_) ?_; rotate_left
        · go_simp <;> first | rfl | exact ⟨rfl, rfl⟩
        simp only [Act.put, List.setIfInBounds_toArray, List.set_cons_zero, List.set_cons_succ]
        refine' wpT_det (o := ⟨some 25, Op.fieldAddr 31 (Operand.tmp 24) 0, 0, "l06_integers.go:21", #[{ on := 19, ground := Ground.data }, { on := 12, ground := Ground.guard }], some (12, true)⟩) rfl (by rfl) (by rfl) (fun w' hw' => ?_) ?_; rotate_left
        · go_simp <;> first | rfl | exact ⟨rfl, rfl⟩
        simp only [Act.put, List.setIfInBounds_toArray, List.set_cons_zero, List.set_cons_succ]
        refine' wpT_det (o := ⟨some 26, Op.load 2 (Operand.tmp 25), 2, "l06_integers.go:21", #[{ on := 20, ground := Ground.data }, { on := 12, ground := Ground.guard }], some (12, true)⟩) rfl (by rfl) (by rfl) (fun w' hw' => ?_) ?_; rotate_left
        · have hc0_ := Ext.cell hw' hc0; have hc1_ := Ext.cell hw' hc1; have hc2_ := Ext.cell hw' hc2; go_simp <;> first | rfl | exact ⟨rfl, rfl⟩
        simp only [Act.put, List.setIfInBounds_toArray, List.set_cons_zero, List.set_cons_succ]
        refine' wpT_det (o := ⟨some 27, Op.move (Operand.tmp 0), 44, "l06_integers.go:21", #[{ on := 12, ground := Ground.guard }], some (12, true)⟩) rfl (by rfl) (by rfl) (fun w' hw' => ?_) ?_; rotate_left
        · go_simp <;> first | rfl | exact ⟨rfl, rfl⟩
        simp only [Act.put, List.setIfInBounds_toArray, List.set_cons_zero, List.set_cons_succ]
        refine' wpT_det (o := ⟨some 28, Op.nilCheck (Operand.tmp 27), 0, "l06_integers.go:21", #[{ on := 22, ground := Ground.data }, { on := 12, ground := Ground.guard }], some (12, true)⟩) rfl (by rfl) (by rfl) (fun w' hw' => ?_) ?_; rotate_left
        · go_simp <;> first | rfl | exact ⟨rfl, rfl⟩
        simp only [Act.put, List.setIfInBounds_toArray, List.set_cons_zero, List.set_cons_succ]
        refine' wpT_det (o := ⟨some 29, Op.fieldAddr 31 (Operand.tmp 28) 1, 0, "l06_integers.go:21", #[{ on := 23, ground := Ground.data }, { on := 12, ground := Ground.guard }], some (12, true)⟩) rfl (by rfl) (by rfl) (fun w' hw' => ?_) ?_; rotate_left
        · go_simp <;> first | rfl | exact ⟨rfl, rfl⟩
        simp only [Act.put, List.setIfInBounds_toArray, List.set_cons_zero, List.set_cons_succ]
        refine' wpT_det (o := ⟨some 30, Op.load 2 (Operand.tmp 29), 2, "l06_integers.go:21", #[{ on := 24, ground := Ground.data }, { on := 12, ground := Ground.guard }], some (12, true)⟩) rfl (by rfl) (by rfl) (fun w' hw' => ?_) ?_; rotate_left
        · have hc0_ := Ext.cell hw' hc0; have hc1_ := Ext.cell hw' hc1; have hc2_ := Ext.cell hw' hc2; go_simp <;> first | rfl | exact ⟨rfl, rfl⟩
        simp only [Act.put, List.setIfInBounds_toArray, List.set_cons_zero, List.set_cons_succ]
        refine' wpT_det (o := ⟨some 31, Op.binOp BinOp.mul 2 (Operand.tmp 26) (Operand.tmp 30) 2, 2, "l06_integers.go:21", #[{ on := 21, ground := Ground.data }, { on := 25, ground := Ground.data }, { on := 12, ground := Ground.guard }], some (12, true)⟩) rfl (by rfl) (by rfl) (fun w' hw' => ?_) ?_; rotate_left
        · go_simp <;> first | rfl | exact ⟨rfl, rfl⟩
        simp only [Act.put, List.setIfInBounds_toArray, List.set_cons_zero, List.set_cons_succ]
        refine' wpT_det (o := ⟨some 32, Op.binOp BinOp.eql 2 (Operand.tmp 22) (Operand.tmp 31) 2, 4, "l06_integers.go:21", #[{ on := 17, ground := Ground.data }, { on := 26, ground := Ground.data }, { on := 12, ground := Ground.guard }], some (12, true)⟩) rfl (by rfl) (by rfl) (fun w' hw' => ?_) ?_; rotate_left
        · go_simp <;> first | rfl | exact ⟨rfl, rfl⟩
        simp only [Act.put, List.setIfInBounds_toArray, List.set_cons_zero, List.set_cons_succ]
        refine' wpT_det (o := ⟨some 33, Op.pick (Operand.tmp 17) (Operand.tmp 32) (Operand.const (Value.bool false)), 4, "l06_integers.go:21", #[{ on := 12, ground := Ground.data }, { on := 27, ground := Ground.data }], none⟩) rfl (by rfl) (by rfl) (fun w' hw' => ?_) ?_; rotate_left
        · go_simp <;> first | rfl | exact ⟨rfl, rfl⟩
        simp only [Act.put, List.setIfInBounds_toArray, List.set_cons_zero, List.set_cons_succ]
        refine' wpT_det (o := ⟨some 34, Op.move (Operand.tmp 33), 4, "l06_integers.go:21", #[{ on := 28, ground := Ground.data }, { on := 12, ground := Ground.chain }], none⟩) rfl (by rfl) (by rfl) (fun w' hw' => ?_) ?_; rotate_left
        · go_simp <;> first | rfl | exact ⟨rfl, rfl⟩
        simp only [Act.put, List.setIfInBounds_toArray, List.set_cons_zero, List.set_cons_succ]
        refine wpT_skip (o := ⟨some 35, Op.move (Operand.tmp 0), 44, "l06_integers.go:21", #[{ on := 29, ground := Ground.guard }], some (29, true)⟩) rfl (by rfl) ?_
        simp only [Act.put, List.setIfInBounds_toArray, List.set_cons_zero, List.set_cons_succ]
        refine wpT_skip (o := ⟨some 36, Op.nilCheck (Operand.tmp 35), 0, "l06_integers.go:21", #[{ on := 30, ground := Ground.data }, { on := 29, ground := Ground.guard }], some (29, true)⟩) rfl (by rfl) ?_
        simp only [Act.put, List.setIfInBounds_toArray, List.set_cons_zero, List.set_cons_succ]
        refine wpT_skip (o := ⟨some 37, Op.fieldAddr 31 (Operand.tmp 36) 2, 0, "l06_integers.go:21", #[{ on := 31, ground := Ground.data }, { on := 29, ground := Ground.guard }], some (29, true)⟩) rfl (by rfl) ?_
        simp only [Act.put, List.setIfInBounds_toArray, List.set_cons_zero, List.set_cons_succ]
        refine wpT_skip (o := ⟨some 38, Op.load 22 (Operand.tmp 37), 22, "l06_integers.go:21", #[{ on := 32, ground := Ground.data }, { on := 29, ground := Ground.guard }], some (29, true)⟩) rfl (by rfl) ?_
        simp only [Act.put, List.setIfInBounds_toArray, List.set_cons_zero, List.set_cons_succ]
        refine wpT_skip (o := ⟨some 39, Op.move (Operand.tmp 1), 2, "l06_integers.go:21", #[{ on := 29, ground := Ground.guard }], some (29, true)⟩) rfl (by rfl) ?_
        simp only [Act.put, List.setIfInBounds_toArray, List.set_cons_zero, List.set_cons_succ]
        refine wpT_skip (o := ⟨some 40, Op.call { callee := Callee.value (Operand.func 36), args := #[Operand.tmp 38, Operand.tmp 39], argTypes := #[22, 2] }, 4, "l06_integers.go:21", #[{ on := 33, ground := Ground.data }, { on := 34, ground := Ground.data }, { on := 29, ground := Ground.chain }, { on := 29, ground := Ground.guard }], some (29, true)⟩) rfl (by rfl) ?_
        simp only [Act.put, List.setIfInBounds_toArray, List.set_cons_zero, List.set_cons_succ]
        refine' wpT_det (o := ⟨some 41, Op.pick (Operand.tmp 34) (Operand.tmp 40) (Operand.const (Value.bool false)), 4, "l06_integers.go:21", #[{ on := 29, ground := Ground.data }, { on := 35, ground := Ground.data }], none⟩) rfl (by rfl) (by rfl) (fun w' hw' => ?_) ?_; rotate_left
        · go_simp <;> first | rfl | exact ⟨rfl, rfl⟩
        simp only [Act.put, List.setIfInBounds_toArray, List.set_cons_zero, List.set_cons_succ]
        refine' wpT_det (o := ⟨some 4, Op.assign (Operand.tmp 41), 4, "l06_integers.go:21", #[{ on := 36, ground := Ground.data }, { on := 35, ground := Ground.chain }, { on := 0, ground := Ground.phase }, { on := 1, ground := Ground.phase }, { on := 2, ground := Ground.phase }, { on := 3, ground := Ground.phase }, { on := 4, ground := Ground.phase }, { on := 5, ground := Ground.phase }, { on := 6, ground := Ground.phase }, { on := 7, ground := Ground.phase }, { on := 8, ground := Ground.phase }, { on := 9, ground := Ground.phase }, { on := 10, ground := Ground.phase }, { on := 11, ground := Ground.phase }, { on := 12, ground := Ground.phase }, { on := 13, ground := Ground.phase }, { on := 14, ground := Ground.phase }, { on := 15, ground := Ground.phase }, { on := 16, ground := Ground.phase }, { on := 17, ground := Ground.phase }, { on := 18, ground := Ground.phase }, { on := 19, ground := Ground.phase }, { on := 20, ground := Ground.phase }, { on := 21, ground := Ground.phase }, { on := 22, ground := Ground.phase }, { on := 23, ground := Ground.phase }, { on := 24, ground := Ground.phase }, { on := 25, ground := Ground.phase }, { on := 26, ground := Ground.phase }, { on := 27, ground := Ground.phase }, { on := 28, ground := Ground.phase }, { on := 29, ground := Ground.phase }, { on := 30, ground := Ground.phase }, { on := 31, ground := Ground.phase }, { on := 32, ground := Ground.phase }, { on := 33, ground := Ground.phase }, { on := 34, ground := Ground.phase }, { on := 35, ground := Ground.phase }, { on := 36, ground := Ground.phase }], none⟩) rfl (by rfl) (by rfl) (fun w' hw' => ?_) ?_; rotate_left
        · go_simp <;> first | rfl | exact ⟨rfl, rfl⟩
        simp only [Act.put, List.setIfInBounds_toArray, List.set_cons_zero, List.set_cons_succ]
        refine wpT_nil (fun w' hw' hF => ?_)
        refine wpList_nil ?_
        go_wp2_with fail
        go_ret
        exact ⟨ret_bool (by rw [Hres.out, h1, h2, decide_eq_false h3]; rfl), hw'.undrew⟩

set_option maxHeartbeats 1000000 in
theorem implValidWhole_any (r c : Int) (A : Option Addr) (n cap : Nat) (xs : List Int) (w : World) (hr : Rds w A n (ints xs)) :
    Calls Try.prog 23 #[.agg #[.int .i64 r, .int .i64 c, .slice A n cap]] w fun e w' => e = .returned (.bool (isWholeB r c xs 1000000)) ∧ Ext w w' := by
  go_enter Try.func23, Try.ntmps23
  go_wp2_with fail
  refine (isWhole_any r c _ A n cap xs _ (hr.below ((Ext.refl _).alloc _)) (by omega)).mono ?_
  rintro e w1 ⟨rfl, hx⟩
  go_wp2_with fail
  go_ret
  exact ⟨rfl, ((Ext.refl _).alloc _).trans hx⟩

end Go.Proofs.Ytdmeobffijhloaa
