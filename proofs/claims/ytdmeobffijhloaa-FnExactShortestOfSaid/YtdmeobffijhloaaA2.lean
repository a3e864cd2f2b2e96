
import Derived.Test.YtdmeobffijhloaaA1
set_option linter.unusedVariables false
set_option linter.unusedSimpArgs false

namespace Go.Proofs.Ytdmeobffijhloaa

open Go.RowKit

set_option maxHeartbeats 400000 in
theorem length_any (A : Option Addr) (n cap : Nat) (hn : n ≤ 9223372036854775807) (w : World) :
    Calls Try.prog 42 #[.slice A n cap] w fun e w' => e = .returned (.int .i64 n) ∧ w = w' := by
  go_enter Try.func42, Try.ntmps42
  go_wp2
  go_ret
  exact ⟨rfl, rfl⟩

set_option maxHeartbeats 1000000 in
theorem isWhole_any (r c most : Int) (A : Option Addr) (n cap : Nat) (xs : List Int) (w : World) (hr : Rds w A n (ints xs)) (hm : 0 ≤ most ∧ most ≤ 1000000) :
    Calls Try.prog 37 #[.agg #[.int .i64 r, .int .i64 c, .slice A n cap], .int .i64 most] w fun e w' => e = .returned (.bool (isWholeB r c xs most)) ∧ Ext w w' := by
  have hs := hr.small
  have hl := hr.ilen
  have hwm : IntKind.i64.wrap (-most) = -most := IntWalk.i64_in _ (by omega)
  obtain ⟨res, hres⟩ : ∃ res, res = isWholeB r c xs most := ⟨_, rfl⟩
  rw [← hres]
  unfold isWholeB at hres
  rw [hl] at hres
  have Hres := Lib.hid hres
  clear hres hl
  go_enter Try.func37, Try.ntmps37
  go_wp2_with fail
  obtain ⟨w0, hw0⟩ : ∃ w0, w0 = w.alloc (.cells #[.int .i64 r, .int .i64 c, .slice A n cap] 31) := ⟨_, rfl⟩
  have hc0 : w0.cell? ⟨w.heap.size, 0, none⟩ = some (.int .i64 r) := by subst hw0; simp
  have hc1 : w0.cell? ⟨w.heap.size, 1, none⟩ = some (.int .i64 c) := by subst hw0; simp
  have hc2 : w0.cell? ⟨w.heap.size, 2, none⟩ = some (.slice A n cap) := by subst hw0; simp
  have hx0 : Ext w w0 := by subst hw0; exact (Ext.refl _).alloc _
  rw [← hw0]
  clear hw0
  cases h1 : inR 1 r 6 with
  | false =>
    refine wp_region_T (cs := []) [0, 1, 2, 3, 4, 5, 6, 7, 8, 9, 10, 11, 12, 13, 14, 15, 16, 17, 18, 19, 20, 21, 22, 23, 24, 25, 26, 27] [] [2] [] (fun i__ v => match i__ with | 2 => v = (.bool false) | _ => False) (fun _ _ _ => True) (by kernel_rfl) (by kernel_rfl) (fun _ _ _ _ _ _ => trivial) ?_
    refine' wpT_det (o := ⟨some 5, Op.fieldAddr 31 (Operand.tmp 2) 0, 0, "l06_integers.go:19", #[], none⟩) rfl (by rfl) (by rfl) (fun w' hw' => ?_) ?_; rotate_left
    · go_simp <;> first | rfl | exact ⟨rfl, rfl⟩
    simp only [Act.put, List.setIfInBounds_toArray, List.set_cons_zero, List.set_cons_succ]
    refine' wpT_det (o := ⟨some 6, Op.load 2 (Operand.tmp 5), 2, "l06_integers.go:19", #[{ on := 0, ground := Ground.data }], none⟩) rfl (by rfl) (by rfl) (fun w' hw' => ?_) ?_; rotate_left
    · have hc0_ := Ext.cell hw' hc0; have hc1_ := Ext.cell hw' hc1; have hc2_ := Ext.cell hw' hc2; go_simp <;> first | rfl | exact ⟨rfl, rfl⟩
    simp only [Act.put, List.setIfInBounds_toArray, List.set_cons_zero, List.set_cons_succ]
    refine wpT_nd (o := ⟨some 7, Op.call { callee := Callee.value (Operand.func 34), args := #[Operand.tmp 6, Operand.const (Value.int IntKind.i64 1), Operand.const (Value.int IntKind.i64 6)], argTypes := #[2, 2, 2] }, 4, "l06_integers.go:19", #[{ on := 1, ground := Ground.data }], none⟩) rfl (by rfl) (by rfl) (fun w' hw' hF R__ hGo => ?_) ⟨_, rfl⟩ ?_
    · go_simp
      refine gives_enter rfl ?_
      refine (inRange_any _ _ _ _).mono ?_
      rintro e w2 ⟨rfl, rfl⟩
      exact ⟨_, rfl, hGo _ _ (Ext.refl _) (congrArg Value.bool h1) trivial⟩
    intro v hv
    obtain rfl : v = (.bool false) := hv
    simp only [Act.put, List.setIfInBounds_toArray, List.set_cons_zero, List.set_cons_succ]
    refine' wpT_det (o := ⟨some 8, Op.move (Operand.tmp 7), 4, "l06_integers.go:19", #[{ on := 2, ground := Ground.data }, { on := 2, ground := Ground.chain }], none⟩) rfl (by rfl) (by rfl) (fun w' hw' => ?_) ?_; rotate_left
    · go_simp <;> first | rfl | exact ⟨rfl, rfl⟩
    simp only [Act.put, List.setIfInBounds_toArray, List.set_cons_zero, List.set_cons_succ]
    refine wpT_skip (o := ⟨some 9, Op.fieldAddr 31 (Operand.tmp 2) 1, 0, "l06_integers.go:19", #[{ on := 3, ground := Ground.guard }], some (3, true)⟩) rfl (by rfl) ?_
    simp only [Act.put, List.setIfInBounds_toArray, List.set_cons_zero, List.set_cons_succ]
    refine wpT_skip (o := ⟨some 10, Op.load 2 (Operand.tmp 9), 2, "l06_integers.go:19", #[{ on := 4, ground := Ground.data }, { on := 3, ground := Ground.guard }], some (3, true)⟩) rfl (by rfl) ?_
    simp only [Act.put, List.setIfInBounds_toArray, List.set_cons_zero, List.set_cons_succ]
    refine wpT_skip (o := ⟨some 11, Op.call { callee := Callee.value (Operand.func 34), args := #[Operand.tmp 10, Operand.const (Value.int IntKind.i64 1), Operand.const (Value.int IntKind.i64 6)], argTypes := #[2, 2, 2] }, 4, "l06_integers.go:19", #[{ on := 5, ground := Ground.data }, { on := 3, ground := Ground.chain }, { on := 3, ground := Ground.guard }], some (3, true)⟩) rfl (by rfl) ?_
    simp only [Act.put, List.setIfInBounds_toArray, List.set_cons_zero, List.set_cons_succ]
    refine' wpT_det (o := ⟨some 12, Op.pick (Operand.tmp 8) (Operand.tmp 11) (Operand.const (Value.bool false)), 4, "l06_integers.go:19", #[{ on := 3, ground := Ground.data }, { on := 6, ground := Ground.data }], none⟩) rfl (by rfl) (by rfl) (fun w' hw' => ?_) ?_; rotate_left
    · go_simp <;> first | rfl | exact ⟨rfl, rfl⟩
    simp only [Act.put, List.setIfInBounds_toArray, List.set_cons_zero, List.set_cons_succ]
    refine' wpT_det (o := ⟨some 13, Op.move (Operand.tmp 12), 4, "l06_integers.go:19", #[{ on := 7, ground := Ground.data }, { on := 6, ground := Ground.chain }], none⟩) rfl (by rfl) (by rfl) (fun w' hw' => ?_) ?_; rotate_left
    · go_simp <;> first | rfl | exact ⟨rfl, rfl⟩
    simp only [Act.put, List.setIfInBounds_toArray, List.set_cons_zero, List.set_cons_succ]
    refine wpT_skip (o := ⟨some 14, Op.fieldAddr 31 (Operand.tmp 2) 2, 0, "l06_integers.go:19", #[{ on := 8, ground := Ground.guard }], some (8, true)⟩) rfl (by rfl) ?_
    simp only [Act.put, List.setIfInBounds_toArray, List.set_cons_zero, List.set_cons_succ]
    refine wpT_skip (o := ⟨some 15, Op.load 22 (Operand.tmp 14), 22, "l06_integers.go:19", #[{ on := 9, ground := Ground.data }, { on := 8, ground := Ground.guard }], some (8, true)⟩) rfl (by rfl) ?_
    simp only [Act.put, List.setIfInBounds_toArray, List.set_cons_zero, List.set_cons_succ]
    refine wpT_skip (o := ⟨some 16, Op.call { callee := Callee.value (Operand.func 42), args := #[Operand.tmp 15], argTypes := #[22] }, 2, "l06_integers.go:19", #[{ on := 10, ground := Ground.data }, { on := 8, ground := Ground.chain }, { on := 8, ground := Ground.guard }], some (8, true)⟩) rfl (by rfl) ?_
    simp only [Act.put, List.setIfInBounds_toArray, List.set_cons_zero, List.set_cons_succ]
    refine wpT_skip (o := ⟨some 17, Op.fieldAddr 31 (Operand.tmp 2) 0, 0, "l06_integers.go:19", #[{ on := 8, ground := Ground.guard }], some (8, true)⟩) rfl (by rfl) ?_
    simp only [Act.put, List.setIfInBounds_toArray, List.set_cons_zero, List.set_cons_succ]
    refine wpT_skip (o := ⟨some 18, Op.load 2 (Operand.tmp 17), 2, "l06_integers.go:19", #[{ on := 12, ground := Ground.data }, { on := 8, ground := Ground.guard }], some (8, true)⟩) rfl (by rfl) ?_
    simp only [Act.put, List.setIfInBounds_toArray, List.set_cons_zero, List.set_cons_succ]
    refine wpT_skip (o := ⟨some 19, Op.fieldAddr 31 (Operand.tmp 2) 1, 0, "l06_integers.go:19", #[{ on := 8, ground := Ground.guard }], some (8, true)⟩) rfl (by rfl) ?_
    simp only [Act.put, List.setIfInBounds_toArray, List.set_cons_zero, List.set_cons_succ]
    refine wpT_skip (o := ⟨some 20, Op.load 2 (Operand.tmp 19), 2, "l06_integers.go:19", #[{ on := 14, ground := Ground.data }, { on := 8, ground := Ground.guard }], some (8, true)⟩) rfl (by rfl) ?_
    simp only [Act.put, List.setIfInBounds_toArray, List.set_cons_zero, List.set_cons_succ]
    refine wpT_skip (o := ⟨some 21, Op.binOp BinOp.mul 2 (Operand.tmp 18) (Operand.tmp 20) 2, 2, "l06_integers.go:19", #[{ on := 13, ground := Ground.data }, { on := 15, ground := Ground.data }, { on := 8, ground := Ground.guard }], some (8, true)⟩) rfl (by rfl) ?_
    simp only [Act.put, List.setIfInBounds_toArray, List.set_cons_zero, List.set_cons_succ]
    refine wpT_skip (o := ⟨some 22, Op.binOp BinOp.eql 2 (Operand.tmp 16) (Operand.tmp 21) 2, 4, "l06_integers.go:19", #[{ on := 11, ground := Ground.data }, { on := 16, ground := Ground.data }, { on := 8, ground := Ground.guard }], some (8, true)⟩) rfl (by rfl) ?_
    simp only [Act.put, List.setIfInBounds_toArray, List.set_cons_zero, List.set_cons_succ]
    refine' wpT_det (o := ⟨some 23, Op.pick (Operand.tmp 13) (Operand.tmp 22) (Operand.const (Value.bool false)), 4, "l06_integers.go:19", #[{ on := 8, ground := Ground.data }, { on := 17, ground := Ground.data }], none⟩) rfl (by rfl) (by rfl) (fun w' hw' => ?_) ?_; rotate_left
    · go_simp <;> first | rfl | exact ⟨rfl, rfl⟩
    simp only [Act.put, List.setIfInBounds_toArray, List.set_cons_zero, List.set_cons_succ]
    refine' wpT_det (o := ⟨some 24, Op.move (Operand.tmp 23), 4, "l06_integers.go:19", #[{ on := 18, ground := Ground.data }, { on := 11, ground := Ground.chain }], none⟩) rfl (by rfl) (by rfl) (fun w' hw' => ?_) ?_; rotate_left
    · go_simp <;> first | rfl | exact ⟨rfl, rfl⟩
    simp only [Act.put, List.setIfInBounds_toArray, List.set_cons_zero, List.set_cons_succ]
    refine wpT_skip (o := ⟨some 25, Op.fieldAddr 31 (Operand.tmp 2) 2, 0, "l06_integers.go:19", #[{ on := 19, ground := Ground.guard }], some (19, true)⟩) rfl (by rfl) ?_
    simp only [Act.put, List.setIfInBounds_toArray, List.set_cons_zero, List.set_cons_succ]
    refine wpT_skip (o := ⟨some 26, Op.load 22 (Operand.tmp 25), 22, "l06_integers.go:19", #[{ on := 20, ground := Ground.data }, { on := 19, ground := Ground.guard }], some (19, true)⟩) rfl (by rfl) ?_
    simp only [Act.put, List.setIfInBounds_toArray, List.set_cons_zero, List.set_cons_succ]
    refine wpT_skip (o := ⟨some 27, Op.move (Operand.tmp 1), 2, "l06_integers.go:19", #[{ on := 19, ground := Ground.guard }], some (19, true)⟩) rfl (by rfl) ?_
    simp only [Act.put, List.setIfInBounds_toArray, List.set_cons_zero, List.set_cons_succ]
    refine wpT_skip (o := ⟨some 28, Op.unOp UnOp.neg 2 (Operand.tmp 27), 2, "l06_integers.go:19", #[{ on := 22, ground := Ground.data }, { on := 19, ground := Ground.guard }], some (19, true)⟩) rfl (by rfl) ?_
    simp only [Act.put, List.setIfInBounds_toArray, List.set_cons_zero, List.set_cons_succ]
    refine wpT_skip (o := ⟨some 29, Op.move (Operand.tmp 1), 2, "l06_integers.go:19", #[{ on := 19, ground := Ground.guard }], some (19, true)⟩) rfl (by rfl) ?_
    simp only [Act.put, List.setIfInBounds_toArray, List.set_cons_zero, List.set_cons_succ]
    refine wpT_skip (o := ⟨some 30, Op.call { callee := Callee.value (Operand.func 43), args := #[Operand.tmp 26, Operand.tmp 28, Operand.tmp 29], argTypes := #[22, 2, 2] }, 4, "l06_integers.go:19", #[{ on := 21, ground := Ground.data }, { on := 23, ground := Ground.data }, { on := 24, ground := Ground.data }, { on := 19, ground := Ground.chain }, { on := 19, ground := Ground.guard }], some (19, true)⟩) rfl (by rfl) ?_
    simp only [Act.put, List.setIfInBounds_toArray, List.set_cons_zero, List.set_cons_succ]
    refine' wpT_det (o := ⟨some 31, Op.pick (Operand.tmp 24) (Operand.tmp 30) (Operand.const (Value.bool false)), 4, "l06_integers.go:19", #[{ on := 19, ground := Ground.data }, { on := 25, ground := Ground.data }], none⟩) rfl (by rfl) (by rfl) (fun w' hw' => ?_) ?_; rotate_left
    · go_simp <;> first | rfl | exact ⟨rfl, rfl⟩
    simp only [Act.put, List.setIfInBounds_toArray, List.set_cons_zero, List.set_cons_succ]
    refine' wpT_det (o := ⟨some 4, Op.assign (Operand.tmp 31), 4, "l06_integers.go:19", #[{ on := 26, ground := Ground.data }, { on := 25, ground := Ground.chain }, { on := 0, ground := Ground.phase }, { on := 1, ground := Ground.phase }, { on := 2, ground := Ground.phase }, { on := 3, ground := Ground.phase }, { on := 4, ground := Ground.phase }, { on := 5, ground := Ground.phase }, { on := 6, ground := Ground.phase }, { on := 7, ground := Ground.phase }, { on := 8, ground := Ground.phase }, { on := 9, ground := Ground.phase }, { on := 10, ground := Ground.phase }, { on := 11, ground := Ground.phase }, { on := 12, ground := Ground.phase }, { on := 13, ground := Ground.phase }, { on := 14, ground := Ground.phase }, { on := 15, ground := Ground.phase }, { on := 16, ground := Ground.phase }, { on := 17, ground := Ground.phase }, { on := 18, ground := Ground.phase }, { on := 19, ground := Ground.phase }, { on := 20, ground := Ground.phase }, { on := 21, ground := Ground.phase }, { on := 22, ground := Ground.phase }, { on := 23, ground := Ground.phase }, { on := 24, ground := Ground.phase }, { on := 25, ground := Ground.phase }, { on := 26, ground := Ground.phase }], none⟩) rfl (by rfl) (by rfl) (fun w' hw' => ?_) ?_; rotate_left
    · go_simp <;> first | rfl | exact ⟨rfl, rfl⟩
    simp only [Act.put, List.setIfInBounds_toArray, List.set_cons_zero, List.set_cons_succ]
    refine wpT_nil (fun w' hw' hF => ?_)
    refine wpList_nil ?_
    go_wp2_with fail
    go_ret
    exact ⟨ret_bool (by rw [Hres.out, h1]; rfl), hx0.trans hw'.undrew⟩
  | true =>
    cases h2 : inR 1 c 6 with
    | false =>
      refine wp_region_T (cs := []) [0, 1, 2, 3, 4, 5, 6, 7, 8, 9, 10, 11, 12, 13, 14, 15, 16, 17, 18, 19, 20, 21, 22, 23, 24, 25, 26, 27] [] [2, 6] [] (fun i__ v => match i__ with | 2 => v = (.bool true) | 6 => v = (.bool false) | _ => False) (fun _ _ _ => True) (by kernel_rfl) (by kernel_rfl) (fun _ _ _ _ _ _ => trivial) ?_
      refine' wpT_det (o := ⟨some 5, Op.fieldAddr 31 (Operand.tmp 2) 0, 0, "l06_integers.go:19", #[], none⟩) rfl (by rfl) (by rfl) (fun w' hw' => ?_) ?_; rotate_left
      · go_simp <;> first | rfl | exact ⟨rfl, rfl⟩
      simp only [Act.put, List.setIfInBounds_toArray, List.set_cons_zero, List.set_cons_succ]
      refine' wpT_det (o := ⟨some 6, Op.load 2 (Operand.tmp 5), 2, "l06_integers.go:19", #[{ on := 0, ground := Ground.data }], none⟩) rfl (by rfl) (by rfl) (fun w' hw' => ?_) ?_; rotate_left
      · have hc0_ := Ext.cell hw' hc0; have hc1_ := Ext.cell hw' hc1; have hc2_ := Ext.cell hw' hc2; go_simp <;> first | rfl | exact ⟨rfl, rfl⟩
      simp only [Act.put, List.setIfInBounds_toArray, List.set_cons_zero, List.set_cons_succ]
      refine wpT_nd (o := ⟨some 7, Op.call { callee := Callee.value (Operand.func 34), args := #[Operand.tmp 6, Operand.const (Value.int IntKind.i64 1), Operand.const (Value.int IntKind.i64 6)], argTypes := #[2, 2, 2] }, 4, "l06_integers.go:19", #[{ on := 1, ground := Ground.data }], none⟩) rfl (by rfl) (by rfl) (fun w' hw' hF R__ hGo => ?_) ⟨_, rfl⟩ ?_
      · go_simp
        refine gives_enter rfl ?_
        refine (inRange_any _ _ _ _).mono ?_
        rintro e w2 ⟨rfl, rfl⟩
        exact ⟨_, rfl, hGo _ _ (Ext.refl _) (congrArg Value.bool h1) trivial⟩
      intro v hv
      obtain rfl : v = (.bool true) := hv
      simp only [Act.put, List.setIfInBounds_toArray, List.set_cons_zero, List.set_cons_succ]
      refine' wpT_det (o := ⟨some 8, Op.move (Operand.tmp 7), 4, "l06_integers.go:19", #[{ on := 2, ground := Ground.data }, { on := 2, ground := Ground.chain }], none⟩) rfl (by rfl) (by rfl) (fun w' hw' => ?_) ?_; rotate_left
      · go_simp <;> first | rfl | exact ⟨rfl, rfl⟩
      simp only [Act.put, List.setIfInBounds_toArray, List.set_cons_zero, List.set_cons_succ]
      refine' wpT_det (o := ⟨some 9, Op.fieldAddr 31 (Operand.tmp 2) 1, 0, "l06_integers.go:19", #[{ on := 3, ground := Ground.guard }], some (3, true)⟩) rfl (by rfl) (by rfl) (fun w' hw' => ?_) ?_; rotate_left
      · go_simp <;> first | rfl | exact ⟨rfl, rfl⟩
      simp only [Act.put, List.setIfInBounds_toArray, List.set_cons_zero, List.set_cons_succ]
      refine' wpT_det (o := ⟨some 10, Op.load 2 (Operand.tmp 9), 2, "l06_integers.go:19", #[{ on := 4, ground := Ground.data }, { on := 3, ground := Ground.guard }], some (3, true)⟩) rfl (by rfl) (by rfl) (fun w' hw' => ?_) ?_; rotate_left
      · have hc0_ := Ext.cell hw' hc0; have hc1_ := Ext.cell hw' hc1; have hc2_ := Ext.cell hw' hc2; go_simp <;> first | rfl | exact ⟨rfl, rfl⟩
      simp only [Act.put, List.setIfInBounds_toArray, List.set_cons_zero, List.set_cons_succ]
      refine wpT_nd (o := ⟨some 11, Op.call { callee := Callee.value (Operand.func 34), args := #[Operand.tmp 10, Operand.const (Value.int IntKind.i64 1), Operand.const (Value.int IntKind.i64 6)], argTypes := #[2, 2, 2] }, 4, "l06_integers.go:19", #[{ on := 5, ground := Ground.data }, { on := 3, ground := Ground.chain }, { on := 3, ground := Ground.guard }], some (3, true)⟩) rfl (by rfl) (by rfl) (fun w' hw' hF R__ hGo => ?_) ⟨_, rfl⟩ ?_
      · go_simp
        refine gives_enter rfl ?_
        refine (inRange_any _ _ _ _).mono ?_
        rintro e w2 ⟨rfl, rfl⟩
        exact ⟨_, rfl, hGo _ _ (Ext.refl _) (congrArg Value.bool h2) trivial⟩
      intro v hv
      obtain rfl : v = (.bool false) := hv
      simp only [Act.put, List.setIfInBounds_toArray, List.set_cons_zero, List.set_cons_succ]
      refine' wpT_det (o := ⟨some 12, Op.pick (Operand.tmp 8) (Operand.tmp 11) (Operand.const (Value.bool false)), 4, "l06_integers.go:19", #[{ on := 3, ground := Ground.data }, { on := 6, ground := Ground.data }], none⟩) rfl (by rfl) (by rfl) (fun w' hw' => ?_) ?_; rotate_left
      · go_simp <;> first | rfl | exact ⟨rfl, rfl⟩
      simp only [Act.put, List.setIfInBounds_toArray, List.set_cons_zero, List.set_cons_succ]
      refine' wpT_det (o := ⟨some 13, Op.move (Operand.tmp 12), 4, "l06_integers.go:19", #[{ on := 7, ground := Ground.data }, { on := 6, ground := Ground.chain }], none⟩) rfl (by rfl) (by rfl) (fun w' hw' => ?_) ?_; rotate_left
      · go_simp <;> first | rfl | exact ⟨rfl, rfl⟩
      simp only [Act.put, List.setIfInBounds_toArray, List.set_cons_zero, List.set_cons_succ]
      refine wpT_skip (o := ⟨some 14, Op.fieldAddr 31 (Operand.tmp 2) 2, 0, "l06_integers.go:19", #[{ on := 8, ground := Ground.guard }], some (8, true)⟩) rfl (by rfl) ?_
      simp only [Act.put, List.setIfInBounds_toArray, List.set_cons_zero, List.set_cons_succ]
      refine wpT_skip (o := ⟨some 15, Op.load 22 (Operand.tmp 14), 22, "l06_integers.go:19", #[{ on := 9, ground := Ground.data }, { on := 8, ground := Ground.guard }], some (8, true)⟩) rfl (by rfl) ?_
      simp only [Act.put, List.setIfInBounds_toArray, List.set_cons_zero, List.set_cons_succ]
      refine wpT_skip (o := ⟨some 16, Op.call { callee := Callee.value (Operand.func 42), args := #[Operand.tmp 15], argTypes := #[22] }, 2, "l06_integers.go:19", #[{ on := 10, ground := Ground.data }, { on := 8, ground := Ground.chain }, { on := 8, ground := Ground.guard }], some (8, true)⟩) rfl (by rfl) ?_
      simp only [Act.put, List.setIfInBounds_toArray, List.set_cons_zero, List.set_cons_succ]
      refine wpT_skip (o := ⟨some 17, Op.fieldAddr 31 (Operand.tmp 2) 0, 0, "l06_integers.go:19", #[{ on := 8, ground := Ground.guard }], some (8, true)⟩) rfl (by rfl) ?_
      simp only [Act.put, List.setIfInBounds_toArray, List.set_cons_zero, List.set_cons_succ]
      refine wpT_skip (o := ⟨some 18, Op.load 2 (Operand.tmp 17), 2, "l06_integers.go:19", #[{ on := 12, ground := Ground.data }, { on := 8, ground := Ground.guard }], some (8, true)⟩) rfl (by rfl) ?_
      simp only [Act.put, List.setIfInBounds_toArray, List.set_cons_zero, List.set_cons_succ]
      refine wpT_skip (o := ⟨some 19, Op.fieldAddr 31 (Operand.tmp 2) 1, 0, "l06_integers.go:19", #[{ on := 8, ground := Ground.guard }], some (8, true)⟩) rfl (by rfl) ?_
      simp only [Act.put, List.setIfInBounds_toArray, List.set_cons_zero, List.set_cons_succ]
      refine wpT_skip (o := ⟨some 20, Op.load 2 (Operand.tmp 19), 2, "l06_integers.go:19", #[{ on := 14, ground := Ground.data }, { on := 8, ground := Ground.guard }], some (8, true)⟩) rfl (by rfl) ?_
      simp only [Act.put, List.setIfInBounds_toArray, List.set_cons_zero, List.set_cons_succ]
      refine wpT_skip (o := ⟨some 21, Op.binOp BinOp.mul 2 (Operand.tmp 18) (Operand.tmp 20) 2, 2, "l06_integers.go:19", #[{ on := 13, ground := Ground.data }, { on := 15, ground := Ground.data }, { on := 8, ground := Ground.guard }], some (8, true)⟩) rfl (by rfl) ?_
      simp only [Act.put, List.setIfInBounds_toArray, List.set_cons_zero, List.set_cons_succ]
      refine wpT_skip (o := ⟨some 22, Op.binOp BinOp.eql 2 (Operand.tmp 16) (Operand.tmp 21) 2, 4, "l06_integers.go:19", #[{ on := 11, ground := Ground.data }, { on := 16, ground := Ground.data }, { on := 8, ground := Ground.guard }], some (8, true)⟩) rfl (by rfl) ?_
      simp only [Act.put, List.setIfInBounds_toArray, List.set_cons_zero, List.set_cons_succ]
      refine' wpT_det (o := ⟨some 23, Op.pick (Operand.tmp 13) (Operand.tmp 22) (Operand.const (Value.bool false)), 4, "l06_integers.go:19", #[{ on := 8, ground := Ground.data }, { on := 17, ground := Ground.data }], none⟩) rfl (by rfl) (by rfl) (fun w' hw' => ?_) ?_; rotate_left
      · go_simp <;> first | rfl | exact ⟨rfl, rfl⟩
      simp only [Act.put, List.setIfInBounds_toArray, List.set_cons_zero, List.set_cons_succ]
      refine' wpT_det (o := ⟨some 24, Op.move (Operand.tmp 23), 4, "l06_integers.go:19", #[{ on := 18, ground := Ground.data }, { on := 11, ground := Ground.chain }], none⟩) rfl (by rfl) (by rfl) (fun w' hw' => ?_) ?_; rotate_left
      · go_simp <;> first | rfl | exact ⟨rfl, rfl⟩
      simp only [Act.put, List.setIfInBounds_toArray, List.set_cons_zero, List.set_cons_succ]
      refine wpT_skip (o := ⟨some 25, Op.fieldAddr 31 (Operand.tmp 2) 2, 0, "l06_integers.go:19", #[{ on := 19, ground := Ground.guard }], some (19, true)⟩) rfl (by rfl) ?_
      simp only [Act.put, List.setIfInBounds_toArray, List.set_cons_zero, List.set_cons_succ]
      refine wpT_skip (o := ⟨some 26, Op.load 22 (Operand.tmp 25), 22, "l06_integers.go:19", #[{ on := 20, ground := Ground.data }, { on := 19, ground := Ground.guard }], some (19, true)⟩) rfl (by rfl) ?_
      simp only [Act.put, List.setIfInBounds_toArray, List.set_cons_zero, List.set_cons_succ]
      refine wpT_skip (o := ⟨some 27, Op.move (Operand.tmp 1), 2, "l06_integers.go:19", #[{ on := 19, ground := Ground.guard }], some (19, true)⟩) rfl (by rfl) ?_
      simp only [Act.put, List.setIfInBounds_toArray, List.set_cons_zero, List.set_cons_succ]
      refine wpT_skip (o := ⟨some 28, Op.unOp UnOp.neg 2 (Operand.tmp 27), 2, "l06_integers.go:19", #[{ on := 22, ground := Ground.data }, { on := 19, ground := Ground.guard }], some (19, true)⟩) rfl (by rfl) ?_
      simp only [Act.put, List.setIfInBounds_toArray, List.set_cons_zero, List.set_cons_succ]
      refine wpT_skip (o := ⟨some 29, Op.move (Operand.tmp 1), 2, "l06_integers.go:19", #[{ on := 19, ground := Ground.guard }], some (19, true)⟩) rfl (by rfl) ?_
      simp only [Act.put, List.setIfInBounds_toArray, List.set_cons_zero, List.set_cons_succ]
      refine wpT_skip (o := ⟨some 30, Op.call { callee := Callee.value (Operand.func 43), args := #[Operand.tmp 26, Operand.tmp 28, Operand.tmp 29], argTypes := #[22, 2, 2] }, 4, "l06_integers.go:19", #[{ on := 21, ground := Ground.data }, { on := 23, ground := Ground.data }, { on := 24, ground := Ground.data }, { on := 19, ground := Ground.chain }, { on := 19, ground := Ground.guard }], some (19, true)⟩) rfl (by rfl) ?_
      simp only [Act.put, List.setIfInBounds_toArray, List.set_cons_zero, List.set_cons_succ]
      refine' wpT_det (o := ⟨some 31, Op.pick (Operand.tmp 24) (Operand.tmp 30) (Operand.const (Value.bool false)), 4, "l06_integers.go:19", #[{ on := 19, ground := Ground.data }, { on := 25, ground := Ground.data }], none⟩) rfl (by rfl) (by rfl) (fun w' hw' => ?_) ?_; rotate_left
      · go_simp <;> first | rfl | exact ⟨rfl, rfl⟩
      simp only [Act.put, List.setIfInBounds_toArray, List.set_cons_zero, List.set_cons_succ]
      refine' wpT_det (o := ⟨some 4, Op.assign (Operand.tmp 31), 4, "l06_integers.go:19", #[{ on := 26, ground := Ground.data }, { on := 25, ground := Ground.chain }, { on := 0, ground := Ground.phase }, { on := 1, ground := Ground.phase }, { on := 2, ground := Ground.phase }, { on := 3, ground := Ground.phase }, { on := 4, ground := Ground.phase }, { on := 5, ground := Ground.phase }, { on := 6, ground := Ground.phase }, { on := 7, ground := Ground.phase }, { on := 8, ground := Ground.phase }, { on := 9, ground := Ground.phase }, { on := 10, ground := Ground.phase }, { on := 11, ground := Ground.phase }, { on := 12, ground := Ground.phase }, { on := 13, ground := Ground.phase }, { on := 14, ground := Ground.phase }, { on := 15, ground := Ground.phase }, { on := 16, ground := Ground.phase }, { on := 17, ground := Ground.phase }, { on := 18, ground := Ground.phase }, { on := 19, ground := Ground.phase }, { on := 20, ground := Ground.phase }, { on := 21, ground := Ground.phase }, { on := 22, ground := Ground.phase }, { on := 23, ground := Ground.phase }, { on := 24, ground := Ground.phase }, { on := 25, ground := Ground.phase }, { on := 26, ground := Ground.phase }], none⟩) rfl (by rfl) (by rfl) (fun w' hw' => ?_) ?_; rotate_left
      · go_simp <;> first | rfl | exact ⟨rfl, rfl⟩
      simp only [Act.put, List.setIfInBounds_toArray, List.set_cons_zero, List.set_cons_succ]
      refine wpT_nil (fun w' hw' hF => ?_)
      refine wpList_nil ?_
      go_wp2_with fail
      go_ret
      exact ⟨ret_bool (by rw [Hres.out, h1, h2]; rfl), hx0.trans hw'.undrew⟩
    | true =>
      have b1 := inR_iff.1 h1
      have b2 := inR_iff.1 h2
      have q0 : 0 ≤ r * c := Int.mul_nonneg (by omega) (by omega)
      have q1 : r * c ≤ 36 := Int.le_trans (Int.mul_le_mul_of_nonneg_right b1.2 (by omega)) (by omega)
      have hw3 : IntKind.i64.wrap (r * c) = r * c := IntWalk.i64_in _ (by omega)
      by_cases h3 : (n : Int) = r * c
      · have h3' : ((n : Int) == r * c) = true := by simpa using h3
        have H3 := Lib.hid h3
        clear h3
        refine wp_region_T (cs := []) [0, 1, 2, 3, 4, 5, 6, 7, 8, 9, 10, 11, 12, 13, 14, 15, 16, 17, 18, 19, 20, 21, 22, 23, 24, 25, 26, 27] [] [2, 6, 11, 25] [] (fun i__ v => match i__ with | 2 => v = (.bool true) | 6 => v = (.bool true) | 11 => v = (.int .i64 n) | 25 => v = (.bool (xs.all fun x => inR (-most) x most)) | _ => False) (fun _ _ _ => True) (by kernel_rfl) (by kernel_rfl) (fun _ _ _ _ _ _ => trivial) ?_
        refine' wpT_det (o := ⟨some 5, Op.fieldAddr 31 (Operand.tmp 2) 0, 0, "l06_integers.go:19", #[], none⟩) rfl (by rfl) (by rfl) (fun w' hw' => ?_) ?_; rotate_left
        · go_simp <;> first | rfl | exact ⟨rfl, rfl⟩
        simp only [Act.put, List.setIfInBounds_toArray, List.set_cons_zero, List.set_cons_succ]
        refine' wpT_det (o := ⟨some 6, Op.load 2 (Operand.tmp 5), 2, "l06_integers.go:19", #[{ on := 0, ground := Ground.data }], none⟩) rfl (by rfl) (by rfl) (fun w' hw' => ?_) ?_; rotate_left
        · have hc0_ := Ext.cell hw' hc0; have hc1_ := Ext.cell hw' hc1; have hc2_ := Ext.cell hw' hc2; go_simp <;> first | rfl | exact ⟨rfl, rfl⟩
        simp only [Act.put, List.setIfInBounds_toArray, List.set_cons_zero, List.set_cons_succ]
        refine wpT_nd (o := ⟨some 7, Op.call { callee := Callee.value (Operand.func 34), args := #[Operand.tmp 6, Operand.const (Value.int IntKind.i64 1), Operand.const (Value.int IntKind.i64 6)], argTypes := #[2, 2, 2] }, 4, "l06_integers.go:19", #[{ on := 1, ground := Ground.data }], none⟩) rfl (by rfl) (by rfl) (fun w' hw' hF R__ hGo => ?_) ⟨_, rfl⟩ ?_
        · go_simp
          refine gives_enter rfl ?_
          refine (inRange_any _ _ _ _).mono ?_
          rintro e w2 ⟨rfl, rfl⟩
          exact ⟨_, rfl, hGo _ _ (Ext.refl _) (congrArg Value.bool h1) trivial⟩
        intro v hv
        obtain rfl : v = (.bool true) := hv
        simp only [Act.put, List.setIfInBounds_toArray, List.set_cons_zero, List.set_cons_succ]
        refine' wpT_det (o := ⟨some 8, Op.move (Operand.tmp 7), 4, "l06_integers.go:19", #[{ on := 2, ground := Ground.data }, { on := 2, ground := Ground.chain }], none⟩) rfl (by rfl) (by rfl) (fun w' hw' => ?_) ?_; rotate_left
        · go_simp <;> first | rfl | exact ⟨rfl, rfl⟩
        simp only [Act.put, List.setIfInBounds_toArray, List.set_cons_zero, List.set_cons_succ]
        refine' wpT_det (o := ⟨some 9, Op.fieldAddr 31 (Operand.tmp 2) 1, 0, "l06_integers.go:19", #[{ on := 3, ground := Ground.guard }], some (3, true)⟩) rfl (by rfl) (by rfl) (fun w' hw' => ?_) ?_; rotate_left
        · go_simp <;> first | rfl | exact ⟨rfl, rfl⟩
        simp only [Act.put, List.setIfInBounds_toArray, List.set_cons_zero, List.set_cons_succ]
        refine' wpT_det (o := ⟨some 10, Op.load 2 (Operand.tmp 9), 2, "l06_integers.go:19", #[{ on := 4, ground := Ground.data }, { on := 3, ground := Ground.guard }], some (3, true)⟩) rfl (by rfl) (by rfl) (fun w' hw' => ?_) ?_; rotate_left
        · have hc0_ := Ext.cell hw' hc0; have hc1_ := Ext.cell hw' hc1; have hc2_ := Ext.cell hw' hc2; go_simp <;> first | rfl | exact ⟨rfl, rfl⟩
        simp only [Act.put, List.setIfInBounds_toArray, List.set_cons_zero, List.set_cons_succ]
        refine wpT_nd (o := ⟨some 11, Op.call { callee := Callee.value (Operand.func 34), args := #[Operand.tmp 10, Operand.const (Value.int IntKind.i64 1), Operand.const (Value.int IntKind.i64 6)], argTypes := #[2, 2, 2] }, 4, "l06_integers.go:19", #[{ on := 5, ground := Ground.data }, { on := 3, ground := Ground.chain }, { on := 3, ground := Ground.guard }], some (3, true)⟩) rfl (by rfl) (by rfl) (fun w' hw' hF R__ hGo => ?_) ⟨_, rfl⟩ ?_
        · go_simp
          refine gives_enter rfl ?_
          refine (inRange_any _ _ _ _).mono ?_
          rintro e w2 ⟨rfl, rfl⟩
          exact ⟨_, rfl, hGo _ _ (Ext.refl _) (congrArg Value.bool h2) trivial⟩
        intro v hv
        obtain rfl : v = (.bool true) := hv
        simp only [Act.put, List.setIfInBounds_toArray, List.set_cons_zero, List.set_cons_succ]
        refine' wpT_det (o := ⟨some 12, Op.pick (Operand.tmp 8) (Operand.tmp 11) (Operand.const (Value.bool false)), 4, "l06_integers.go:19", #[{ on := 3, ground := Ground.data }, { on := 6, ground := Ground.data }], none⟩) rfl (by rfl) (by rfl) (fun w' hw' => ?_) ?_; rotate_left
        · go_simp <;> first | rfl | exact ⟨rfl, rfl⟩
        simp only [Act.put, List.setIfInBounds_toArray, List.set_cons_zero, List.set_cons_succ]
        refine' wpT_det (o := ⟨some 13, Op.move (Operand.tmp 12), 4, "l06_integers.go:19", #[{ on := 7, ground := Ground.data }, { on := 6, ground := Ground.chain }], none⟩) rfl (by rfl) (by rfl) (fun w' hw' => ?_) ?_; rotate_left
        · go_simp <;> first | rfl | exact ⟨rfl, rfl⟩
        simp only [Act.put, List.setIfInBounds_toArray, List.set_cons_zero, List.set_cons_succ]
        refine' wpT_det (o := ⟨some 14, Op.fieldAddr 31 (Operand.tmp 2) 2, 0, "l06_integers.go:19", #[{ on := 8, ground := Ground.guard }], some (8, true)⟩) rfl (by rfl) (by rfl) (fun w' hw' => ?_) ?_; rotate_left
        · go_simp <;> first | rfl | exact ⟨rfl, rfl⟩
        simp only [Act.put, List.setIfInBounds_toArray, List.set_cons_zero, List.set_cons_succ]
        refine' wpT_det (o := ⟨some 15, Op.load 22 (Operand.tmp 14), 22, "l06_integers.go:19", #[{ on := 9, ground := Ground.data }, { on := 8, ground := Ground.guard }], some (8, true)⟩) rfl (by rfl) (by rfl) (fun w' hw' => ?_) ?_; rotate_left
        · have hc0_ := Ext.cell hw' hc0; have hc1_ := Ext.cell hw' hc1; have hc2_ := Ext.cell hw' hc2; go_simp <;> first | rfl | exact ⟨rfl, rfl⟩
        simp only [Act.put, List.setIfInBounds_toArray, List.set_cons_zero, List.set_cons_succ]
        refine wpT_nd (o := ⟨some 16, Op.call { callee := Callee.value (Operand.func 42), args := #[Operand.tmp 15], argTypes := #[22] }, 2, "l06_integers.go:19", #[{ on := 10, ground := Ground.data }, { on := 8, ground := Ground.chain }, { on := 8, ground := Ground.guard }], some (8, true)⟩) rfl (by rfl) (by rfl) (fun w' hw' hF R__ hGo => ?_) ⟨_, rfl⟩ ?_
        · go_simp
          refine gives_enter rfl ?_
          refine (length_any _ _ _ hs _).mono ?_
          rintro e w2 ⟨rfl, rfl⟩
          exact ⟨_, rfl, hGo _ _ (Ext.refl _) rfl trivial⟩
        intro v hv
        obtain rfl : v = (.int .i64 n) := hv
        simp only [Act.put, List.setIfInBounds_toArray, List.set_cons_zero, List.set_cons_succ]
        refine' wpT_det (o := ⟨some 17, Op.fieldAddr 31 (Operand.tmp 2) 0, 0, "l06_integers.go:19", #[{ on := 8, ground := Ground.guard }], some (8, true)⟩) rfl (by rfl) (by rfl) (fun w' hw' => ?_) ?_; rotate_left
        · go_simp <;> first | rfl | exact ⟨rfl, rfl⟩
        simp only [Act.put, List.setIfInBounds_toArray, List.set_cons_zero, List.set_cons_succ]
        refine' wpT_det (o := ⟨some 18, Op.load 2 (Operand.tmp 17), 2, "l06_integers.go:19", #[{ on := 12, ground := Ground.data }, { on := 8, ground := Ground.guard }], some (8, true)⟩) rfl (by rfl) (by rfl) (fun w' hw' => ?_) ?_; rotate_left
        · have hc0_ := Ext.cell hw' hc0; have hc1_ := Ext.cell hw' hc1; have hc2_ := Ext.cell hw' hc2; go_simp <;> first | rfl | exact ⟨rfl, rfl⟩
        simp only [Act.put, List.setIfInBounds_toArray, List.set_cons_zero, List.set_cons_succ]
        refine' wpT_det (o := ⟨some 19, Op.fieldAddr 31 (Operand.tmp 2) 1, 0, "l06_integers.go:19", #[{ on := 8, ground := Ground.guard }], some (8, true)⟩) rfl (by rfl) (by rfl) (fun w' hw' => ?_) ?_; rotate_left
        · go_simp <;> first | rfl | exact ⟨rfl, rfl⟩
        simp only [Act.put, List.setIfInBounds_toArray, List.set_cons_zero, List.set_cons_succ]
        refine' wpT_det (o := ⟨some 20, Op.load 2 (Operand.tmp 19), 2, "l06_integers.go:19", #[{ on := 14, ground := Ground.data }, { on := 8, ground := Ground.guard }], some (8, true)⟩) rfl (by rfl) (by rfl) (fun w' hw' => ?_) ?_; rotate_left
        · have hc0_ := Ext.cell hw' hc0; have hc1_ := Ext.cell hw' hc1; have hc2_ := Ext.cell hw' hc2; go_simp <;> first | rfl | exact ⟨rfl, rfl⟩
        simp only [Act.put, List.setIfInBounds_toArray, List.set_cons_zero, List.set_cons_succ]
        refine' wpT_det (o := ⟨some 21, Op.binOp BinOp.mul 2 (Operand.tmp 18) (Operand.tmp 20) 2, 2, "l06_integers.go:19", #[{ on := 13, ground := Ground.data }, { on := 15, ground := Ground.data }, { on := 8, ground := Ground.guard }], some (8, true)⟩) rfl (by rfl) (by rfl) (fun w' hw' => ?_) ?_; rotate_left
        · go_simp <;> first | rfl | exact ⟨rfl, rfl⟩
        simp only [Act.put, List.setIfInBounds_toArray, List.set_cons_zero, List.set_cons_succ]
        refine' wpT_det (o := ⟨some 22, Op.binOp BinOp.eql 2 (Operand.tmp 16) (Operand.tmp 21) 2, 4, "l06_integers.go:19", #[{ on := 11, ground := Ground.data }, { on := 16, ground := Ground.data }, { on := 8, ground := Ground.guard }], some (8, true)⟩) rfl (by rfl) (by rfl) (fun w' hw' => ?_) ?_; rotate_left
        · go_simp <;> first | rfl | exact ⟨rfl, rfl⟩
        simp only [Act.put, List.setIfInBounds_toArray, List.set_cons_zero, List.set_cons_succ]
        refine' wpT_det (o := ⟨some 23, Op.pick (Operand.tmp 13) (Operand.tmp 22) (Operand.const (Value.bool false)), 4, "l06_integers.go:19", #[{ on := 8, ground := Ground.data }, { on := 17, ground := Ground.data }], none⟩) rfl (by rfl) (by rfl) (fun w' hw' => ?_) ?_; rotate_left
        · go_simp <;> first | rfl | exact ⟨rfl, rfl⟩
        simp only [Act.put, List.setIfInBounds_toArray, List.set_cons_zero, List.set_cons_succ]
        refine' wpT_det (o := ⟨some 24, Op.move (Operand.tmp 23), 4, "l06_integers.go:19", #[{ on := 18, ground := Ground.data }, { on := 11, ground := Ground.chain }], none⟩) rfl (by rfl) (by rfl) (fun w' hw' => ?_) ?_; rotate_left
        · go_simp <;> first | rfl | exact ⟨rfl, rfl⟩
        simp only [Act.put, List.setIfInBounds_toArray, List.set_cons_zero, List.set_cons_succ]
        refine' wpT_det (o := ⟨some 25, Op.fieldAddr 31 (Operand.tmp 2) 2, 0, "l06_integers.go:19", #[{ on := 19, ground := Ground.guard }], some (19, true)⟩) rfl (by rfl) (by rfl) (fun w' hw' => ?_) ?_; rotate_left
        · go_simp <;> first | rfl | exact ⟨rfl, rfl⟩
        simp only [Act.put, List.setIfInBounds_toArray, List.set_cons_zero, List.set_cons_succ]
        refine' wpT_det (o := ⟨some 26, Op.load 22 (Operand.tmp 25), 22, "l06_integers.go:19", #[{ on := 20, ground := Ground.data }, { on := 19, ground := Ground.guard }], some (19, true)⟩) rfl (by rfl) (by rfl) (fun w' hw' => ?_) ?_; rotate_left
        · have hc0_ := Ext.cell hw' hc0; have hc1_ := Ext.cell hw' hc1; have hc2_ := Ext.cell hw' hc2; go_simp <;> first | rfl | exact ⟨rfl, rfl⟩
        simp only [Act.put, List.setIfInBounds_toArray, List.set_cons_zero, List.set_cons_succ]
        refine' wpT_det (o := ⟨some 27, Op.move (Operand.tmp 1), 2, "l06_integers.go:19", #[{ on := 19, ground := Ground.guard }], some (19, true)⟩) rfl (by rfl) (by rfl) (fun w' hw' => ?_) ?_; rotate_left
        · go_simp <;> first | rfl | exact ⟨rfl, rfl⟩
        simp only [Act.put, List.setIfInBounds_toArray, List.set_cons_zero, List.set_cons_succ]
        refine' wpT_det (o := ⟨some 28, Op.unOp UnOp.neg 2 (Operand.tmp 27), 2, "l06_integers.go:19", #[{ on := 22, ground := Ground.data }, { on := 19, ground := Ground.guard }], some (19, true)⟩) rfl (by rfl) (by rfl) (fun w' hw' => ?_) ?_; rotate_left
        · go_simp <;> first | rfl | exact ⟨rfl, rfl⟩
        simp only [Act.put, List.setIfInBounds_toArray, List.set_cons_zero, List.set_cons_succ]
        refine' wpT_det (o := ⟨some 29, Op.move (Operand.tmp 1), 2, "l06_integers.go:19", #[{ on := 19, ground := Ground.guard }], some (19, true)⟩) rfl (by rfl) (by rfl) (fun w' hw' => ?_) ?_; rotate_left
        · go_simp <;> first | rfl | exact ⟨rfl, rfl⟩
        simp only [Act.put, List.setIfInBounds_toArray, List.set_cons_zero, List.set_cons_succ]
        refine wpT_nd (o := ⟨some 30, Op.call { callee := Callee.value (Operand.func 43), args := #[Operand.tmp 26, Operand.tmp 28, Operand.tmp 29], argTypes := #[22, 2, 2] }, 4, "l06_integers.go:19", #[{ on := 21, ground := Ground.data }, { on := 23, ground := Ground.data }, { on := 24, ground := Ground.data }, { on := 19, ground := Ground.chain }, { on := 19, ground := Ground.guard }], some (19, true)⟩) rfl (by rfl) (by rfl) (fun w' hw' hF R__ hGo => ?_) ⟨_, rfl⟩ ?_
        · go_simp
          refine gives_enter rfl ?_
          refine (allIn_any _ _ _ _ _ _ _ (hr.below (hx0.trans hw'.undrew))).mono ?_
          rintro e w2 ⟨rfl, hx⟩
          exact ⟨_, rfl, hGo _ _ hx rfl trivial⟩
        intro v hv
        obtain rfl : v = (.bool (xs.all fun x => inR (-most) x most)) := hv
        simp only [Act.put, List.setIfInBounds_toArray, List.set_cons_zero, List.set_cons_succ]
        refine' wpT_det (o := ⟨some 31, Op.pick (Operand.tmp 24) (Operand.tmp 30) (Operand.const (Value.bool false)), 4, "l06_integers.go:19", #[{ on := 19, ground := Ground.data }, { on := 25, ground := Ground.data }], none⟩) rfl (by rfl) (by rfl) (fun w' hw' => ?_) ?_; rotate_left
        · go_simp <;> first | rfl | exact ⟨rfl, rfl⟩
        simp only [Act.put, List.setIfInBounds_toArray, List.set_cons_zero, List.set_cons_succ]
        refine' wpT_det (o := ⟨some 4, Op.assign (Operand.tmp 31), 4, "l06_integers.go:19", #[{ on := 26, ground := Ground.data }, { on := 25, ground := Ground.chain }, { on := 0, ground := Ground.phase }, { on := 1, ground := Ground.phase }, { on := 2, ground := Ground.phase }, { on := 3, ground := Ground.phase }, { on := 4, ground := Ground.phase }, { on := 5, ground := Ground.phase }, { on := 6, ground := Ground.phase }, { on := 7, ground := Ground.phase }, { on := 8, ground := Ground.phase }, { on := 9, ground := Ground.phase }, { on := 10, ground := Ground.phase }, { on := 11, ground := Ground.phase }, { on := 12, ground := Ground.phase }, { on := 13, ground := Ground.phase }, { on := 14, ground := Ground.phase }, { on := 15, ground := Ground.phase }, { on := 16, ground := Ground.phase }, { on := 17, ground := Ground.phase }, { on := 18, ground := Ground.phase }, { on := 19, ground := Ground.phase }, { on := 20, ground := Ground.phase }, { on := 21, ground := Ground.phase }, { on := 22, ground := Ground.phase }, { on := 23, ground := Ground.phase }, { on := 24, ground := Ground.phase }, { on := 25, ground := Ground.phase }, { on := 26, ground := Ground.phase }], none⟩) rfl (by rfl) (by rfl) (fun w' hw' => ?_) ?_; rotate_left
        · go_simp <;> first | rfl | exact ⟨rfl, rfl⟩
        simp only [Act.put, List.setIfInBounds_toArray, List.set_cons_zero, List.set_cons_succ]
        refine wpT_nil (fun w' hw' hF => ?_)
        refine wpList_nil ?_
        go_wp2_with fail
        go_ret
        exact ⟨ret_bool (by rw [Hres.out, h1, h2, decide_eq_true H3.out]; rfl), hx0.trans hw'.undrew⟩
      · have h3' : ((n : Int) == r * c) = false := by simpa using h3
        refine wp_region_T (cs := []) [0, 1, 2, 3, 4, 5, 6, 7, 8, 9, 10, 11, 12, 13, 14, 15, 16, 17, 18, 19, 20, 21, 22, 23, 24, 25, 26, 27] [] [2, 6, 11] [] (fun i__ v => match i__ with | 2 => v = (.bool true) | 6 => v = (.bool true) | 11 => v = (.int .i64 n) | _ => False) (fun _ _ _ => True) (by kernel_rfl) (by kernel_rfl) (fun _ _ _ _ _ _ => trivial) ?_
        refine' wpT_det (o := ⟨some 5, Op.fieldAddr 31 (Operand.tmp 2) 0, 0, "l06_integers.go:19", #[], none⟩) rfl (by rfl) (by rfl) (fun w' hw' => ?_) ?_; rotate_left
        · go_simp <;> first | rfl | exact ⟨rfl, rfl⟩
        simp only [Act.put, List.setIfInBounds_toArray, List.set_cons_zero, List.set_cons_succ]
        refine' wpT_det (o := ⟨some 6, Op.load 2 (Operand.tmp 5), 2, "l06_integers.go:19", #[{ on := 0, ground := Ground.data }], none⟩) rfl (by rfl) (by rfl) (fun w' hw' => ?_) ?_; rotate_left
        · have hc0_ := Ext.cell hw' hc0; have hc1_ := Ext.cell hw' hc1; have hc2_ := Ext.cell hw' hc2; go_simp <;> first | rfl | exact ⟨rfl, rfl⟩
        simp only [Act.put, List.setIfInBounds_toArray, List.set_cons_zero, List.set_cons_succ]
        refine wpT_nd (o := ⟨some 7, Op.call { callee := Callee.value (Operand.func 34), args := #[Operand.tmp 6, Operand.const (Value.int IntKind.i64 1), Operand.const (Value.int IntKind.i64 6)], argTypes := #[2, 2, 2] }, 4, "l06_integers.go:19", #[{ on := 1, ground := Ground.data }], none⟩) rfl (by rfl) (by rfl) (fun w' hw' hF R__ hGo => ?_) ⟨_, rfl⟩ ?_
        · go_simp
          refine gives_enter rfl ?_
          refine (inRange_any _ _ _ _).mono ?_
          rintro e w2 ⟨rfl, rfl⟩
          exact ⟨_, rfl, hGo _ _ (Ext.refl _) (congrArg Value.bool h1) trivial⟩
        intro v hv
        obtain rfl : v = (.bool true) := hv
        simp only [Act.put, List.setIfInBounds_toArray, List.set_cons_zero, List.set_cons_succ]
        refine' wpT_det (o := ⟨some 8, Op.move (Operand.tmp 7), 4, "l06_integers.go:19", #[{ on := 2, ground := Ground.data }, { on := 2, ground := Ground.chain }], none⟩) rfl (by rfl) (by rfl) (fun w' hw' => ?_) ?_; rotate_left
        · go_simp <;> first | rfl | exact ⟨rfl, rfl⟩
        simp only [Act.put, List.setIfInBounds_toArray, List.set_cons_zero, List.set_cons_succ]
        refine' wpT_det (o := ⟨some 9, Op.fieldAddr 31 (Operand.tmp 2) 1, 0, "l06_integers.go:19", #[{ on := 3, ground := Ground.guard }], some (3, true)⟩) rfl (by rfl) (by rfl) (fun w' hw' => ?_) ?_; rotate_left
        · go_simp <;> first | rfl | exact ⟨rfl, rfl⟩
        simp only [Act.put, List.setIfInBounds_toArray, List.set_cons_zero, List.set_cons_succ]
        refine' wpT_det (o := ⟨some 10, Op.load 2 (Operand.tmp 9), 2, "l06_integers.go:19", #[{ on := 4, ground := Ground.data }, { on := 3, ground := Ground.guard }], some (3, true)⟩) rfl (by rfl) (by rfl) (fun w' hw' => ?_) ?_; rotate_left
        · have hc0_ := Ext.cell hw' hc0; have hc1_ := Ext.cell hw' hc1; have hc2_ := Ext.cell hw' hc2; go_simp <;> first | rfl | exact ⟨rfl, rfl⟩
        simp only [Act.put, List.setIfInBounds_toArray, List.set_cons_zero, List.set_cons_succ]
        refine wpT_nd (o := ⟨some 11, Op.call { callee := Callee.value (Operand.func 34), args := #[Operand.tmp 10, Operand.const (Value.int IntKind.i64 1), Operand.const (Value.int IntKind.i64 6)], argTypes := #[2, 2, 2] }, 4, "l06_integers.go:19", #[{ on := 5, ground := Ground.data }, { on := 3, ground := Ground.chain }, { on := 3, ground := Ground.guard }], some (3, true)⟩) rfl (by rfl) (by rfl) (fun w' hw' hF R__ hGo => ?_) ⟨_, rfl⟩ ?_
        · go_simp
          refine gives_enter rfl ?_
          refine (inRange_any _ _ _ _).mono ?_
          rintro e w2 ⟨rfl, rfl⟩
          exact ⟨_, rfl, hGo _ _ (Ext.refl _) (congrArg Value.bool h2) trivial⟩
        intro v hv
        obtain rfl : v = (.bool true) := hv
        simp only [Act.put, List.setIfInBounds_toArray, List.set_cons_zero, List.set_cons_succ]
        refine' wpT_det (o := ⟨some 12, Op.pick (Operand.tmp 8) (Operand.tmp 11) (Operand.const (Value.bool false)), 4, "l06_integers.go:19", #[{ on := 3, ground := Ground.data }, { on := 6, ground := Ground.data }], none⟩) rfl (by rfl) (by rfl) (fun w' hw' => ?_) ?_; rotate_left
        · go_simp <;> first | rfl | exact ⟨rfl, rfl⟩
        simp only [Act.put, List.setIfInBounds_toArray, List.set_cons_zero, List.set_cons_succ]
        refine' wpT_det (o := ⟨some 13, Op.move (Operand.tmp 12), 4, "l06_integers.go:19", #[{ on := 7, ground := Ground.data }, { on := 6, ground := Ground.chain }], none⟩) rfl (by rfl) (by rfl) (fun w' hw' => ?_) ?_; rotate_left
        · go_simp <;> first | rfl | exact ⟨rfl, rfl⟩
        simp only [Act.put, List.setIfInBounds_toArray, List.set_cons_zero, List.set_cons_succ]
        refine' wpT_det (o := ⟨some 14, Op.fieldAddr 31 (Operand.tmp 2) 2, 0, "l06_integers.go:19", #[{ on := 8, ground := Ground.guard }], some (8, true)⟩) rfl (by rfl) (by rfl) (fun w' hw' => ?_) ?_; rotate_left
        · go_simp <;> first | rfl | exact ⟨rfl, rfl⟩
        simp only [Act.put, List.setIfInBounds_toArray, List.set_cons_zero, List.set_cons_succ]
        refine' wpT_det (o := ⟨some 15, Op.load 22 (Operand.tmp 14), 22, "l06_integers.go:19", #[{ on := 9, ground := Ground.data }, { on := 8, ground := Ground.guard }], some (8, true)⟩) rfl (by rfl) (by rfl) (fun w' hw' => ?_) ?_; rotate_left
        · have hc0_ := Ext.cell hw' hc0; have hc1_ := Ext.cell hw' hc1; have hc2_ := Ext.cell hw' hc2; go_simp <;> first | rfl | exact ⟨rfl, rfl⟩
        simp only [Act.put, List.setIfInBounds_toArray, List.set_cons_zero, List.set_cons_succ]
        refine wpT_nd (o := ⟨some 16, Op.call { callee := Callee.value (Operand.func 42), args := #[Operand.tmp 15], argTypes := #[22] }, 2, "l06_integers.go:19", #[{ on := 10, ground := Ground.data }, { on := 8, ground := Ground.chain }, { on := 8, ground := Ground.guard }], some (8, true)⟩) rfl (by rfl) (by rfl) (fun w' hw' hF R__ hGo => ?_) ⟨_, rfl⟩ ?_
        · go_simp
          refine gives_enter rfl ?_
          refine (length_any _ _ _ hs _).mono ?_
          rintro e w2 ⟨rfl, rfl⟩
          exact ⟨_, rfl, hGo _ _ (Ext.refl _) rfl trivial⟩
        intro v hv
        obtain rfl : v = (.int .i64 n) := hv
        simp only [Act.put, List.setIfInBounds_toArray, List.set_cons_zero, List.set_cons_succ]
        refine' wpT_det (o := ⟨some 17, Op.fieldAddr 31 (Operand.tmp 2) 0, 0, "l06_integers.go:19", #[{ on := 8, ground := Ground.guard }], some (8, true)⟩) rfl (by rfl) (by rfl) (fun w' hw' => ?_) ?_; rotate_left
        · go_simp <;> first | rfl | exact ⟨rfl, rfl⟩
        simp only [Act.put, List.setIfInBounds_toArray, List.set_cons_zero, List.set_cons_succ]
        refine' wpT_det (o := ⟨some 18, Op.load 2 (Operand.tmp 17), 2, "l06_integers.go:19", #[{ on := 12, ground := Ground.data }, { on := 8, ground := Ground.guard }], some (8, true)⟩) rfl (by rfl) (by rfl) (fun w' hw' => ?_) ?_; rotate_left
        · have hc0_ := Ext.cell hw' hc0; have hc1_ := Ext.cell hw' hc1; have hc2_ := Ext.cell hw' hc2; go_simp <;> first | rfl | exact ⟨rfl, rfl⟩
        simp only [Act.put, List.setIfInBounds_toArray, List.set_cons_zero, List.set_cons_succ]
        refine' wpT_det (o := ⟨some 19, Op.fieldAddr 31 (Operand.tmp 2) 1, 0, "l06_integers.go:19", #[{ on := 8, ground := Ground.guard }], some (8, true)⟩) rfl (by rfl) (by rfl) (fun w' hw' => ?_) ?_; rotate_left
        · go_simp <;> first | rfl | exact ⟨rfl, rfl⟩
        simp only [Act.put, List.setIfInBounds_toArray, List.set_cons_zero, List.set_cons_succ]
        refine' wpT_det (o := ⟨some 20, Op.load 2 (Operand.tmp 19), 2, "l06_integers.go:19", #[{ on := 14, ground := Ground.data }, { on := 8, ground := Ground.guard }], some (8, true)⟩) rfl (by rfl) (by rfl) (fun w' hw' => ?_) ?_; rotate_left
        · have hc0_ := Ext.cell hw' hc0; have hc1_ := Ext.cell hw' hc1; have hc2_ := Ext.cell hw' hc2; go_simp <;> first | rfl | exact ⟨rfl, rfl⟩
        simp only [Act.put, List.setIfInBounds_toArray, List.set_cons_zero, List.set_cons_succ]
        refine' wpT_det (o := ⟨some 21, Op.binOp BinOp.mul 2 (Operand.tmp 18) (Operand.tmp 20) 2, 2, "l06_integers.go:19", #[{ on := 13, ground := Ground.data }, { on := 15, ground := Ground.data }, { on := 8, ground := Ground.guard }], some (8, true)⟩) rfl (by rfl) (by rfl) (fun w' hw' => ?_) ?_; rotate_left
        · go_simp <;> first | rfl | exact ⟨rfl, rfl⟩
        simp only [Act.put, List.setIfInBounds_toArray, List.set_cons_zero, List.set_cons_succ]
        refine' wpT_det (o := ⟨some 22, Op.binOp BinOp.eql 2 (Operand.tmp 16) (Operand.tmp 21) 2, 4, "l06_integers.go:19", #[{ on := 11, ground := Ground.data }, { on := 16, ground := Ground.data }, { on := 8, ground := Ground.guard }], some (8, true)⟩) rfl (by rfl) (by rfl) (fun w' hw' => ?_) ?_; rotate_left
        · go_simp <;> first | rfl | exact ⟨rfl, rfl⟩
        simp only [Act.put, List.setIfInBounds_toArray, List.set_cons_zero, List.set_cons_succ]
        refine' wpT_det (o := ⟨some 23, Op.pick (Operand.tmp 13) (Operand.tmp 22) (Operand.const (Value.bool false)), 4, "l06_integers.go:19", #[{ on := 8, ground := Ground.data }, { on := 17, ground := Ground.data }], none⟩) rfl (by rfl) (by rfl) (fun w' hw' => ?_) ?_; rotate_left
        · go_simp <;> first | rfl | exact ⟨rfl, rfl⟩
        simp only [Act.put, List.setIfInBounds_toArray, List.set_cons_zero, List.set_cons_succ]
        refine' wpT_det (o := ⟨some 24, Op.move (Operand.tmp 23), 4, "l06_integers.go:19", #[{ on := 18, ground := Ground.data }, { on := 11, ground := Ground.chain }], none⟩) rfl (by rfl) (by rfl) (fun w' hw' => ?_) ?_; rotate_left
        · go_simp <;> first | rfl | exact ⟨rfl, rfl⟩
        simp only [Act.put, List.setIfInBounds_toArray, List.set_cons_zero, List.set_cons_succ]
        refine wpT_skip (o := ⟨some 25, Op.fieldAddr 31 (Operand.tmp 2) 2, 0, "l06_integers.go:19", #[{ on := 19, ground := Ground.guard }], some (19, true)⟩) rfl (by rfl) ?_
        simp only [Act.put, List.setIfInBounds_toArray, List.set_cons_zero, List.set_cons_succ]
        refine wpT_skip (o := ⟨some 26, Op.load 22 (Operand.tmp 25), 22, "l06_integers.go:19", #[{ on := 20, ground := Ground.data }, { on := 19, ground := Ground.guard }], some (19, true)⟩) rfl (by rfl) ?_
        simp only [Act.put, List.setIfInBounds_toArray, List.set_cons_zero, List.set_cons_succ]
        refine wpT_skip (o := ⟨some 27, Op.move (Operand.tmp 1), 2, "l06_integers.go:19", #[{ on := 19, ground := Ground.guard }], some (19, true)⟩) rfl (by rfl) ?_
        simp only [Act.put, List.setIfInBounds_toArray, List.set_cons_zero, List.set_cons_succ]
        refine wpT_skip (o := ⟨some 28, Op.unOp UnOp.neg 2 (Operand.tmp 27), 2, "l06_integers.go:19", #[{ on := 22, ground := Ground.data }, { on := 19, ground := Ground.guard }], some (19, true)⟩) rfl (by rfl) ?_
        simp only [Act.put, List.setIfInBounds_toArray, List.set_cons_zero, List.set_cons_succ]
        refine wpT_skip (o := ⟨some 29, Op.move (Operand.tmp 1), 2, "l06_integers.go:19", #[{ on := 19, ground := Ground.guard }], some (19, true)⟩) rfl (by rfl) ?_
        simp only [Act.put, List.setIfInBounds_toArray, List.set_cons_zero, List.set_cons_succ]
        refine wpT_skip (o := ⟨some 30, Op.call { callee := Callee.value (Operand.func 43), args := #[Operand.tmp 26, Operand.tmp 28, Operand.tmp 29], argTypes := #[22, 2, 2] }, 4, "l06_integers.go:19", #[{ on := 21, ground := Ground.data }, { on := 23, ground := Ground.data }, { on := 24, ground := Ground.data }, { on := 19, ground := Ground.chain }, { on := 19, ground := Ground.guard }], some (19, true)⟩) rfl (by rfl) ?_
        simp only [Act.put, List.setIfInBounds_toArray, List.set_cons_zero, List.set_cons_succ]
        refine' wpT_det (o := ⟨some 31, Op.pick (Operand.tmp 24) (Operand.tmp 30) (Operand.const (Value.bool false)), 4, "l06_integers.go:19", #[{ on := 19, ground := Ground.data }, { on := 25, ground := Ground.data }], none⟩) rfl (by rfl) (by rfl) (fun w' hw' => ?_) ?_; rotate_left
        · go_simp <;> first | rfl | exact ⟨rfl, rfl⟩
        simp only [Act.put, List.setIfInBounds_toArray, List.set_cons_zero, List.set_cons_succ]
        refine' wpT_det (o := ⟨some 4, Op.assign (Operand.tmp 31), 4, "l06_integers.go:19", #[{ on := 26, ground := Ground.data }, { on := 25, ground := Ground.chain }, { on := 0, ground := Ground.phase }, { on := 1, ground := Ground.phase }, { on := 2, ground := Ground.phase }, { on := 3, ground := Ground.phase }, { on := 4, ground := Ground.phase }, { on := 5, ground := Ground.phase }, { on := 6, ground := Ground.phase }, { on := 7, ground := Ground.phase }, { on := 8, ground := Ground.phase }, { on := 9, ground := Ground.phase }, { on := 10, ground := Ground.phase }, { on := 11, ground := Ground.phase }, { on := 12, ground := Ground.phase }, { on := 13, ground := Ground.phase }, { on := 14, ground := Ground.phase }, { on := 15, ground := Ground.phase }, { on := 16, ground := Ground.phase }, { on := 17, ground := Ground.phase }, { on := 18, ground := Ground.phase }, { on := 19, ground := Ground.phase }, { on := 20, ground := Ground.phase }, { on := 21, ground := Ground.phase }, { on := 22, ground := Ground.phase }, { on := 23, ground := Ground.phase }, { on := 24, ground := Ground.phase }, { on := 25, ground := Ground.phase }, { on := 26, ground := Ground.phase }], none⟩) rfl (by rfl) (by rfl) (fun w' hw' => ?_) ?_; rotate_left
        · go_simp <;> first | rfl | exact ⟨rfl, rfl⟩
        simp only [Act.put, List.setIfInBounds_toArray, List.set_cons_zero, List.set_cons_succ]
        refine wpT_nil (fun w' hw' hF => ?_)
        refine wpList_nil ?_
        go_wp2_with fail
        go_ret
        exact ⟨ret_bool (by rw [Hres.out, h1, h2, decide_eq_false h3]; rfl), hx0.trans hw'.undrew⟩

end Go.Proofs.Ytdmeobffijhloaa
