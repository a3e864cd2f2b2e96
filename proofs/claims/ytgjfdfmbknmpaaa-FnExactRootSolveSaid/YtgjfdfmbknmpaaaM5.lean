import Derived.Test.YtgjfdfmbknmpaaaM4
set_option linter.unusedVariables false
set_option linter.unusedSimpArgs false
namespace Go.Proofs.Ytgjfdfmbknmpaaa
open Go.RowKit

/-- The test of a matrix. -/
def isMat (r c : Int) (xs : List Nat) : Bool := inR 1 r 12 && inR 1 c 12 && decide ((xs.length : Int) = r * c) && finL xs
theorem side_mul {r c : Int} (h1 : inR 1 r 12 = true) (h2 : inR 1 c 12 = true) : 0 ≤ r * c ∧ r * c ≤ 144 ∧ IntKind.i64.wrap (r * c) = r * c := by
  have b1 := inR_iff.1 h1
  have b2 := inR_iff.1 h2
  have q0 : 0 ≤ r * c := Int.mul_nonneg (by omega) (by omega)
  have q1 : r * c ≤ 144 := Int.le_trans (Int.mul_le_mul_of_nonneg_right b1.2 (by omega)) (by omega)
  exact ⟨q0, q1, IntWalk.i64_in _ (by omega)⟩

/-- A matrix in a block. -/
structure MAt (w : World) (b : Nat) (r c : Int) (A : Option Addr) (n cap : Nat) (xs : List Nat) : Prop where
  c0 : w.cell? ⟨b, 0, none⟩ = some (.int .i64 r)
  c1 : w.cell? ⟨b, 1, none⟩ = some (.int .i64 c)
  c2 : w.cell? ⟨b, 2, none⟩ = some (.slice A n cap)
  rds : Rds w A n (flts xs)
theorem MAt.ext {w w' : World} {b : Nat} {r c : Int} {A : Option Addr} {n cap : Nat} {xs : List Nat} (h : MAt w b r c A n cap xs) (hx : Ext w w') : MAt w' b r c A n cap xs :=
  ⟨hx.cell h.c0, hx.cell h.c1, hx.cell h.c2, h.rds.below hx⟩
theorem MAt.new {w : World} {r c : Int} {A : Option Addr} {n cap : Nat} {xs : List Nat} (h : Rds w A n (flts xs)) (T : TypeId) : MAt (w.alloc (.cells #[.int .i64 r, .int .i64 c, .slice A n cap] T)) w.heap.size r c A n cap xs :=
  ⟨by simp, by simp, by simp, h.below ((Ext.refl _).alloc _)⟩

set_option maxHeartbeats 1000000 in
theorem ValidMatrix_any (r c : Int) (A : Option Addr) (n cap : Nat) (xs : List Nat) (w : World) (hr : Rds w A n (flts xs)) :
    Calls Try.prog 123 #[.agg #[.int .i64 r, .int .i64 c, .slice A n cap]] w fun e w' => e = .returned (.bool (isMat r c xs)) ∧ Ext w w' := by
  have hs := hr.small
  have hl := hr.flen
  obtain ⟨res, hres⟩ : ∃ res, res = isMat r c xs := ⟨_, rfl⟩
  rw [← hres]
  unfold isMat at hres
  rw [hl] at hres
  have Hres := Lib.hid hres
  clear hres hl
  go_enter Try.func123, Try.ntmps123
  go_wp2_with fail
  obtain ⟨w0, hw0⟩ : ∃ w0, w0 = w.alloc (.cells #[.int .i64 r, .int .i64 c, .slice A n cap] 35) := ⟨_, rfl⟩
  have hc0 : w0.cell? ⟨w.heap.size, 0, none⟩ = some (.int .i64 r) := by subst hw0; simp
  have hc1 : w0.cell? ⟨w.heap.size, 1, none⟩ = some (.int .i64 c) := by subst hw0; simp
  have hc2 : w0.cell? ⟨w.heap.size, 2, none⟩ = some (.slice A n cap) := by subst hw0; simp
  have hx0 : Ext w w0 := by subst hw0; exact (Ext.refl _).alloc _
  rw [← hw0]
  clear hw0
  cases h1 : inR 1 r 12 with
  | false =>
    refine wp_region_T (cs := []) [0, 1, 2, 3, 4, 5, 6, 7, 8, 9, 10, 11, 12, 13, 14, 15, 16, 17, 18, 19, 20, 21, 22, 23, 24] [] [2] [] (fun i__ v => match i__ with | 2 => v = (.bool false) | _ => False) (fun _ _ _ => True) (by kernel_rfl) (by kernel_rfl) (fun _ _ _ _ _ _ => trivial) ?_
    refine' wpT_det (o := ⟨some 3, Op.fieldAddr 35 (Operand.tmp 1) 0, 0, "l02_matrices.go:25", #[], none⟩) rfl (by rfl) (by rfl) (fun w' hw' => ?_) ?_; rotate_left
    · go_simp <;> first | rfl | exact ⟨rfl, rfl⟩
    simp only [Act.put, List.setIfInBounds_toArray, List.set_cons_zero, List.set_cons_succ]
    refine' wpT_det (o := ⟨some 4, Op.load 2 (Operand.tmp 3), 2, "l02_matrices.go:25", #[{ on := 0, ground := Ground.data }], none⟩) rfl (by rfl) (by rfl) (fun w' hw' => ?_) ?_; rotate_left
    · have hc0_ := Ext.cell hw' hc0; have hc1_ := Ext.cell hw' hc1; have hc2_ := Ext.cell hw' hc2; go_simp <;> first | rfl | exact ⟨rfl, rfl⟩
    simp only [Act.put, List.setIfInBounds_toArray, List.set_cons_zero, List.set_cons_succ]
    refine wpT_nd (o := ⟨some 5, Op.call { callee := Callee.value (Operand.func 100), args := #[Operand.tmp 4], argTypes := #[2] }, 4, "l02_matrices.go:25", #[{ on := 1, ground := Ground.data }], none⟩) rfl (by rfl) (by rfl) (fun w' hw' hF R__ hGo => ?_) ⟨_, rfl⟩ ?_
    · go_simp
      refine gives_enter rfl ?_
      refine (isSide_any _ _).mono ?_
      rintro e w2 ⟨rfl, rfl⟩
      exact ⟨_, rfl, hGo _ _ (Ext.refl _) (congrArg Value.bool h1) trivial⟩
    intro v hv
    obtain rfl : v = (.bool false) := hv
    simp only [Act.put, List.setIfInBounds_toArray, List.set_cons_zero, List.set_cons_succ]
    refine' wpT_det (o := ⟨some 6, Op.move (Operand.tmp 5), 4, "l02_matrices.go:25", #[{ on := 2, ground := Ground.data }, { on := 2, ground := Ground.chain }], none⟩) rfl (by rfl) (by rfl) (fun w' hw' => ?_) ?_; rotate_left
    · go_simp <;> first | rfl | exact ⟨rfl, rfl⟩
    simp only [Act.put, List.setIfInBounds_toArray, List.set_cons_zero, List.set_cons_succ]
    refine wpT_skip (o := ⟨some 7, Op.fieldAddr 35 (Operand.tmp 1) 1, 0, "l02_matrices.go:25", #[{ on := 3, ground := Ground.guard }], some (3, true)⟩) rfl (by rfl) ?_
    simp only [Act.put, List.setIfInBounds_toArray, List.set_cons_zero, List.set_cons_succ]
    refine wpT_skip (o := ⟨some 8, Op.load 2 (Operand.tmp 7), 2, "l02_matrices.go:25", #[{ on := 4, ground := Ground.data }, { on := 3, ground := Ground.guard }], some (3, true)⟩) rfl (by rfl) ?_
    simp only [Act.put, List.setIfInBounds_toArray, List.set_cons_zero, List.set_cons_succ]
    refine wpT_skip (o := ⟨some 9, Op.call { callee := Callee.value (Operand.func 100), args := #[Operand.tmp 8], argTypes := #[2] }, 4, "l02_matrices.go:25", #[{ on := 5, ground := Ground.data }, { on := 3, ground := Ground.chain }, { on := 3, ground := Ground.guard }], some (3, true)⟩) rfl (by rfl) ?_
    simp only [Act.put, List.setIfInBounds_toArray, List.set_cons_zero, List.set_cons_succ]
    refine' wpT_det (o := ⟨some 10, Op.pick (Operand.tmp 6) (Operand.tmp 9) (Operand.const (Value.bool false)), 4, "l02_matrices.go:25", #[{ on := 3, ground := Ground.data }, { on := 6, ground := Ground.data }], none⟩) rfl (by rfl) (by rfl) (fun w' hw' => ?_) ?_; rotate_left
    · go_simp <;> first | rfl | exact ⟨rfl, rfl⟩
    simp only [Act.put, List.setIfInBounds_toArray, List.set_cons_zero, List.set_cons_succ]
    refine' wpT_det (o := ⟨some 11, Op.move (Operand.tmp 10), 4, "l02_matrices.go:25", #[{ on := 7, ground := Ground.data }, { on := 6, ground := Ground.chain }], none⟩) rfl (by rfl) (by rfl) (fun w' hw' => ?_) ?_; rotate_left
    · go_simp <;> first | rfl | exact ⟨rfl, rfl⟩
    simp only [Act.put, List.setIfInBounds_toArray, List.set_cons_zero, List.set_cons_succ]
    refine wpT_skip (o := ⟨some 12, Op.fieldAddr 35 (Operand.tmp 1) 2, 0, "l02_matrices.go:25", #[{ on := 8, ground := Ground.guard }], some (8, true)⟩) rfl (by rfl) ?_
    simp only [Act.put, List.setIfInBounds_toArray, List.set_cons_zero, List.set_cons_succ]
    refine wpT_skip (o := ⟨some 13, Op.load 22 (Operand.tmp 12), 22, "l02_matrices.go:25", #[{ on := 9, ground := Ground.data }, { on := 8, ground := Ground.guard }], some (8, true)⟩) rfl (by rfl) ?_
    simp only [Act.put, List.setIfInBounds_toArray, List.set_cons_zero, List.set_cons_succ]
    refine wpT_skip (o := ⟨some 14, Op.call { callee := Callee.value (Operand.func 101), args := #[Operand.tmp 13], argTypes := #[22] }, 2, "l02_matrices.go:25", #[{ on := 10, ground := Ground.data }, { on := 8, ground := Ground.chain }, { on := 8, ground := Ground.guard }], some (8, true)⟩) rfl (by rfl) ?_
    simp only [Act.put, List.setIfInBounds_toArray, List.set_cons_zero, List.set_cons_succ]
    refine wpT_skip (o := ⟨some 15, Op.fieldAddr 35 (Operand.tmp 1) 0, 0, "l02_matrices.go:25", #[{ on := 8, ground := Ground.guard }], some (8, true)⟩) rfl (by rfl) ?_
    simp only [Act.put, List.setIfInBounds_toArray, List.set_cons_zero, List.set_cons_succ]
    refine wpT_skip (o := ⟨some 16, Op.load 2 (Operand.tmp 15), 2, "l02_matrices.go:25", #[{ on := 12, ground := Ground.data }, { on := 8, ground := Ground.guard }], some (8, true)⟩) rfl (by rfl) ?_
    simp only [Act.put, List.setIfInBounds_toArray, List.set_cons_zero, List.set_cons_succ]
    refine wpT_skip (o := ⟨some 17, Op.fieldAddr 35 (Operand.tmp 1) 1, 0, "l02_matrices.go:25", #[{ on := 8, ground := Ground.guard }], some (8, true)⟩) rfl (by rfl) ?_
    simp only [Act.put, List.setIfInBounds_toArray, List.set_cons_zero, List.set_cons_succ]
    refine wpT_skip (o := ⟨some 18, Op.load 2 (Operand.tmp 17), 2, "l02_matrices.go:25", #[{ on := 14, ground := Ground.data }, { on := 8, ground := Ground.guard }], some (8, true)⟩) rfl (by rfl) ?_
    simp only [Act.put, List.setIfInBounds_toArray, List.set_cons_zero, List.set_cons_succ]
    refine wpT_skip (o := ⟨some 19, Op.binOp BinOp.mul 2 (Operand.tmp 16) (Operand.tmp 18) 2, 2, "l02_matrices.go:25", #[{ on := 13, ground := Ground.data }, { on := 15, ground := Ground.data }, { on := 8, ground := Ground.guard }], some (8, true)⟩) rfl (by rfl) ?_
    simp only [Act.put, List.setIfInBounds_toArray, List.set_cons_zero, List.set_cons_succ]
    refine wpT_skip (o := ⟨some 20, Op.binOp BinOp.eql 2 (Operand.tmp 14) (Operand.tmp 19) 2, 4, "l02_matrices.go:25", #[{ on := 11, ground := Ground.data }, { on := 16, ground := Ground.data }, { on := 8, ground := Ground.guard }], some (8, true)⟩) rfl (by rfl) ?_
    simp only [Act.put, List.setIfInBounds_toArray, List.set_cons_zero, List.set_cons_succ]
    refine' wpT_det (o := ⟨some 21, Op.pick (Operand.tmp 11) (Operand.tmp 20) (Operand.const (Value.bool false)), 4, "l02_matrices.go:25", #[{ on := 8, ground := Ground.data }, { on := 17, ground := Ground.data }], none⟩) rfl (by rfl) (by rfl) (fun w' hw' => ?_) ?_; rotate_left
    · go_simp <;> first | rfl | exact ⟨rfl, rfl⟩
    simp only [Act.put, List.setIfInBounds_toArray, List.set_cons_zero, List.set_cons_succ]
    refine' wpT_det (o := ⟨some 22, Op.move (Operand.tmp 21), 4, "l02_matrices.go:25", #[{ on := 18, ground := Ground.data }, { on := 11, ground := Ground.chain }], none⟩) rfl (by rfl) (by rfl) (fun w' hw' => ?_) ?_; rotate_left
    · go_simp <;> first | rfl | exact ⟨rfl, rfl⟩
    simp only [Act.put, List.setIfInBounds_toArray, List.set_cons_zero, List.set_cons_succ]
    refine wpT_skip (o := ⟨some 23, Op.fieldAddr 35 (Operand.tmp 1) 2, 0, "l02_matrices.go:25", #[{ on := 19, ground := Ground.guard }], some (19, true)⟩) rfl (by rfl) ?_
    simp only [Act.put, List.setIfInBounds_toArray, List.set_cons_zero, List.set_cons_succ]
    refine wpT_skip (o := ⟨some 24, Op.load 22 (Operand.tmp 23), 22, "l02_matrices.go:25", #[{ on := 20, ground := Ground.data }, { on := 19, ground := Ground.guard }], some (19, true)⟩) rfl (by rfl) ?_
    simp only [Act.put, List.setIfInBounds_toArray, List.set_cons_zero, List.set_cons_succ]
    refine wpT_skip (o := ⟨some 25, Op.call { callee := Callee.value (Operand.func 102), args := #[Operand.tmp 24], argTypes := #[22] }, 4, "l02_matrices.go:25", #[{ on := 21, ground := Ground.data }, { on := 19, ground := Ground.chain }, { on := 19, ground := Ground.guard }], some (19, true)⟩) rfl (by rfl) ?_
    simp only [Act.put, List.setIfInBounds_toArray, List.set_cons_zero, List.set_cons_succ]
    refine' wpT_det (o := ⟨some 26, Op.pick (Operand.tmp 22) (Operand.tmp 25) (Operand.const (Value.bool false)), 4, "l02_matrices.go:25", #[{ on := 19, ground := Ground.data }, { on := 22, ground := Ground.data }], none⟩) rfl (by rfl) (by rfl) (fun w' hw' => ?_) ?_; rotate_left
    · go_simp <;> first | rfl | exact ⟨rfl, rfl⟩
    simp only [Act.put, List.setIfInBounds_toArray, List.set_cons_zero, List.set_cons_succ]
    refine' wpT_det (o := ⟨some 2, Op.assign (Operand.tmp 26), 4, "l02_matrices.go:25", #[{ on := 23, ground := Ground.data }, { on := 22, ground := Ground.chain }, { on := 0, ground := Ground.phase }, { on := 1, ground := Ground.phase }, { on := 2, ground := Ground.phase }, { on := 3, ground := Ground.phase }, { on := 4, ground := Ground.phase }, { on := 5, ground := Ground.phase }, { on := 6, ground := Ground.phase }, { on := 7, ground := Ground.phase }, { on := 8, ground := Ground.phase }, { on := 9, ground := Ground.phase }, { on := 10, ground := Ground.phase }, { on := 11, ground := Ground.phase }, { on := 12, ground := Ground.phase }, { on := 13, ground := Ground.phase }, { on := 14, ground := Ground.phase }, { on := 15, ground := Ground.phase }, { on := 16, ground := Ground.phase }, { on := 17, ground := Ground.phase }, { on := 18, ground := Ground.phase }, { on := 19, ground := Ground.phase }, { on := 20, ground := Ground.phase }, { on := 21, ground := Ground.phase }, { on := 22, ground := Ground.phase }, { on := 23, ground := Ground.phase }], none⟩) rfl (by rfl) (by rfl) (fun w' hw' => ?_) ?_; rotate_left
    · go_simp <;> first | rfl | exact ⟨rfl, rfl⟩
    simp only [Act.put, List.setIfInBounds_toArray, List.set_cons_zero, List.set_cons_succ]
    refine wpT_nil (fun w' hw' hF => ?_)
    refine wpList_nil ?_
    go_wp2_with fail
    go_ret
    exact ⟨ret_bool (by rw [Hres.out, h1]; rfl), hx0.trans hw'.undrew⟩
  | true =>
    cases h2 : inR 1 c 12 with
    | false =>
      refine wp_region_T (cs := []) [0, 1, 2, 3, 4, 5, 6, 7, 8, 9, 10, 11, 12, 13, 14, 15, 16, 17, 18, 19, 20, 21, 22, 23, 24] [] [2, 6] [] (fun i__ v => match i__ with | 2 => v = (.bool true) | 6 => v = (.bool false) | _ => False) (fun _ _ _ => True) (by kernel_rfl) (by kernel_rfl) (fun _ _ _ _ _ _ => trivial) ?_
      refine' wpT_det (o := ⟨some 3, Op.fieldAddr 35 (Operand.tmp 1) 0, 0, "l02_matrices.go:25", #[], none⟩) rfl (by rfl) (by rfl) (fun w' hw' => ?_) ?_; rotate_left
      · go_simp <;> first | rfl | exact ⟨rfl, rfl⟩
      simp only [Act.put, List.setIfInBounds_toArray, List.set_cons_zero, List.set_cons_succ]
      refine' wpT_det (o := ⟨some 4, Op.load 2 (Operand.tmp 3), 2, "l02_matrices.go:25", #[{ on := 0, ground := Ground.data }], none⟩) rfl (by rfl) (by rfl) (fun w' hw' => ?_) ?_; rotate_left
      · have hc0_ := Ext.cell hw' hc0; have hc1_ := Ext.cell hw' hc1; have hc2_ := Ext.cell hw' hc2; go_simp <;> first | rfl | exact ⟨rfl, rfl⟩
      simp only [Act.put, List.setIfInBounds_toArray, List.set_cons_zero, List.set_cons_succ]
      refine wpT_nd (o := ⟨some 5, Op.call { callee := Callee.value (Operand.func 100), args := #[Operand.tmp 4], argTypes := #[2] }, 4, "l02_matrices.go:25", #[{ on := 1, ground := Ground.data }], none⟩) rfl (by rfl) (by rfl) (fun w' hw' hF R__ hGo => ?_) ⟨_, rfl⟩ ?_
      · go_simp
        refine gives_enter rfl ?_
        refine (isSide_any _ _).mono ?_
        rintro e w2 ⟨rfl, rfl⟩
        exact ⟨_, rfl, hGo _ _ (Ext.refl _) (congrArg Value.bool h1) trivial⟩
      intro v hv
      obtain rfl : v = (.bool true) := hv
      simp only [Act.put, List.setIfInBounds_toArray, List.set_cons_zero, List.set_cons_succ]
      refine' wpT_det (o := ⟨some 6, Op.move (Operand.tmp 5), 4, "l02_matrices.go:25", #[{ on := 2, ground := Ground.data }, { on := 2, ground := Ground.chain }], none⟩) rfl (by rfl) (by rfl) (fun w' hw' => ?_) ?_; rotate_left
      · go_simp <;> first | rfl | exact ⟨rfl, rfl⟩
      simp only [Act.put, List.setIfInBounds_toArray, List.set_cons_zero, List.set_cons_succ]
      refine' wpT_det (o := ⟨some 7, Op.fieldAddr 35 (Operand.tmp 1) 1, 0, "l02_matrices.go:25", #[{ on := 3, ground := Ground.guard }], some (3, true)⟩) rfl (by rfl) (by rfl) (fun w' hw' => ?_) ?_; rotate_left
      · go_simp <;> first | rfl | exact ⟨rfl, rfl⟩
      simp only [Act.put, List.setIfInBounds_toArray, List.set_cons_zero, List.set_cons_succ]
      refine' wpT_det (o := ⟨some 8, Op.load 2 (Operand.tmp 7), 2, "l02_matrices.go:25", #[{ on := 4, ground := Ground.data }, { on := 3, ground := Ground.guard }], some (3, true)⟩) rfl (by rfl) (by rfl) (fun w' hw' => ?_) ?_; rotate_left
      · have hc0_ := Ext.cell hw' hc0; have hc1_ := Ext.cell hw' hc1; have hc2_ := Ext.cell hw' hc2; go_simp <;> first | rfl | exact ⟨rfl, rfl⟩
      simp only [Act.put, List.setIfInBounds_toArray, List.set_cons_zero, List.set_cons_succ]
      refine wpT_nd (o := ⟨some 9, Op.call { callee := Callee.value (Operand.func 100), args := #[Operand.tmp 8], argTypes := #[2] }, 4, "l02_matrices.go:25", #[{ on := 5, ground := Ground.data }, { on := 3, ground := Ground.chain }, { on := 3, ground := Ground.guard }], some (3, true)⟩) rfl (by rfl) (by rfl) (fun w' hw' hF R__ hGo => ?_) ⟨_, rfl⟩ ?_
      · go_simp
        refine gives_enter rfl ?_
        refine (isSide_any _ _).mono ?_
        rintro e w2 ⟨rfl, rfl⟩
        exact ⟨_, rfl, hGo _ _ (Ext.refl _) (congrArg Value.bool h2) trivial⟩
      intro v hv
      obtain rfl : v = (.bool false) := hv
      simp only [Act.put, List.setIfInBounds_toArray, List.set_cons_zero, List.set_cons_succ]
      refine' wpT_det (o := ⟨some 10, Op.pick (Operand.tmp 6) (Operand.tmp 9) (Operand.const (Value.bool false)), 4, "l02_matrices.go:25", #[{ on := 3, ground := Ground.data }, { on := 6, ground := Ground.data }], none⟩) rfl (by rfl) (by rfl) (fun w' hw' => ?_) ?_; rotate_left
      · go_simp <;> first | rfl | exact ⟨rfl, rfl⟩
      simp only [Act.put, List.setIfInBounds_toArray, List.set_cons_zero, List.set_cons_succ]
      refine' wpT_det (o := ⟨some 11, Op.move (Operand.tmp 10), 4, "l02_matrices.go:25", #[{ on := 7, ground := Ground.data }, { on := 6, ground := Ground.chain }], none⟩) rfl (by rfl) (by rfl) (fun w' hw' => ?_) ?_; rotate_left
      · go_simp <;> first | rfl | exact ⟨rfl, rfl⟩
      simp only [Act.put, List.setIfInBounds_toArray, List.set_cons_zero, List.set_cons_succ]
      refine wpT_skip (o := ⟨some 12, Op.fieldAddr 35 (Operand.tmp 1) 2, 0, "l02_matrices.go:25", #[{ on := 8, ground := Ground.guard }], some (8, true)⟩) rfl (by rfl) ?_
      simp only [Act.put, List.setIfInBounds_toArray, List.set_cons_zero, List.set_cons_succ]
      refine wpT_skip (o := ⟨some 13, Op.load 22 (Operand.tmp 12), 22, "l02_matrices.go:25", #[{ on := 9, ground := Ground.data }, { on := 8, ground := Ground.guard }], some (8, true)⟩) rfl (by rfl) ?_
      simp only [Act.put, List.setIfInBounds_toArray, List.set_cons_zero, List.set_cons_succ]
      refine wpT_skip (o := ⟨some 14, Op.call { callee := Callee.value (Operand.func 101), args := #[Operand.tmp 13], argTypes := #[22] }, 2, "l02_matrices.go:25", #[{ on := 10, ground := Ground.data }, { on := 8, ground := Ground.chain }, { on := 8, ground := Ground.guard }], some (8, true)⟩) rfl (by rfl) ?_
      simp only [Act.put, List.setIfInBounds_toArray, List.set_cons_zero, List.set_cons_succ]
      refine wpT_skip (o := ⟨some 15, Op.fieldAddr 35 (Operand.tmp 1) 0, 0, "l02_matrices.go:25", #[{ on := 8, ground := Ground.guard }], some (8, true)⟩) rfl (by rfl) ?_
      simp only [Act.put, List.setIfInBounds_toArray, List.set_cons_zero, List.set_cons_succ]
      refine wpT_skip (o := ⟨some 16, Op.load 2 (Operand.tmp 15), 2, "l02_matrices.go:25", #[{ on := 12, ground := Ground.data }, { on := 8, ground := Ground.guard }], some (8, true)⟩) rfl (by rfl) ?_
      simp only [Act.put, List.setIfInBounds_toArray, List.set_cons_zero, List.set_cons_succ]
      refine wpT_skip (o := ⟨some 17, Op.fieldAddr 35 (Operand.tmp 1) 1, 0, "l02_matrices.go:25", #[{ on := 8, ground := Ground.guard }], some (8, true)⟩) rfl (by rfl) ?_
      simp only [Act.put, List.setIfInBounds_toArray, List.set_cons_zero, List.set_cons_succ]
      refine wpT_skip (o := ⟨some 18, Op.load 2 (Operand.tmp 17), 2, "l02_matrices.go:25", #[{ on := 14, ground := Ground.data }, { on := 8, ground := Ground.guard }], some (8, true)⟩) rfl (by rfl) ?_
      simp only [Act.put, List.setIfInBounds_toArray, List.set_cons_zero, List.set_cons_succ]
      refine wpT_skip (o := ⟨some 19, Op.binOp BinOp.mul 2 (Operand.tmp 16) (Operand.tmp 18) 2, 2, "l02_matrices.go:25", #[{ on := 13, ground := Ground.data }, { on := 15, ground := Ground.data }, { on := 8, ground := Ground.guard }], some (8, true)⟩) rfl (by rfl) ?_
      simp only [Act.put, List.setIfInBounds_toArray, List.set_cons_zero, List.set_cons_succ]
      refine wpT_skip (o := ⟨some 20, Op.binOp BinOp.eql 2 (Operand.tmp 14) (Operand.tmp 19) 2, 4, "l02_matrices.go:25", #[{ on := 11, ground := Ground.data }, { on := 16, ground := Ground.data }, { on := 8, ground := Ground.guard }], some (8, true)⟩) rfl (by rfl) ?_
      simp only [Act.put, List.setIfInBounds_toArray, List.set_cons_zero, List.set_cons_succ]
      refine' wpT_det (o := ⟨some 21, Op.pick (Operand.tmp 11) (Operand.tmp 20) (Operand.const (Value.bool false)), 4, "l02_matrices.go:25", #[{ on := 8, ground := Ground.data }, { on := 17, ground := Ground.data }], none⟩) rfl (by rfl) (by rfl) (fun w' hw' => ?_) ?_; rotate_left
      · go_simp <;> first | rfl | exact ⟨rfl, rfl⟩
      simp only [Act.put, List.setIfInBounds_toArray, List.set_cons_zero, List.set_cons_succ]
      refine' wpT_det (o := ⟨some 22, Op.move (Operand.tmp 21), 4, "l02_matrices.go:25", #[{ on := 18, ground := Ground.data }, { on := 11, ground := Ground.chain }], none⟩) rfl (by rfl) (by rfl) (fun w' hw' => ?_) ?_; rotate_left
      · go_simp <;> first | rfl | exact ⟨rfl, rfl⟩
      simp only [Act.put, List.setIfInBounds_toArray, List.set_cons_zero, List.set_cons_succ]
      refine wpT_skip (o := ⟨some 23, Op.fieldAddr 35 (Operand.tmp 1) 2, 0, "l02_matrices.go:25", #[{ on := 19, ground := Ground.guard }], some (19, true)⟩) rfl (by rfl) ?_
      simp only [Act.put, List.setIfInBounds_toArray, List.set_cons_zero, List.set_cons_succ]
      refine wpT_skip (o := ⟨some 24, Op.load 22 (Operand.tmp 23), 22, "l02_matrices.go:25", #[{ on := 20, ground := Ground.data }, { on := 19, ground := Ground.guard }], some (19, true)⟩) rfl (by rfl) ?_
      simp only [Act.put, List.setIfInBounds_toArray, List.set_cons_zero, List.set_cons_succ]
      refine wpT_skip (o := ⟨some 25, Op.call { callee := Callee.value (Operand.func 102), args := #[Operand.tmp 24], argTypes := #[22] }, 4, "l02_matrices.go:25", #[{ on := 21, ground := Ground.data }, { on := 19, ground := Ground.chain }, { on := 19, ground := Ground.guard }], some (19, true)⟩) rfl (by rfl) ?_
      simp only [Act.put, List.setIfInBounds_toArray, List.set_cons_zero, List.set_cons_succ]
      refine' wpT_det (o := ⟨some 26, Op.pick (Operand.tmp 22) (Operand.tmp 25) (Operand.const (Value.bool false)), 4, "l02_matrices.go:25", #[{ on := 19, ground := Ground.data }, { on := 22, ground := Ground.data }], none⟩) rfl (by rfl) (by rfl) (fun w' hw' => ?_) ?_; rotate_left
      · go_simp <;> first | rfl | exact ⟨rfl, rfl⟩
      simp only [Act.put, List.setIfInBounds_toArray, List.set_cons_zero, List.set_cons_succ]
      refine' wpT_det (o := ⟨some 2, Op.assign (Operand.tmp 26), 4, "l02_matrices.go:25", #[{ on := 23, ground := Ground.data }, { on := 22, ground := Ground.chain }, { on := 0, ground := Ground.phase }, { on := 1, ground := Ground.phase }, { on := 2, ground := Ground.phase }, { on := 3, ground := Ground.phase }, { on := 4, ground := Ground.phase }, { on := 5, ground := Ground.phase }, { on := 6, ground := Ground.phase }, { on := 7, ground := Ground.phase }, { on := 8, ground := Ground.phase }, { on := 9, ground := Ground.phase }, { on := 10, ground := Ground.phase }, { on := 11, ground := Ground.phase }, { on := 12, ground := Ground.phase }, { on := 13, ground := Ground.phase }, { on := 14, ground := Ground.phase }, { on := 15, ground := Ground.phase }, { on := 16, ground := Ground.phase }, { on := 17, ground := Ground.phase }, { on := 18, ground := Ground.phase }, { on := 19, ground := Ground.phase }, { on := 20, ground := Ground.phase }, { on := 21, ground := Ground.phase }, { on := 22, ground := Ground.phase }, { on := 23, ground := Ground.phase }], none⟩) rfl (by rfl) (by rfl) (fun w' hw' => ?_) ?_; rotate_left
      · go_simp <;> first | rfl | exact ⟨rfl, rfl⟩
      simp only [Act.put, List.setIfInBounds_toArray, List.set_cons_zero, List.set_cons_succ]
      refine wpT_nil (fun w' hw' hF => ?_)
      refine wpList_nil ?_
      go_wp2_with fail
      go_ret
      exact ⟨ret_bool (by rw [Hres.out, h1, h2]; rfl), hx0.trans hw'.undrew⟩
    | true =>
      obtain ⟨q0, q1, hw3⟩ := side_mul h1 h2
      by_cases h3 : (n : Int) = r * c
      · have h3' : ((n : Int) == r * c) = true := by simpa using h3
        have H3 := Lib.hid h3
        clear h3
        refine wp_region_T (cs := []) [0, 1, 2, 3, 4, 5, 6, 7, 8, 9, 10, 11, 12, 13, 14, 15, 16, 17, 18, 19, 20, 21, 22, 23, 24] [] [2, 6, 11, 22] [] (fun i__ v => match i__ with | 2 => v = (.bool true) | 6 => v = (.bool true) | 11 => v = (.int .i64 n) | 22 => v = (.bool (finL xs)) | _ => False) (fun _ _ _ => True) (by kernel_rfl) (by kernel_rfl) (fun _ _ _ _ _ _ => trivial) ?_
        refine' wpT_det (o := ⟨some 3, Op.fieldAddr 35 (Operand.tmp 1) 0, 0, "l02_matrices.go:25", #[], none⟩) rfl (by rfl) (by rfl) (fun w' hw' => ?_) ?_; rotate_left
        · go_simp <;> first | rfl | exact ⟨rfl, rfl⟩
        simp only [Act.put, List.setIfInBounds_toArray, List.set_cons_zero, List.set_cons_succ]
        refine' wpT_det (o := ⟨some 4, Op.load 2 (Operand.tmp 3), 2, "l02_matrices.go:25", #[{ on := 0, ground := Ground.data }], none⟩) rfl (by rfl) (by rfl) (fun w' hw' => ?_) ?_; rotate_left
        · have hc0_ := Ext.cell hw' hc0; have hc1_ := Ext.cell hw' hc1; have hc2_ := Ext.cell hw' hc2; go_simp <;> first | rfl | exact ⟨rfl, rfl⟩
        simp only [Act.put, List.setIfInBounds_toArray, List.set_cons_zero, List.set_cons_succ]
        refine wpT_nd (o := ⟨some 5, Op.call { callee := Callee.value (Operand.func 100), args := #[Operand.tmp 4], argTypes := #[2] }, 4, "l02_matrices.go:25", #[{ on := 1, ground := Ground.data }], none⟩) rfl (by rfl) (by rfl) (fun w' hw' hF R__ hGo => ?_) ⟨_, rfl⟩ ?_
        · go_simp
          refine gives_enter rfl ?_
          refine (isSide_any _ _).mono ?_
          rintro e w2 ⟨rfl, rfl⟩
          exact ⟨_, rfl, hGo _ _ (Ext.refl _) (congrArg Value.bool h1) trivial⟩
        intro v hv
        obtain rfl : v = (.bool true) := hv
        simp only [Act.put, List.setIfInBounds_toArray, List.set_cons_zero, List.set_cons_succ]
        refine' wpT_det (o := ⟨some 6, Op.move (Operand.tmp 5), 4, "l02_matrices.go:25", #[{ on := 2, ground := Ground.data }, { on := 2, ground := Ground.chain }], none⟩) rfl (by rfl) (by rfl) (fun w' hw' => ?_) ?_; rotate_left
        · go_simp <;> first | rfl | exact ⟨rfl, rfl⟩
        simp only [Act.put, List.setIfInBounds_toArray, List.set_cons_zero, List.set_cons_succ]
        refine' wpT_det (o := ⟨some 7, Op.fieldAddr 35 (Operand.tmp 1) 1, 0, "l02_matrices.go:25", #[{ on := 3, ground := Ground.guard }], some (3, true)⟩) rfl (by rfl) (by rfl) (fun w' hw' => ?_) ?_; rotate_left
        · go_simp <;> first | rfl | exact ⟨rfl, rfl⟩
        simp only [Act.put, List.setIfInBounds_toArray, List.set_cons_zero, List.set_cons_succ]
        refine' wpT_det (o := ⟨some 8, Op.load 2 (Operand.tmp 7), 2, "l02_matrices.go:25", #[{ on := 4, ground := Ground.data }, { on := 3, ground := Ground.guard }], some (3, true)⟩) rfl (by rfl) (by rfl) (fun w' hw' => ?_) ?_; rotate_left
        · have hc0_ := Ext.cell hw' hc0; have hc1_ := Ext.cell hw' hc1; have hc2_ := Ext.cell hw' hc2; go_simp <;> first | rfl | exact ⟨rfl, rfl⟩
        simp only [Act.put, List.setIfInBounds_toArray, List.set_cons_zero, List.set_cons_succ]
        refine wpT_nd (o := ⟨some 9, Op.call { callee := Callee.value (Operand.func 100), args := #[Operand.tmp 8], argTypes := #[2] }, 4, "l02_matrices.go:25", #[{ on := 5, ground := Ground.data }, { on := 3, ground := Ground.chain }, { on := 3, ground := Ground.guard }], some (3, true)⟩) rfl (by rfl) (by rfl) (fun w' hw' hF R__ hGo => ?_) ⟨_, rfl⟩ ?_
        · go_simp
          refine gives_enter rfl ?_
          refine (isSide_any _ _).mono ?_
          rintro e w2 ⟨rfl, rfl⟩
          exact ⟨_, rfl, hGo _ _ (Ext.refl _) (congrArg Value.bool h2) trivial⟩
        intro v hv
        obtain rfl : v = (.bool true) := hv
        simp only [Act.put, List.setIfInBounds_toArray, List.set_cons_zero, List.set_cons_succ]
        refine' wpT_det (o := ⟨some 10, Op.pick (Operand.tmp 6) (Operand.tmp 9) (Operand.const (Value.bool false)), 4, "l02_matrices.go:25", #[{ on := 3, ground := Ground.data }, { on := 6, ground := Ground.data }], none⟩) rfl (by rfl) (by rfl) (fun w' hw' => ?_) ?_; rotate_left
        · go_simp <;> first | rfl | exact ⟨rfl, rfl⟩
        simp only [Act.put, List.setIfInBounds_toArray, List.set_cons_zero, List.set_cons_succ]
        refine' wpT_det (o := ⟨some 11, Op.move (Operand.tmp 10), 4, "l02_matrices.go:25", #[{ on := 7, ground := Ground.data }, { on := 6, ground := Ground.chain }], none⟩) rfl (by rfl) (by rfl) (fun w' hw' => ?_) ?_; rotate_left
        · go_simp <;> first | rfl | exact ⟨rfl, rfl⟩
        simp only [Act.put, List.setIfInBounds_toArray, List.set_cons_zero, List.set_cons_succ]
        refine' wpT_det (o := ⟨some 12, Op.fieldAddr 35 (Operand.tmp 1) 2, 0, "l02_matrices.go:25", #[{ on := 8, ground := Ground.guard }], some (8, true)⟩) rfl (by rfl) (by rfl) (fun w' hw' => ?_) ?_; rotate_left
        · go_simp <;> first | rfl | exact ⟨rfl, rfl⟩
        simp only [Act.put, List.setIfInBounds_toArray, List.set_cons_zero, List.set_cons_succ]
        refine' wpT_det (o := ⟨some 13, Op.load 22 (Operand.tmp 12), 22, "l02_matrices.go:25", #[{ on := 9, ground := Ground.data }, { on := 8, ground := Ground.guard }], some (8, true)⟩) rfl (by rfl) (by rfl) (fun w' hw' => ?_) ?_; rotate_left
        · have hc0_ := Ext.cell hw' hc0; have hc1_ := Ext.cell hw' hc1; have hc2_ := Ext.cell hw' hc2; go_simp <;> first | rfl | exact ⟨rfl, rfl⟩
        simp only [Act.put, List.setIfInBounds_toArray, List.set_cons_zero, List.set_cons_succ]
        refine wpT_nd (o := ⟨some 14, Op.call { callee := Callee.value (Operand.func 101), args := #[Operand.tmp 13], argTypes := #[22] }, 2, "l02_matrices.go:25", #[{ on := 10, ground := Ground.data }, { on := 8, ground := Ground.chain }, { on := 8, ground := Ground.guard }], some (8, true)⟩) rfl (by rfl) (by rfl) (fun w' hw' hF R__ hGo => ?_) ⟨_, rfl⟩ ?_
        · go_simp
          refine gives_enter rfl ?_
          refine (lengthF_any _ _ _ hs _).mono ?_
          rintro e w2 ⟨rfl, rfl⟩
          exact ⟨_, rfl, hGo _ _ (Ext.refl _) rfl trivial⟩
        intro v hv
        obtain rfl : v = (.int .i64 n) := hv
        simp only [Act.put, List.setIfInBounds_toArray, List.set_cons_zero, List.set_cons_succ]
        refine' wpT_det (o := ⟨some 15, Op.fieldAddr 35 (Operand.tmp 1) 0, 0, "l02_matrices.go:25", #[{ on := 8, ground := Ground.guard }], some (8, true)⟩) rfl (by rfl) (by rfl) (fun w' hw' => ?_) ?_; rotate_left
        · go_simp <;> first | rfl | exact ⟨rfl, rfl⟩
        simp only [Act.put, List.setIfInBounds_toArray, List.set_cons_zero, List.set_cons_succ]
        refine' wpT_det (o := ⟨some 16, Op.load 2 (Operand.tmp 15), 2, "l02_matrices.go:25", #[{ on := 12, ground := Ground.data }, { on := 8, ground := Ground.guard }], some (8, true)⟩) rfl (by rfl) (by rfl) (fun w' hw' => ?_) ?_; rotate_left
        · have hc0_ := Ext.cell hw' hc0; have hc1_ := Ext.cell hw' hc1; have hc2_ := Ext.cell hw' hc2; go_simp <;> first | rfl | exact ⟨rfl, rfl⟩
        simp only [Act.put, List.setIfInBounds_toArray, List.set_cons_zero, List.set_cons_succ]
        refine' wpT_det (o := ⟨some 17, Op.fieldAddr 35 (Operand.tmp 1) 1, 0, "l02_matrices.go:25", #[{ on := 8, ground := Ground.guard }], some (8, true)⟩) rfl (by rfl) (by rfl) (fun w' hw' => ?_) ?_; rotate_left
        · go_simp <;> first | rfl | exact ⟨rfl, rfl⟩
        simp only [Act.put, List.setIfInBounds_toArray, List.set_cons_zero, List.set_cons_succ]
        refine' wpT_det (o := ⟨some 18, Op.load 2 (Operand.tmp 17), 2, "l02_matrices.go:25", #[{ on := 14, ground := Ground.data }, { on := 8, ground := Ground.guard }], some (8, true)⟩) rfl (by rfl) (by rfl) (fun w' hw' => ?_) ?_; rotate_left
        · have hc0_ := Ext.cell hw' hc0; have hc1_ := Ext.cell hw' hc1; have hc2_ := Ext.cell hw' hc2; go_simp <;> first | rfl | exact ⟨rfl, rfl⟩
        simp only [Act.put, List.setIfInBounds_toArray, List.set_cons_zero, List.set_cons_succ]
        refine' wpT_det (o := ⟨some 19, Op.binOp BinOp.mul 2 (Operand.tmp 16) (Operand.tmp 18) 2, 2, "l02_matrices.go:25", #[{ on := 13, ground := Ground.data }, { on := 15, ground := Ground.data }, { on := 8, ground := Ground.guard }], some (8, true)⟩) rfl (by rfl) (by rfl) (fun w' hw' => ?_) ?_; rotate_left
        · go_simp <;> first | rfl | exact ⟨rfl, rfl⟩
        simp only [Act.put, List.setIfInBounds_toArray, List.set_cons_zero, List.set_cons_succ]
        refine' wpT_det (o := ⟨some 20, Op.binOp BinOp.eql 2 (Operand.tmp 14) (Operand.tmp 19) 2, 4, "l02_matrices.go:25", #[{ on := 11, ground := Ground.data }, { on := 16, ground := Ground.data }, { on := 8, ground := Ground.guard }], some (8, true)⟩) rfl (by rfl) (by rfl) (fun w' hw' => ?_) ?_; rotate_left
        · go_simp <;> first | rfl | exact ⟨rfl, rfl⟩
        simp only [Act.put, List.setIfInBounds_toArray, List.set_cons_zero, List.set_cons_succ]
        refine' wpT_det (o := ⟨some 21, Op.pick (Operand.tmp 11) (Operand.tmp 20) (Operand.const (Value.bool false)), 4, "l02_matrices.go:25", #[{ on := 8, ground := Ground.data }, { on := 17, ground := Ground.data }], none⟩) rfl (by rfl) (by rfl) (fun w' hw' => ?_) ?_; rotate_left
        · go_simp <;> first | rfl | exact ⟨rfl, rfl⟩
        simp only [Act.put, List.setIfInBounds_toArray, List.set_cons_zero, List.set_cons_succ]
        refine' wpT_det (o := ⟨some 22, Op.move (Operand.tmp 21), 4, "l02_matrices.go:25", #[{ on := 18, ground := Ground.data }, { on := 11, ground := Ground.chain }], none⟩) rfl (by rfl) (by rfl) (fun w' hw' => ?_) ?_; rotate_left
        · go_simp <;> first | rfl | exact ⟨rfl, rfl⟩
        simp only [Act.put, List.setIfInBounds_toArray, List.set_cons_zero, List.set_cons_succ]
        refine' wpT_det (o := ⟨some 23, Op.fieldAddr 35 (Operand.tmp 1) 2, 0, "l02_matrices.go:25", #[{ on := 19, ground := Ground.guard }], some (19, true)⟩) rfl (by rfl) (by rfl) (fun w' hw' => ?_) ?_; rotate_left
        · go_simp <;> first | rfl | exact ⟨rfl, rfl⟩
        simp only [Act.put, List.setIfInBounds_toArray, List.set_cons_zero, List.set_cons_succ]
        refine' wpT_det (o := ⟨some 24, Op.load 22 (Operand.tmp 23), 22, "l02_matrices.go:25", #[{ on := 20, ground := Ground.data }, { on := 19, ground := Ground.guard }], some (19, true)⟩) rfl (by rfl) (by rfl) (fun w' hw' => ?_) ?_; rotate_left
        · have hc0_ := Ext.cell hw' hc0; have hc1_ := Ext.cell hw' hc1; have hc2_ := Ext.cell hw' hc2; go_simp <;> first | rfl | exact ⟨rfl, rfl⟩
        simp only [Act.put, List.setIfInBounds_toArray, List.set_cons_zero, List.set_cons_succ]
        refine wpT_nd (o := ⟨some 25, Op.call { callee := Callee.value (Operand.func 102), args := #[Operand.tmp 24], argTypes := #[22] }, 4, "l02_matrices.go:25", #[{ on := 21, ground := Ground.data }, { on := 19, ground := Ground.chain }, { on := 19, ground := Ground.guard }], some (19, true)⟩) rfl (by rfl) (by rfl) (fun w' hw' hF R__ hGo => ?_) ⟨_, rfl⟩ ?_
        · go_simp
          refine gives_enter rfl ?_
          refine (areFinite_any _ _ _ _ _ (hr.below (hx0.trans hw'.undrew))).mono ?_
          rintro e w2 ⟨rfl, hx⟩
          exact ⟨_, rfl, hGo _ _ hx rfl trivial⟩
        intro v hv
        obtain rfl : v = (.bool (finL xs)) := hv
        simp only [Act.put, List.setIfInBounds_toArray, List.set_cons_zero, List.set_cons_succ]
        refine' wpT_det (o := ⟨some 26, Op.pick (Operand.tmp 22) (Operand.tmp 25) (Operand.const (Value.bool false)), 4, "l02_matrices.go:25", #[{ on := 19, ground := Ground.data }, { on := 22, ground := Ground.data }], none⟩) rfl (by rfl) (by rfl) (fun w' hw' => ?_) ?_; rotate_left
        · go_simp <;> first | rfl | exact ⟨rfl, rfl⟩
        simp only [Act.put, List.setIfInBounds_toArray, List.set_cons_zero, List.set_cons_succ]
        refine' wpT_det (o := ⟨some 2, Op.assign (Operand.tmp 26), 4, "l02_matrices.go:25", #[{ on := 23, ground := Ground.data }, { on := 22, ground := Ground.chain }, { on := 0, ground := Ground.phase }, { on := 1, ground := Ground.phase }, { on := 2, ground := Ground.phase }, { on := 3, ground := Ground.phase }, { on := 4, ground := Ground.phase }, { on := 5, ground := Ground.phase }, { on := 6, ground := Ground.phase }, { on := 7, ground := Ground.phase }, { on := 8, ground := Ground.phase }, { on := 9, ground := Ground.phase }, { on := 10, ground := Ground.phase }, { on := 11, ground := Ground.phase }, { on := 12, ground := Ground.phase }, { on := 13, ground := Ground.phase }, { on := 14, ground := Ground.phase }, { on := 15, ground := Ground.phase }, { on := 16, ground := Ground.phase }, { on := 17, ground := Ground.phase }, { on := 18, ground := Ground.phase }, { on := 19, ground := Ground.phase }, { on := 20, ground := Ground.phase }, { on := 21, ground := Ground.phase }, { on := 22, ground := Ground.phase }, { on := 23, ground := Ground.phase }], none⟩) rfl (by rfl) (by rfl) (fun w' hw' => ?_) ?_; rotate_left
        · go_simp <;> first | rfl | exact ⟨rfl, rfl⟩
        simp only [Act.put, List.setIfInBounds_toArray, List.set_cons_zero, List.set_cons_succ]
        refine wpT_nil (fun w' hw' hF => ?_)
        refine wpList_nil ?_
        go_wp2_with fail
        go_ret
        exact ⟨ret_bool (by rw [Hres.out, h1, h2, decide_eq_true H3.out]; rfl), hx0.trans hw'.undrew⟩
      · have h3' : ((n : Int) == r * c) = false := by simpa using h3
        refine wp_region_T (cs := []) [0, 1, 2, 3, 4, 5, 6, 7, 8, 9, 10, 11, 12, 13, 14, 15, 16, 17, 18, 19, 20, 21, 22, 23, 24] [] [2, 6, 11] [] (fun i__ v => match i__ with | 2 => v = (.bool true) | 6 => v = (.bool true) | 11 => v = (.int .i64 n) | _ => False) (fun _ _ _ => True) (by kernel_rfl) (by kernel_rfl) (fun _ _ _ _ _ _ => trivial) ?_
        refine' wpT_det (o := ⟨some 3, Op.fieldAddr 35 (Operand.tmp 1) 0, 0, "l02_matrices.go:25", #[], none⟩) rfl (by rfl) (by rfl) (fun w' hw' => ?_) ?_; rotate_left
        · go_simp <;> first | rfl | exact ⟨rfl, rfl⟩
        simp only [Act.put, List.setIfInBounds_toArray, List.set_cons_zero, List.set_cons_succ]
        refine' wpT_det (o := ⟨some 4, Op.load 2 (Operand.tmp 3), 2, "l02_matrices.go:25", #[{ on := 0, ground := Ground.data }], none⟩) rfl (by rfl) (by rfl) (fun w' hw' => ?_) ?_; rotate_left
        · have hc0_ := Ext.cell hw' hc0; have hc1_ := Ext.cell hw' hc1; have hc2_ := Ext.cell hw' hc2; go_simp <;> first | rfl | exact ⟨rfl, rfl⟩
        simp only [Act.put, List.setIfInBounds_toArray, List.set_cons_zero, List.set_cons_succ]
        refine wpT_nd (o := ⟨some 5, Op.call { callee := Callee.value (Operand.func 100), args := #[Operand.tmp 4], argTypes := #[2] }, 4, "l02_matrices.go:25", #[{ on := 1, ground := Ground.data }], none⟩) rfl (by rfl) (by rfl) (fun w' hw' hF R__ hGo => ?_) ⟨_, rfl⟩ ?_
        · go_simp
          refine gives_enter rfl ?_
          refine (isSide_any _ _).mono ?_
          rintro e w2 ⟨rfl, rfl⟩
          exact ⟨_, rfl, hGo _ _ (Ext.refl _) (congrArg Value.bool h1) trivial⟩
        intro v hv
        obtain rfl : v = (.bool true) := hv
        simp only [Act.put, List.setIfInBounds_toArray, List.set_cons_zero, List.set_cons_succ]
        refine' wpT_det (o := ⟨some 6, Op.move (Operand.tmp 5), 4, "l02_matrices.go:25", #[{ on := 2, ground := Ground.data }, { on := 2, ground := Ground.chain }], none⟩) rfl (by rfl) (by rfl) (fun w' hw' => ?_) ?_; rotate_left
        · go_simp <;> first | rfl | exact ⟨rfl, rfl⟩
        simp only [Act.put, List.setIfInBounds_toArray, List.set_cons_zero, List.set_cons_succ]
        refine' wpT_det (o := ⟨some 7, Op.fieldAddr 35 (Operand.tmp 1) 1, 0, "l02_matrices.go:25", #[{ on := 3, ground := Ground.guard }], some (3, true)⟩) rfl (by rfl) (by rfl) (fun w' hw' => ?_) ?_; rotate_left
        · go_simp <;> first | rfl | exact ⟨rfl, rfl⟩
        simp only [Act.put, List.setIfInBounds_toArray, List.set_cons_zero, List.set_cons_succ]
        refine' wpT_det (o := ⟨some 8, Op.load 2 (Operand.tmp 7), 2, "l02_matrices.go:25", #[{ on := 4, ground := Ground.data }, { on := 3, ground := Ground.guard }], some (3, true)⟩) rfl (by rfl) (by rfl) (fun w' hw' => ?_) ?_; rotate_left
        · have hc0_ := Ext.cell hw' hc0; have hc1_ := Ext.cell hw' hc1; have hc2_ := Ext.cell hw' hc2; go_simp <;> first | rfl | exact ⟨rfl, rfl⟩
        simp only [Act.put, List.setIfInBounds_toArray, List.set_cons_zero, List.set_cons_succ]
        refine wpT_nd (o := ⟨some 9, Op.call { callee := Callee.value (Operand.func 100), args := #[Operand.tmp 8], argTypes := #[2] }, 4, "l02_matrices.go:25", #[{ on := 5, ground := Ground.data }, { on := 3, ground := Ground.chain }, { on := 3, ground := Ground.guard }], some (3, true)⟩) rfl (by rfl) (by rfl) (fun w' hw' hF R__ hGo => ?_) ⟨_, rfl⟩ ?_
        · go_simp
          refine gives_enter rfl ?_
          refine (isSide_any _ _).mono ?_
          rintro e w2 ⟨rfl, rfl⟩
          exact ⟨_, rfl, hGo _ _ (Ext.refl _) (congrArg Value.bool h2) trivial⟩
        intro v hv
        obtain rfl : v = (.bool true) := hv
        simp only [Act.put, List.setIfInBounds_toArray, List.set_cons_zero, List.set_cons_succ]
        refine' wpT_det (o := ⟨some 10, Op.pick (Operand.tmp 6) (Operand.tmp 9) (Operand.const (Value.bool false)), 4, "l02_matrices.go:25", #[{ on := 3, ground := Ground.data }, { on := 6, ground := Ground.data }], none⟩) rfl (by rfl) (by rfl) (fun w' hw' => ?_) ?_; rotate_left
        · go_simp <;> first | rfl | exact ⟨rfl, rfl⟩
        simp only [Act.put, List.setIfInBounds_toArray, List.set_cons_zero, List.set_cons_succ]
        refine' wpT_det (o := ⟨some 11, Op.move (Operand.tmp 10), 4, "l02_matrices.go:25", #[{ on := 7, ground := Ground.data }, { on := 6, ground := Ground.chain }], none⟩) rfl (by rfl) (by rfl) (fun w' hw' => ?_) ?_; rotate_left
        · go_simp <;> first | rfl | exact ⟨rfl, rfl⟩
        simp only [Act.put, List.setIfInBounds_toArray, List.set_cons_zero, List.set_cons_succ]
        refine' wpT_det (o := ⟨some 12, Op.fieldAddr 35 (Operand.tmp 1) 2, 0, "l02_matrices.go:25", #[{ on := 8, ground := Ground.guard }], some (8, true)⟩) rfl (by rfl) (by rfl) (fun w' hw' => ?_) ?_; rotate_left
        · go_simp <;> first | rfl | exact ⟨rfl, rfl⟩
        simp only [Act.put, List.setIfInBounds_toArray, List.set_cons_zero, List.set_cons_succ]
        refine' wpT_det (o := ⟨some 13, Op.load 22 (Operand.tmp 12), 22, "l02_matrices.go:25", #[{ on := 9, ground := Ground.data }, { on := 8, ground := Ground.guard }], some (8, true)⟩) rfl (by rfl) (by rfl) (fun w' hw' => ?_) ?_; rotate_left
        · have hc0_ := Ext.cell hw' hc0; have hc1_ := Ext.cell hw' hc1; have hc2_ := Ext.cell hw' hc2; go_simp <;> first | rfl | exact ⟨rfl, rfl⟩
        simp only [Act.put, List.setIfInBounds_toArray, List.set_cons_zero, List.set_cons_succ]
        refine wpT_nd (o := ⟨some 14, Op.call { callee := Callee.value (Operand.func 101), args := #[Operand.tmp 13], argTypes := #[22] }, 2, "l02_matrices.go:25", #[{ on := 10, ground := Ground.data }, { on := 8, ground := Ground.chain }, { on := 8, ground := Ground.guard }], some (8, true)⟩) rfl (by rfl) (by rfl) (fun w' hw' hF R__ hGo => ?_) ⟨_, rfl⟩ ?_
        · go_simp
          refine gives_enter rfl ?_
          refine (lengthF_any _ _ _ hs _).mono ?_
          rintro e w2 ⟨rfl, rfl⟩
          exact ⟨_, rfl, hGo _ _ (Ext.refl _) rfl trivial⟩
        intro v hv
        obtain rfl : v = (.int .i64 n) := hv
        simp only [Act.put, List.setIfInBounds_toArray, List.set_cons_zero, List.set_cons_succ]
        refine' wpT_det (o := ⟨some 15, Op.fieldAddr 35 (Operand.tmp 1) 0, 0, "l02_matrices.go:25", #[{ on := 8, ground := Ground.guard }], some (8, true)⟩) rfl (by rfl) (by rfl) (fun w' hw' => ?_) ?_; rotate_left
        · go_simp <;> first | rfl | exact ⟨rfl, rfl⟩
        simp only [Act.put, List.setIfInBounds_toArray, List.set_cons_zero, List.set_cons_succ]
        refine' wpT_det (o := ⟨some 16, Op.load 2 (Operand.tmp 15), 2, "l02_matrices.go:25", #[{ on := 12, ground := Ground.data }, { on := 8, ground := Ground.guard }], some (8, true)⟩) rfl (by rfl) (by rfl) (fun w' hw' => ?_) ?_; rotate_left
        · have hc0_ := Ext.cell hw' hc0; have hc1_ := Ext.cell hw' hc1; have hc2_ := Ext.cell hw' hc2; go_simp <;> first | rfl | exact ⟨rfl, rfl⟩
        simp only [Act.put, List.setIfInBounds_toArray, List.set_cons_zero, List.set_cons_succ]
        refine' wpT_det (o := ⟨some 17, Op.fieldAddr 35 (Operand.tmp 1) 1, 0, "l02_matrices.go:25", #[{ on := 8, ground := Ground.guard }], some (8, true)⟩) rfl (by rfl) (by rfl) (fun w' hw' => ?_) ?_; rotate_left
        · go_simp <;> first | rfl | exact ⟨rfl, rfl⟩
        simp only [Act.put, List.setIfInBounds_toArray, List.set_cons_zero, List.set_cons_succ]
        refine' wpT_det (o := ⟨some 18, Op.load 2 (Operand.tmp 17), 2, "l02_matrices.go:25", #[{ on := 14, ground := Ground.data }, { on := 8, ground := Ground.guard }], some (8, true)⟩) rfl (by rfl) (by rfl) (fun w' hw' => ?_) ?_; rotate_left
        · have hc0_ := Ext.cell hw' hc0; have hc1_ := Ext.cell hw' hc1; have hc2_ := Ext.cell hw' hc2; go_simp <;> first | rfl | exact ⟨rfl, rfl⟩
        simp only [Act.put, List.setIfInBounds_toArray, List.set_cons_zero, List.set_cons_succ]
        refine' wpT_det (o := ⟨some 19, Op.binOp BinOp.mul 2 (Operand.tmp 16) (Operand.tmp 18) 2, 2, "l02_matrices.go:25", #[{ on := 13, ground := Ground.data }, { on := 15, ground := Ground.data }, { on := 8, ground := Ground.guard }], some (8, true)⟩) rfl (by rfl) (by rfl) (fun w' hw' => ?_) ?_; rotate_left
        · go_simp <;> first | rfl | exact ⟨rfl, rfl⟩
        simp only [Act.put, List.setIfInBounds_toArray, List.set_cons_zero, List.set_cons_succ]
        refine' wpT_det (o := ⟨some 20, Op.binOp BinOp.eql 2 (Operand.tmp 14) (Operand.tmp 19) 2, 4, "l02_matrices.go:25", #[{ on := 11, ground := Ground.data }, { on := 16, ground := Ground.data }, { on := 8, ground := Ground.guard }], some (8, true)⟩) rfl (by rfl) (by rfl) (fun w' hw' => ?_) ?_; rotate_left
        · go_simp <;> first | rfl | exact ⟨rfl, rfl⟩
        simp only [Act.put, List.setIfInBounds_toArray, List.set_cons_zero, List.set_cons_succ]
        refine' wpT_det (o := ⟨some 21, Op.pick (Operand.tmp 11) (Operand.tmp 20) (Operand.const (Value.bool false)), 4, "l02_matrices.go:25", #[{ on := 8, ground := Ground.data }, { on := 17, ground := Ground.data }], none⟩) rfl (by rfl) (by rfl) (fun w' hw' => ?_) ?_; rotate_left
        · go_simp <;> first | rfl | exact ⟨rfl, rfl⟩
        simp only [Act.put, List.setIfInBounds_toArray, List.set_cons_zero, List.set_cons_succ]
        refine' wpT_det (o := ⟨some 22, Op.move (Operand.tmp 21), 4, "l02_matrices.go:25", #[{ on := 18, ground := Ground.data }, { on := 11, ground := Ground.chain }], none⟩) rfl (by rfl) (by rfl) (fun w' hw' => ?_) ?_; rotate_left
        · go_simp <;> first | rfl | exact ⟨rfl, rfl⟩
        simp only [Act.put, List.setIfInBounds_toArray, List.set_cons_zero, List.set_cons_succ]
        refine wpT_skip (o := ⟨some 23, Op.fieldAddr 35 (Operand.tmp 1) 2, 0, "l02_matrices.go:25", #[{ on := 19, ground := Ground.guard }], some (19, true)⟩) rfl (by rfl) ?_
        simp only [Act.put, List.setIfInBounds_toArray, List.set_cons_zero, List.set_cons_succ]
        refine wpT_skip (o := ⟨some 24, Op.load 22 (Operand.tmp 23), 22, "l02_matrices.go:25", #[{ on := 20, ground := Ground.data }, { on := 19, ground := Ground.guard }], some (19, true)⟩) rfl (by rfl) ?_
        simp only [Act.put, List.setIfInBounds_toArray, List.set_cons_zero, List.set_cons_succ]
        refine wpT_skip (o := ⟨some 25, Op.call { callee := Callee.value (Operand.func 102), args := #[Operand.tmp 24], argTypes := #[22] }, 4, "l02_matrices.go:25", #[{ on := 21, ground := Ground.data }, { on := 19, ground := Ground.chain }, { on := 19, ground := Ground.guard }], some (19, true)⟩) rfl (by rfl) ?_
        simp only [Act.put, List.setIfInBounds_toArray, List.set_cons_zero, List.set_cons_succ]
        refine' wpT_det (o := ⟨some 26, Op.pick (Operand.tmp 22) (Operand.tmp 25) (Operand.const (Value.bool false)), 4, "l02_matrices.go:25", #[{ on := 19, ground := Ground.data }, { on := 22, ground := Ground.data }], none⟩) rfl (by rfl) (by rfl) (fun w' hw' => ?_) ?_; rotate_left
        · go_simp <;> first | rfl | exact ⟨rfl, rfl⟩
        simp only [Act.put, List.setIfInBounds_toArray, List.set_cons_zero, List.set_cons_succ]
        refine' wpT_det (o := ⟨some 2, Op.assign (Operand.tmp 26), 4, "l02_matrices.go:25", #[{ on := 23, ground := Ground.data }, { on := 22, ground := Ground.chain }, { on := 0, ground := Ground.phase }, { on := 1, ground := Ground.phase }, { on := 2, ground := Ground.phase }, { on := 3, ground := Ground.phase }, { on := 4, ground := Ground.phase }, { on := 5, ground := Ground.phase }, { on := 6, ground := Ground.phase }, { on := 7, ground := Ground.phase }, { on := 8, ground := Ground.phase }, { on := 9, ground := Ground.phase }, { on := 10, ground := Ground.phase }, { on := 11, ground := Ground.phase }, { on := 12, ground := Ground.phase }, { on := 13, ground := Ground.phase }, { on := 14, ground := Ground.phase }, { on := 15, ground := Ground.phase }, { on := 16, ground := Ground.phase }, { on := 17, ground := Ground.phase }, { on := 18, ground := Ground.phase }, { on := 19, ground := Ground.phase }, { on := 20, ground := Ground.phase }, { on := 21, ground := Ground.phase }, { on := 22, ground := Ground.phase }, { on := 23, ground := Ground.phase }], none⟩) rfl (by rfl) (by rfl) (fun w' hw' => ?_) ?_; rotate_left
        · go_simp <;> first | rfl | exact ⟨rfl, rfl⟩
        simp only [Act.put, List.setIfInBounds_toArray, List.set_cons_zero, List.set_cons_succ]
        refine wpT_nil (fun w' hw' hF => ?_)
        refine wpList_nil ?_
        go_wp2_with fail
        go_ret
        exact ⟨ret_bool (by rw [Hres.out, h1, h2, decide_eq_false h3]; rfl), hx0.trans hw'.undrew⟩

set_option maxHeartbeats 400000 in
theorem l02Sides_any (r c : Int) (w : World) :
    Calls Try.prog 126 #[.int .i64 r, .int .i64 c] w fun e w' => e = .returned (.bool (inR 1 r 12 && inR 1 c 12)) ∧ w = w' := by
  cases h1 : inR 1 r 12 with
  | false =>
    go_enter Try.func126, Try.ntmps126
    go_wp2_with fail
    refine (l00In_any _ _ _ _).mono ?_
    rintro e w1 ⟨rfl, rfl⟩
    rw [h1]
    go_wp2_with fail
    go_ret
    exact ⟨rfl, rfl⟩
  | true =>
    go_enter Try.func126, Try.ntmps126
    go_wp2_with fail
    refine (l00In_any _ _ _ _).mono ?_
    rintro e w1 ⟨rfl, rfl⟩
    rw [h1]
    go_wp2_with fail
    refine (l00In_any _ _ _ _).mono ?_
    rintro e w1 ⟨rfl, rfl⟩
    go_wp2_with fail
    go_ret
    exact ⟨rfl, rfl⟩

set_option maxHeartbeats 1000000 in
theorem l02Is_any (b : Nat) (r c : Int) (A : Option Addr) (n cap : Nat) (xs : List Nat) (w : World) (ha : MAt w b r c A n cap xs) :
    Calls Try.prog 121 #[.pointer (some ⟨b, 0, none⟩)] w fun e w' => e = .returned (.bool (isMat r c xs)) ∧ Ext w w' := by
  obtain ⟨hc0, hc1, hc2, hr⟩ := ha
  have hs := hr.small
  have hl := hr.flen
  obtain ⟨res, hres⟩ : ∃ res, res = isMat r c xs := ⟨_, rfl⟩
  rw [← hres]
  unfold isMat at hres
  rw [hl] at hres
  have Hres := Lib.hid hres
  clear hres hl
  go_enter Try.func121, Try.ntmps121
  go_wp2_with fail
  cases h0 : (inR 1 r 12 && inR 1 c 12) with
  | false =>
    refine wp_region_T (cs := []) [0, 1, 2, 3, 4, 5, 6, 7, 8, 9, 10, 11, 12, 13, 14, 15, 16, 17, 18, 19, 20, 21, 22, 23, 24, 25, 26, 27, 28, 29, 30, 31, 32, 33] [] [8] [] (fun i__ v => match i__ with | 8 => v = (.bool false) | _ => False) (fun _ _ _ => True) (by kernel_rfl) (by kernel_rfl) (fun _ _ _ _ _ _ => trivial) ?_
    refine' wpT_det (o := ⟨some 3, Op.move (Operand.tmp 0), 85, "l02_matrices.go:55", #[], none⟩) rfl (by rfl) (by rfl) (fun w' hw' => ?_) ?_; rotate_left
    · go_simp <;> first | rfl | exact ⟨rfl, rfl⟩
    simp only [Act.put, List.setIfInBounds_toArray, List.set_cons_zero, List.set_cons_succ]
    refine' wpT_det (o := ⟨some 4, Op.nilCheck (Operand.tmp 3), 0, "l02_matrices.go:55", #[{ on := 0, ground := Ground.data }], none⟩) rfl (by rfl) (by rfl) (fun w' hw' => ?_) ?_; rotate_left
    · go_simp <;> first | rfl | exact ⟨rfl, rfl⟩
    simp only [Act.put, List.setIfInBounds_toArray, List.set_cons_zero, List.set_cons_succ]
    refine' wpT_det (o := ⟨some 5, Op.fieldAddr 35 (Operand.tmp 4) 0, 0, "l02_matrices.go:55", #[{ on := 1, ground := Ground.data }], none⟩) rfl (by rfl) (by rfl) (fun w' hw' => ?_) ?_; rotate_left
    · go_simp <;> first | rfl | exact ⟨rfl, rfl⟩
    simp only [Act.put, List.setIfInBounds_toArray, List.set_cons_zero, List.set_cons_succ]
    refine' wpT_det (o := ⟨some 6, Op.load 2 (Operand.tmp 5), 2, "l02_matrices.go:55", #[{ on := 2, ground := Ground.data }], none⟩) rfl (by rfl) (by rfl) (fun w' hw' => ?_) ?_; rotate_left
    · have hc0_ := Ext.cell hw' hc0; have hc1_ := Ext.cell hw' hc1; have hc2_ := Ext.cell hw' hc2; go_simp <;> first | rfl | exact ⟨rfl, rfl⟩
    simp only [Act.put, List.setIfInBounds_toArray, List.set_cons_zero, List.set_cons_succ]
    refine' wpT_det (o := ⟨some 7, Op.move (Operand.tmp 0), 85, "l02_matrices.go:55", #[], none⟩) rfl (by rfl) (by rfl) (fun w' hw' => ?_) ?_; rotate_left
    · go_simp <;> first | rfl | exact ⟨rfl, rfl⟩
    simp only [Act.put, List.setIfInBounds_toArray, List.set_cons_zero, List.set_cons_succ]
    refine' wpT_det (o := ⟨some 8, Op.nilCheck (Operand.tmp 7), 0, "l02_matrices.go:55", #[{ on := 4, ground := Ground.data }], none⟩) rfl (by rfl) (by rfl) (fun w' hw' => ?_) ?_; rotate_left
    · go_simp <;> first | rfl | exact ⟨rfl, rfl⟩
    simp only [Act.put, List.setIfInBounds_toArray, List.set_cons_zero, List.set_cons_succ]
    refine' wpT_det (o := ⟨some 9, Op.fieldAddr 35 (Operand.tmp 8) 1, 0, "l02_matrices.go:55", #[{ on := 5, ground := Ground.data }], none⟩) rfl (by rfl) (by rfl) (fun w' hw' => ?_) ?_; rotate_left
    · go_simp <;> first | rfl | exact ⟨rfl, rfl⟩
    simp only [Act.put, List.setIfInBounds_toArray, List.set_cons_zero, List.set_cons_succ]
    refine' wpT_det (o := ⟨some 10, Op.load 2 (Operand.tmp 9), 2, "l02_matrices.go:55", #[{ on := 6, ground := Ground.data }], none⟩) rfl (by rfl) (by rfl) (fun w' hw' => ?_) ?_; rotate_left
    · have hc0_ := Ext.cell hw' hc0; have hc1_ := Ext.cell hw' hc1; have hc2_ := Ext.cell hw' hc2; go_simp <;> first | rfl | exact ⟨rfl, rfl⟩
    simp only [Act.put, List.setIfInBounds_toArray, List.set_cons_zero, List.set_cons_succ]
    refine wpT_nd (o := ⟨some 11, Op.call { callee := Callee.value (Operand.func 126), args := #[Operand.tmp 6, Operand.tmp 10], argTypes := #[2, 2] }, 4, "l02_matrices.go:55", #[{ on := 3, ground := Ground.data }, { on := 7, ground := Ground.data }], none⟩) rfl (by rfl) (by rfl) (fun w' hw' hF R__ hGo => ?_) ⟨_, rfl⟩ ?_
    · go_simp
      refine gives_enter rfl ?_
      refine (l02Sides_any _ _ _).mono ?_
      rintro e w2 ⟨rfl, rfl⟩
      exact ⟨_, rfl, hGo _ _ (Ext.refl _) (congrArg Value.bool h0) trivial⟩
    intro v hv
    obtain rfl : v = (.bool false) := hv
    simp only [Act.put, List.setIfInBounds_toArray, List.set_cons_zero, List.set_cons_succ]
    refine' wpT_det (o := ⟨some 12, Op.move (Operand.tmp 11), 4, "l02_matrices.go:55", #[{ on := 8, ground := Ground.data }, { on := 8, ground := Ground.chain }], none⟩) rfl (by rfl) (by rfl) (fun w' hw' => ?_) ?_; rotate_left
    · go_simp <;> first | rfl | exact ⟨rfl, rfl⟩
    simp only [Act.put, List.setIfInBounds_toArray, List.set_cons_zero, List.set_cons_succ]
    refine wpT_skip (o := ⟨some 13, Op.move (Operand.tmp 0), 85, "l02_matrices.go:55", #[{ on := 9, ground := Ground.guard }], some (9, true)⟩) rfl (by rfl) ?_
    simp only [Act.put, List.setIfInBounds_toArray, List.set_cons_zero, List.set_cons_succ]
    refine wpT_skip (o := ⟨some 14, Op.nilCheck (Operand.tmp 13), 0, "l02_matrices.go:55", #[{ on := 10, ground := Ground.data }, { on := 9, ground := Ground.guard }], some (9, true)⟩) rfl (by rfl) ?_
    simp only [Act.put, List.setIfInBounds_toArray, List.set_cons_zero, List.set_cons_succ]
    refine wpT_skip (o := ⟨some 15, Op.fieldAddr 35 (Operand.tmp 14) 2, 0, "l02_matrices.go:55", #[{ on := 11, ground := Ground.data }, { on := 9, ground := Ground.guard }], some (9, true)⟩) rfl (by rfl) ?_
    simp only [Act.put, List.setIfInBounds_toArray, List.set_cons_zero, List.set_cons_succ]
    refine wpT_skip (o := ⟨some 16, Op.load 22 (Operand.tmp 15), 22, "l02_matrices.go:55", #[{ on := 12, ground := Ground.data }, { on := 9, ground := Ground.guard }], some (9, true)⟩) rfl (by rfl) ?_
    simp only [Act.put, List.setIfInBounds_toArray, List.set_cons_zero, List.set_cons_succ]
    refine wpT_skip (o := ⟨some 17, Op.call { callee := Callee.builtin Builtin.len, args := #[Operand.tmp 16], argTypes := #[22] }, 3, "l02_matrices.go:55", #[{ on := 13, ground := Ground.data }, { on := 9, ground := Ground.guard }], some (9, true)⟩) rfl (by rfl) ?_
    simp only [Act.put, List.setIfInBounds_toArray, List.set_cons_zero, List.set_cons_succ]
    refine wpT_skip (o := ⟨some 18, Op.move (Operand.tmp 0), 85, "l02_matrices.go:55", #[{ on := 9, ground := Ground.guard }], some (9, true)⟩) rfl (by rfl) ?_
    simp only [Act.put, List.setIfInBounds_toArray, List.set_cons_zero, List.set_cons_succ]
    refine wpT_skip (o := ⟨some 19, Op.nilCheck (Operand.tmp 18), 0, "l02_matrices.go:55", #[{ on := 15, ground := Ground.data }, { on := 9, ground := Ground.guard }], some (9, true)⟩) rfl (by rfl) ?_
    simp only [Act.put, List.setIfInBounds_toArray, List.set_cons_zero, List.set_cons_succ]
    refine wpT_skip (o := ⟨some 20, Op.fieldAddr 35 (Operand.tmp 19) 0, 0, "l02_matrices.go:55", #[{ on := 16, ground := Ground.data }, { on := 9, ground := Ground.guard }], some (9, true)⟩) rfl (by rfl) ?_
    simp only [Act.put, List.setIfInBounds_toArray, List.set_cons_zero, List.set_cons_succ]
    refine wpT_skip (o := ⟨some 21, Op.load 2 (Operand.tmp 20), 2, "l02_matrices.go:55", #[{ on := 17, ground := Ground.data }, { on := 9, ground := Ground.guard }], some (9, true)⟩) rfl (by rfl) ?_
    simp only [Act.put, List.setIfInBounds_toArray, List.set_cons_zero, List.set_cons_succ]
    refine wpT_skip (o := ⟨some 22, Op.move (Operand.tmp 0), 85, "l02_matrices.go:55", #[{ on := 9, ground := Ground.guard }], some (9, true)⟩) rfl (by rfl) ?_
    simp only [Act.put, List.setIfInBounds_toArray, List.set_cons_zero, List.set_cons_succ]
    refine wpT_skip (o := ⟨some 23, Op.nilCheck (Operand.tmp 22), 0, "l02_matrices.go:55", #[{ on := 19, ground := Ground.data }, { on := 9, ground := Ground.guard }], some (9, true)⟩) rfl (by rfl) ?_
    simp only [Act.put, List.setIfInBounds_toArray, List.set_cons_zero, List.set_cons_succ]
    refine wpT_skip (o := ⟨some 24, Op.fieldAddr 35 (Operand.tmp 23) 1, 0, "l02_matrices.go:55", #[{ on := 20, ground := Ground.data }, { on := 9, ground := Ground.guard }], some (9, true)⟩) rfl (by rfl) ?_
    simp only [Act.put, List.setIfInBounds_toArray, List.set_cons_zero, List.set_cons_succ]
    refine wpT_skip (o := ⟨some 25, Op.load 2 (Operand.tmp 24), 2, "l02_matrices.go:55", #[{ on := 21, ground := Ground.data }, { on := 9, ground := Ground.guard }], some (9, true)⟩) rfl (by rfl) ?_
    simp only [Act.put, List.setIfInBounds_toArray, List.set_cons_zero, List.set_cons_succ]
    refine wpT_skip (o := ⟨some 26, Op.binOp BinOp.mul 2 (Operand.tmp 21) (Operand.tmp 25) 2, 2, "l02_matrices.go:55", #[{ on := 18, ground := Ground.data }, { on := 22, ground := Ground.data }, { on := 9, ground := Ground.guard }], some (9, true)⟩) rfl (by rfl) ?_
    simp only [Act.put, List.setIfInBounds_toArray, List.set_cons_zero, List.set_cons_succ]
    refine wpT_skip (o := ⟨some 27, Op.binOp BinOp.eql 2 (Operand.tmp 17) (Operand.tmp 26) 2, 4, "l02_matrices.go:55", #[{ on := 14, ground := Ground.data }, { on := 23, ground := Ground.data }, { on := 9, ground := Ground.guard }], some (9, true)⟩) rfl (by rfl) ?_
    simp only [Act.put, List.setIfInBounds_toArray, List.set_cons_zero, List.set_cons_succ]
    refine' wpT_det (o := ⟨some 28, Op.pick (Operand.tmp 12) (Operand.tmp 27) (Operand.const (Value.bool false)), 4, "l02_matrices.go:55", #[{ on := 9, ground := Ground.data }, { on := 24, ground := Ground.data }], none⟩) rfl (by rfl) (by rfl) (fun w' hw' => ?_) ?_; rotate_left
    · go_simp <;> first | rfl | exact ⟨rfl, rfl⟩
    simp only [Act.put, List.setIfInBounds_toArray, List.set_cons_zero, List.set_cons_succ]
    refine' wpT_det (o := ⟨some 29, Op.move (Operand.tmp 28), 4, "l02_matrices.go:55", #[{ on := 25, ground := Ground.data }, { on := 9, ground := Ground.chain }], none⟩) rfl (by rfl) (by rfl) (fun w' hw' => ?_) ?_; rotate_left
    · go_simp <;> first | rfl | exact ⟨rfl, rfl⟩
    simp only [Act.put, List.setIfInBounds_toArray, List.set_cons_zero, List.set_cons_succ]
    refine wpT_skip (o := ⟨some 30, Op.move (Operand.tmp 0), 85, "l02_matrices.go:55", #[{ on := 26, ground := Ground.guard }], some (26, true)⟩) rfl (by rfl) ?_
    simp only [Act.put, List.setIfInBounds_toArray, List.set_cons_zero, List.set_cons_succ]
    refine wpT_skip (o := ⟨some 31, Op.nilCheck (Operand.tmp 30), 0, "l02_matrices.go:55", #[{ on := 27, ground := Ground.data }, { on := 26, ground := Ground.guard }], some (26, true)⟩) rfl (by rfl) ?_
    simp only [Act.put, List.setIfInBounds_toArray, List.set_cons_zero, List.set_cons_succ]
    refine wpT_skip (o := ⟨some 32, Op.fieldAddr 35 (Operand.tmp 31) 2, 0, "l02_matrices.go:55", #[{ on := 28, ground := Ground.data }, { on := 26, ground := Ground.guard }], some (26, true)⟩) rfl (by rfl) ?_
    simp only [Act.put, List.setIfInBounds_toArray, List.set_cons_zero, List.set_cons_succ]
    refine wpT_skip (o := ⟨some 33, Op.load 22 (Operand.tmp 32), 22, "l02_matrices.go:55", #[{ on := 29, ground := Ground.data }, { on := 26, ground := Ground.guard }], some (26, true)⟩) rfl (by rfl) ?_
    simp only [Act.put, List.setIfInBounds_toArray, List.set_cons_zero, List.set_cons_succ]
    refine wpT_skip (o := ⟨some 34, Op.call { callee := Callee.value (Operand.func 112), args := #[Operand.tmp 33], argTypes := #[22] }, 4, "l02_matrices.go:55", #[{ on := 30, ground := Ground.data }, { on := 26, ground := Ground.chain }, { on := 26, ground := Ground.guard }], some (26, true)⟩) rfl (by rfl) ?_
    simp only [Act.put, List.setIfInBounds_toArray, List.set_cons_zero, List.set_cons_succ]
    refine' wpT_det (o := ⟨some 35, Op.pick (Operand.tmp 29) (Operand.tmp 34) (Operand.const (Value.bool false)), 4, "l02_matrices.go:55", #[{ on := 26, ground := Ground.data }, { on := 31, ground := Ground.data }], none⟩) rfl (by rfl) (by rfl) (fun w' hw' => ?_) ?_; rotate_left
    · go_simp <;> first | rfl | exact ⟨rfl, rfl⟩
    simp only [Act.put, List.setIfInBounds_toArray, List.set_cons_zero, List.set_cons_succ]
    refine' wpT_det (o := ⟨some 2, Op.assign (Operand.tmp 35), 4, "l02_matrices.go:55", #[{ on := 32, ground := Ground.data }, { on := 31, ground := Ground.chain }, { on := 0, ground := Ground.phase }, { on := 1, ground := Ground.phase }, { on := 2, ground := Ground.phase }, { on := 3, ground := Ground.phase }, { on := 4, ground := Ground.phase }, { on := 5, ground := Ground.phase }, { on := 6, ground := Ground.phase }, { on := 7, ground := Ground.phase }, { on := 8, ground := Ground.phase }, { on := 9, ground := Ground.phase }, { on := 10, ground := Ground.phase }, { on := 11, ground := Ground.phase }, { on := 12, ground := Ground.phase }, { on := 13, ground := Ground.phase }, { on := 14, ground := Ground.phase }, { on := 15, ground := Ground.phase }, { on := 16, ground := Ground.phase }, { on := 17, ground := Ground.phase }, { on := 18, ground := Ground.phase }, { on := 19, ground := Ground.phase }, { on := 20, ground := Ground.phase }, { on := 21, ground := Ground.phase }, { on := 22, ground := Ground.phase }, { on := 23, ground := Ground.phase }, { on := 24, ground := Ground.phase }, { on := 25, ground := Ground.phase }, { on := 26, ground := Ground.phase }, { on := 27, ground := Ground.phase }, { on := 28, ground := Ground.phase }, { on := 29, ground := Ground.phase }, { on := 30, ground := Ground.phase }, { on := 31, ground := Ground.phase }, { on := 32, ground := Ground.phase }], none⟩) rfl (by rfl) (by rfl) (fun w' hw' => ?_) ?_; rotate_left
    · go_simp <;> first | rfl | exact ⟨rfl, rfl⟩
    simp only [Act.put, List.setIfInBounds_toArray, List.set_cons_zero, List.set_cons_succ]
    refine wpT_nil (fun w' hw' hF => ?_)
    refine wpList_nil ?_
    go_wp2_with fail
    go_ret
    exact ⟨ret_bool (by rw [Hres.out, h0]; rfl), hw'.undrew⟩
  | true =>
    have h0' := h0
    rw [Bool.and_eq_true] at h0'
    obtain ⟨h1, h2⟩ := h0'
    obtain ⟨q0, q1, hw3⟩ := side_mul h1 h2
    clear h1 h2
    by_cases h3 : (n : Int) = r * c
    · have h3' : ((n : Int) == r * c) = true := by simpa using h3
      have H3 := Lib.hid h3
      clear h3
      refine wp_region_T (cs := []) [0, 1, 2, 3, 4, 5, 6, 7, 8, 9, 10, 11, 12, 13, 14, 15, 16, 17, 18, 19, 20, 21, 22, 23, 24, 25, 26, 27, 28, 29, 30, 31, 32, 33] [] [8, 31] [] (fun i__ v => match i__ with | 8 => v = (.bool true) | 31 => v = (.bool (finL xs)) | _ => False) (fun _ _ _ => True) (by kernel_rfl) (by kernel_rfl) (fun _ _ _ _ _ _ => trivial) ?_
      refine' wpT_det (o := ⟨some 3, Op.move (Operand.tmp 0), 85, "l02_matrices.go:55", #[], none⟩) rfl (by rfl) (by rfl) (fun w' hw' => ?_) ?_; rotate_left
      · go_simp <;> first | rfl | exact ⟨rfl, rfl⟩
      simp only [Act.put, List.setIfInBounds_toArray, List.set_cons_zero, List.set_cons_succ]
      refine' wpT_det (o := ⟨some 4, Op.nilCheck (Operand.tmp 3), 0, "l02_matrices.go:55", #[{ on := 0, ground := Ground.data }], none⟩) rfl (by rfl) (by rfl) (fun w' hw' => ?_) ?_; rotate_left
      · go_simp <;> first | rfl | exact ⟨rfl, rfl⟩
      simp only [Act.put, List.setIfInBounds_toArray, List.set_cons_zero, List.set_cons_succ]
      refine' wpT_det (o := ⟨some 5, Op.fieldAddr 35 (Operand.tmp 4) 0, 0, "l02_matrices.go:55", #[{ on := 1, ground := Ground.data }], none⟩) rfl (by rfl) (by rfl) (fun w' hw' => ?_) ?_; rotate_left
      · go_simp <;> first | rfl | exact ⟨rfl, rfl⟩
      simp only [Act.put, List.setIfInBounds_toArray, List.set_cons_zero, List.set_cons_succ]
      refine' wpT_det (o := ⟨some 6, Op.load 2 (Operand.tmp 5), 2, "l02_matrices.go:55", #[{ on := 2, ground := Ground.data }], none⟩) rfl (by rfl) (by rfl) (fun w' hw' => ?_) ?_; rotate_left
      · have hc0_ := Ext.cell hw' hc0; have hc1_ := Ext.cell hw' hc1; have hc2_ := Ext.cell hw' hc2; go_simp <;> first | rfl | exact ⟨rfl, rfl⟩
      simp only [Act.put, List.setIfInBounds_toArray, List.set_cons_zero, List.set_cons_succ]
      refine' wpT_det (o := ⟨some 7, Op.move (Operand.tmp 0), 85, "l02_matrices.go:55", #[], none⟩) rfl (by rfl) (by rfl) (fun w' hw' => ?_) ?_; rotate_left
      · go_simp <;> first | rfl | exact ⟨rfl, rfl⟩
      simp only [Act.put, List.setIfInBounds_toArray, List.set_cons_zero, List.set_cons_succ]
      refine' wpT_det (o := ⟨some 8, Op.nilCheck (Operand.tmp 7), 0, "l02_matrices.go:55", #[{ on := 4, ground := Ground.data }], none⟩) rfl (by rfl) (by rfl) (fun w' hw' => ?_) ?_; rotate_left
      · go_simp <;> first | rfl | exact ⟨rfl, rfl⟩
      simp only [Act.put, List.setIfInBounds_toArray, List.set_cons_zero, List.set_cons_succ]
      refine' wpT_det (o := ⟨some 9, Op.fieldAddr 35 (Operand.tmp 8) 1, 0, "l02_matrices.go:55", #[{ on := 5, ground := Ground.data }], none⟩) rfl (by rfl) (by rfl) (fun w' hw' => ?_) ?_; rotate_left
      · go_simp <;> first | rfl | exact ⟨rfl, rfl⟩
      simp only [Act.put, List.setIfInBounds_toArray, List.set_cons_zero, List.set_cons_succ]
      refine' wpT_det (o := ⟨some 10, Op.load 2 (Operand.tmp 9), 2, "l02_matrices.go:55", #[{ on := 6, ground := Ground.data }], none⟩) rfl (by rfl) (by rfl) (fun w' hw' => ?_) ?_; rotate_left
      · have hc0_ := Ext.cell hw' hc0; have hc1_ := Ext.cell hw' hc1; have hc2_ := Ext.cell hw' hc2; go_simp <;> first | rfl | exact ⟨rfl, rfl⟩
      simp only [Act.put, List.setIfInBounds_toArray, List.set_cons_zero, List.set_cons_succ]
      refine wpT_nd (o := ⟨some 11, Op.call { callee := Callee.value (Operand.func 126), args := #[Operand.tmp 6, Operand.tmp 10], argTypes := #[2, 2] }, 4, "l02_matrices.go:55", #[{ on := 3, ground := Ground.data }, { on := 7, ground := Ground.data }], none⟩) rfl (by rfl) (by rfl) (fun w' hw' hF R__ hGo => ?_) ⟨_, rfl⟩ ?_
      · go_simp
        refine gives_enter rfl ?_
        refine (l02Sides_any _ _ _).mono ?_
        rintro e w2 ⟨rfl, rfl⟩
        exact ⟨_, rfl, hGo _ _ (Ext.refl _) (congrArg Value.bool h0) trivial⟩
      intro v hv
      obtain rfl : v = (.bool true) := hv
      simp only [Act.put, List.setIfInBounds_toArray, List.set_cons_zero, List.set_cons_succ]
      refine' wpT_det (o := ⟨some 12, Op.move (Operand.tmp 11), 4, "l02_matrices.go:55", #[{ on := 8, ground := Ground.data }, { on := 8, ground := Ground.chain }], none⟩) rfl (by rfl) (by rfl) (fun w' hw' => ?_) ?_; rotate_left
      · go_simp <;> first | rfl | exact ⟨rfl, rfl⟩
      simp only [Act.put, List.setIfInBounds_toArray, List.set_cons_zero, List.set_cons_succ]
      refine' wpT_det (o := ⟨some 13, Op.move (Operand.tmp 0), 85, "l02_matrices.go:55", #[{ on := 9, ground := Ground.guard }], some (9, true)⟩) rfl (by rfl) (by rfl) (fun w' hw' => ?_) ?_; rotate_left
      · go_simp <;> first | rfl | exact ⟨rfl, rfl⟩
      simp only [Act.put, List.setIfInBounds_toArray, List.set_cons_zero, List.set_cons_succ]
      refine' wpT_det (o := ⟨some 14, Op.nilCheck (Operand.tmp 13), 0, "l02_matrices.go:55", #[{ on := 10, ground := Ground.data }, { on := 9, ground := Ground.guard }], some (9, true)⟩) rfl (by rfl) (by rfl) (fun w' hw' => ?_) ?_; rotate_left
      · go_simp <;> first | rfl | exact ⟨rfl, rfl⟩
      simp only [Act.put, List.setIfInBounds_toArray, List.set_cons_zero, List.set_cons_succ]
      refine' wpT_det (o := ⟨some 15, Op.fieldAddr 35 (Operand.tmp 14) 2, 0, "l02_matrices.go:55", #[{ on := 11, ground := Ground.data }, { on := 9, ground := Ground.guard }], some (9, true)⟩) rfl (by rfl) (by rfl) (fun w' hw' => ?_) ?_; rotate_left
      · go_simp <;> first | rfl | exact ⟨rfl, rfl⟩
      simp only [Act.put, List.setIfInBounds_toArray, List.set_cons_zero, List.set_cons_succ]
      refine' wpT_det (o := ⟨some 16, Op.load 22 (Operand.tmp 15), 22, "l02_matrices.go:55", #[{ on := 12, ground := Ground.data }, { on := 9, ground := Ground.guard }], some (9, true)⟩) rfl (by rfl) (by rfl) (fun w' hw' => ?_) ?_; rotate_left
      · have hc0_ := Ext.cell hw' hc0; have hc1_ := Ext.cell hw' hc1; have hc2_ := Ext.cell hw' hc2; go_simp <;> first | rfl | exact ⟨rfl, rfl⟩
      simp only [Act.put, List.setIfInBounds_toArray, List.set_cons_zero, List.set_cons_succ]
      refine' wpT_det (o := ⟨some 17, Op.call { callee := Callee.builtin Builtin.len, args := #[Operand.tmp 16], argTypes := #[22] }, 3, "l02_matrices.go:55", #[{ on := 13, ground := Ground.data }, { on := 9, ground := Ground.guard }], some (9, true)⟩) rfl (by rfl) (by rfl) (fun w' hw' => ?_) ?_; rotate_left
      · go_simp <;> first | rfl | exact ⟨rfl, rfl⟩
      simp only [Act.put, List.setIfInBounds_toArray, List.set_cons_zero, List.set_cons_succ]
      refine' wpT_det (o := ⟨some 18, Op.move (Operand.tmp 0), 85, "l02_matrices.go:55", #[{ on := 9, ground := Ground.guard }], some (9, true)⟩) rfl (by rfl) (by rfl) (fun w' hw' => ?_) ?_; rotate_left
      · go_simp <;> first | rfl | exact ⟨rfl, rfl⟩
      simp only [Act.put, List.setIfInBounds_toArray, List.set_cons_zero, List.set_cons_succ]
      refine' wpT_det (o := ⟨some 19, Op.nilCheck (Operand.tmp 18), 0, "l02_matrices.go:55", #[{ on := 15, ground := Ground.data }, { on := 9, ground := Ground.guard }], some (9, true)⟩) rfl (by rfl) (by rfl) (fun w' hw' => ?_) ?_; rotate_left
      · go_simp <;> first | rfl | exact ⟨rfl, rfl⟩
      simp only [Act.put, List.setIfInBounds_toArray, List.set_cons_zero, List.set_cons_succ]
      refine' wpT_det (o := ⟨some 20, Op.fieldAddr 35 (Operand.tmp 19) 0, 0, "l02_matrices.go:55", #[{ on := 16, ground := Ground.data }, { on := 9, ground := Ground.guard }], some (9, true)⟩) rfl (by rfl) (by rfl) (fun w' hw' => ?_) ?_; rotate_left
      · go_simp <;> first | rfl | exact ⟨rfl, rfl⟩
      simp only [Act.put, List.setIfInBounds_toArray, List.set_cons_zero, List.set_cons_succ]
      refine' wpT_det (o := ⟨some 21, Op.load 2 (Operand.tmp 20), 2, "l02_matrices.go:55", #[{ on := 17, ground := Ground.data }, { on := 9, ground := Ground.guard }], some (9, true)⟩) rfl (by rfl) (by rfl) (fun w' hw' => ?_) ?_; rotate_left
      · have hc0_ := Ext.cell hw' hc0; have hc1_ := Ext.cell hw' hc1; have hc2_ := Ext.cell hw' hc2; go_simp <;> first | rfl | exact ⟨rfl, rfl⟩
      simp only [Act.put, List.setIfInBounds_toArray, List.set_cons_zero, List.set_cons_succ]
      refine' wpT_det (o := ⟨some 22, Op.move (Operand.tmp 0), 85, "l02_matrices.go:55", #[{ on := 9, ground := Ground.guard }], some (9, true)⟩) rfl (by rfl) (by rfl) (fun w' hw' => ?_) ?_; rotate_left
      · go_simp <;> first | rfl | exact ⟨rfl, rfl⟩
      simp only [Act.put, List.setIfInBounds_toArray, List.set_cons_zero, List.set_cons_succ]
      refine' wpT_det (o := ⟨some 23, Op.nilCheck (Operand.tmp 22), 0, "l02_matrices.go:55", #[{ on := 19, ground := Ground.data }, { on := 9, ground := Ground.guard }], some (9, true)⟩) rfl (by rfl) (by rfl) (fun w' hw' => ?_) ?_; rotate_left
      · go_simp <;> first | rfl | exact ⟨rfl, rfl⟩
      simp only [Act.put, List.setIfInBounds_toArray, List.set_cons_zero, List.set_cons_succ]
      refine' wpT_det (o := ⟨some 24, Op.fieldAddr 35 (Operand.tmp 23) 1, 0, "l02_matrices.go:55", #[{ on := 20, ground := Ground.data }, { on := 9, ground := Ground.guard }], some (9, true)⟩) rfl (by rfl) (by rfl) (fun w' hw' => ?_) ?_; rotate_left
      · go_simp <;> first | rfl | exact ⟨rfl, rfl⟩
      simp only [Act.put, List.setIfInBounds_toArray, List.set_cons_zero, List.set_cons_succ]
      refine' wpT_det (o := ⟨some 25, Op.load 2 (Operand.tmp 24), 2, "l02_matrices.go:55", #[{ on := 21, ground := Ground.data }, { on := 9, ground := Ground.guard }], some (9, true)⟩) rfl (by rfl) (by rfl) (fun w' hw' => ?_) ?_; rotate_left
      · have hc0_ := Ext.cell hw' hc0; have hc1_ := Ext.cell hw' hc1; have hc2_ := Ext.cell hw' hc2; go_simp <;> first | rfl | exact ⟨rfl, rfl⟩
      simp only [Act.put, List.setIfInBounds_toArray, List.set_cons_zero, List.set_cons_succ]
      refine' wpT_det (o := ⟨some 26, Op.binOp BinOp.mul 2 (Operand.tmp 21) (Operand.tmp 25) 2, 2, "l02_matrices.go:55", #[{ on := 18, ground := Ground.data }, { on := 22, ground := Ground.data }, { on := 9, ground := Ground.guard }], some (9, true)⟩) rfl (by rfl) (by rfl) (fun w' hw' => ?_) ?_; rotate_left
      · go_simp <;> first | rfl | exact ⟨rfl, rfl⟩
      simp only [Act.put, List.setIfInBounds_toArray, List.set_cons_zero, List.set_cons_succ]
      refine' wpT_det (o := ⟨some 27, Op.binOp BinOp.eql 2 (Operand.tmp 17) (Operand.tmp 26) 2, 4, "l02_matrices.go:55", #[{ on := 14, ground := Ground.data }, { on := 23, ground := Ground.data }, { on := 9, ground := Ground.guard }], some (9, true)⟩) rfl (by rfl) (by rfl) (fun w' hw' => ?_) ?_; rotate_left
      · go_simp <;> first | rfl | exact ⟨rfl, rfl⟩
      simp only [Act.put, List.setIfInBounds_toArray, List.set_cons_zero, List.set_cons_succ]
      refine' wpT_det (o := ⟨some 28, Op.pick (Operand.tmp 12) (Operand.tmp 27) (Operand.const (Value.bool false)), 4, "l02_matrices.go:55", #[{ on := 9, ground := Ground.data }, { on := 24, ground := Ground.data }], none⟩) rfl (by rfl) (by rfl) (fun w' hw' => ?_) ?_; rotate_left
      · go_simp <;> first | rfl | exact ⟨rfl, rfl⟩
      simp only [Act.put, List.setIfInBounds_toArray, List.set_cons_zero, List.set_cons_succ]
      refine' wpT_det (o := ⟨some 29, Op.move (Operand.tmp 28), 4, "l02_matrices.go:55", #[{ on := 25, ground := Ground.data }, { on := 9, ground := Ground.chain }], none⟩) rfl (by rfl) (by rfl) (fun w' hw' => ?_) ?_; rotate_left
      · go_simp <;> first | rfl | exact ⟨rfl, rfl⟩
      simp only [Act.put, List.setIfInBounds_toArray, List.set_cons_zero, List.set_cons_succ]
      refine' wpT_det (o := ⟨some 30, Op.move (Operand.tmp 0), 85, "l02_matrices.go:55", #[{ on := 26, ground := Ground.guard }], some (26, true)⟩) rfl (by rfl) (by rfl) (fun w' hw' => ?_) ?_; rotate_left
      · go_simp <;> first | rfl | exact ⟨rfl, rfl⟩
      simp only [Act.put, List.setIfInBounds_toArray, List.set_cons_zero, List.set_cons_succ]
      refine' wpT_det (o := ⟨some 31, Op.nilCheck (Operand.tmp 30), 0, "l02_matrices.go:55", #[{ on := 27, ground := Ground.data }, { on := 26, ground := Ground.guard }], some (26, true)⟩) rfl (by rfl) (by rfl) (fun w' hw' => ?_) ?_; rotate_left
      · go_simp <;> first | rfl | exact ⟨rfl, rfl⟩
      simp only [Act.put, List.setIfInBounds_toArray, List.set_cons_zero, List.set_cons_succ]
      refine' wpT_det (o := ⟨some 32, Op.fieldAddr 35 (Operand.tmp 31) 2, 0, "l02_matrices.go:55", #[{ on := 28, ground := Ground.data }, { on := 26, ground := Ground.guard }], some (26, true)⟩) rfl (by rfl) (by rfl) (fun w' hw' => ?_) ?_; rotate_left
      · go_simp <;> first | rfl | exact ⟨rfl, rfl⟩
      simp only [Act.put, List.setIfInBounds_toArray, List.set_cons_zero, List.set_cons_succ]
      refine' wpT_det (o := ⟨some 33, Op.load 22 (Operand.tmp 32), 22, "l02_matrices.go:55", #[{ on := 29, ground := Ground.data }, { on := 26, ground := Ground.guard }], some (26, true)⟩) rfl (by rfl) (by rfl) (fun w' hw' => ?_) ?_; rotate_left
      · have hc0_ := Ext.cell hw' hc0; have hc1_ := Ext.cell hw' hc1; have hc2_ := Ext.cell hw' hc2; go_simp <;> first | rfl | exact ⟨rfl, rfl⟩
      simp only [Act.put, List.setIfInBounds_toArray, List.set_cons_zero, List.set_cons_succ]
      refine wpT_nd (o := ⟨some 34, Op.call { callee := Callee.value (Operand.func 112), args := #[Operand.tmp 33], argTypes := #[22] }, 4, "l02_matrices.go:55", #[{ on := 30, ground := Ground.data }, { on := 26, ground := Ground.chain }, { on := 26, ground := Ground.guard }], some (26, true)⟩) rfl (by rfl) (by rfl) (fun w' hw' hF R__ hGo => ?_) ⟨_, rfl⟩ ?_
      · go_simp
        refine gives_enter rfl ?_
        refine (l02Finite_any _ _ _ _ _ (hr.below hw'.undrew)).mono ?_
        rintro e w2 ⟨rfl, hx⟩
        exact ⟨_, rfl, hGo _ _ hx rfl trivial⟩
      intro v hv
      obtain rfl : v = (.bool (finL xs)) := hv
      simp only [Act.put, List.setIfInBounds_toArray, List.set_cons_zero, List.set_cons_succ]
      refine' wpT_det (o := ⟨some 35, Op.pick (Operand.tmp 29) (Operand.tmp 34) (Operand.const (Value.bool false)), 4, "l02_matrices.go:55", #[{ on := 26, ground := Ground.data }, { on := 31, ground := Ground.data }], none⟩) rfl (by rfl) (by rfl) (fun w' hw' => ?_) ?_; rotate_left
      · go_simp <;> first | rfl | exact ⟨rfl, rfl⟩
      simp only [Act.put, List.setIfInBounds_toArray, List.set_cons_zero, List.set_cons_succ]
      refine' wpT_det (o := ⟨some 2, Op.assign (Operand.tmp 35), 4, "l02_matrices.go:55", #[{ on := 32, ground := Ground.data }, { on := 31, ground := Ground.chain }, { on := 0, ground := Ground.phase }, { on := 1, ground := Ground.phase }, { on := 2, ground := Ground.phase }, { on := 3, ground := Ground.phase }, { on := 4, ground := Ground.phase }, { on := 5, ground := Ground.phase }, { on := 6, ground := Ground.phase }, { on := 7, ground := Ground.phase }, { on := 8, ground := Ground.phase }, { on := 9, ground := Ground.phase }, { on := 10, ground := Ground.phase }, { on := 11, ground := Ground.phase }, { on := 12, ground := Ground.phase }, { on := 13, ground := Ground.phase }, { on := 14, ground := Ground.phase }, { on := 15, ground := Ground.phase }, { on := 16, ground := Ground.phase }, { on := 17, ground := Ground.phase }, { on := 18, ground := Ground.phase }, { on := 19, ground := Ground.phase }, { on := 20, ground := Ground.phase }, { on := 21, ground := Ground.phase }, { on := 22, ground := Ground.phase }, { on := 23, ground := Ground.phase }, { on := 24, ground := Ground.phase }, { on := 25, ground := Ground.phase }, { on := 26, ground := Ground.phase }, { on := 27, ground := Ground.phase }, { on := 28, ground := Ground.phase }, { on := 29, ground := Ground.phase }, { on := 30, ground := Ground.phase }, { on := 31, ground := Ground.phase }, { on := 32, ground := Ground.phase }], none⟩) rfl (by rfl) (by rfl) (fun w' hw' => ?_) ?_; rotate_left
      · go_simp <;> first | rfl | exact ⟨rfl, rfl⟩
      simp only [Act.put, List.setIfInBounds_toArray, List.set_cons_zero, List.set_cons_succ]
      refine wpT_nil (fun w' hw' hF => ?_)
      refine wpList_nil ?_
      go_wp2_with fail
      go_ret
      exact ⟨ret_bool (by rw [Hres.out, h0, decide_eq_true H3.out]; rfl), hw'.undrew⟩
    · have h3' : ((n : Int) == r * c) = false := by simpa using h3
      refine wp_region_T (cs := []) [0, 1, 2, 3, 4, 5, 6, 7, 8, 9, 10, 11, 12, 13, 14, 15, 16, 17, 18, 19, 20, 21, 22, 23, 24, 25, 26, 27, 28, 29, 30, 31, 32, 33] [] [8] [] (fun i__ v => match i__ with | 8 => v = (.bool true) | _ => False) (fun _ _ _ => True) (by kernel_rfl) (by kernel_rfl) (fun _ _ _ _ _ _ => trivial) ?_
      refine' wpT_det (o := ⟨some 3, Op.move (Operand.tmp 0), 85, "l02_matrices.go:55", #[], none⟩) rfl (by rfl) (by rfl) (fun w' hw' => ?_) ?_; rotate_left
      · go_simp <;> first | rfl | exact ⟨rfl, rfl⟩
      simp only [Act.put, List.setIfInBounds_toArray, List.set_cons_zero, List.set_cons_succ]
      refine' wpT_det (o := ⟨some 4, Op.nilCheck (Operand.tmp 3), 0, "l02_matrices.go:55", #[{ on := 0, ground := Ground.data }], none⟩) rfl (by rfl) (by rfl) (fun w' hw' => ?_) ?_; rotate_left
      · go_simp <;> first | rfl | exact ⟨rfl, rfl⟩
      simp only [Act.put, List.setIfInBounds_toArray, List.set_cons_zero, List.set_cons_succ]
      refine' wpT_det (o := ⟨some 5, Op.fieldAddr 35 (Operand.tmp 4) 0, 0, "l02_matrices.go:55", #[{ on := 1, ground := Ground.data }], none⟩) rfl (by rfl) (by rfl) (fun w' hw' => ?_) ?_; rotate_left
      · go_simp <;> first | rfl | exact ⟨rfl, rfl⟩
      simp only [Act.put, List.setIfInBounds_toArray, List.set_cons_zero, List.set_cons_succ]
      refine' wpT_det (o := ⟨some 6, Op.load 2 (Operand.tmp 5), 2, "l02_matrices.go:55", #[{ on := 2, ground := Ground.data }], none⟩) rfl (by rfl) (by rfl) (fun w' hw' => ?_) ?_; rotate_left
      · have hc0_ := Ext.cell hw' hc0; have hc1_ := Ext.cell hw' hc1; have hc2_ := Ext.cell hw' hc2; go_simp <;> first | rfl | exact ⟨rfl, rfl⟩
      simp only [Act.put, List.setIfInBounds_toArray, List.set_cons_zero, List.set_cons_succ]
      refine' wpT_det (o := ⟨some 7, Op.move (Operand.tmp 0), 85, "l02_matrices.go:55", #[], none⟩) rfl (by rfl) (by rfl) (fun w' hw' => ?_) ?_; rotate_left
      · go_simp <;> first | rfl | exact ⟨rfl, rfl⟩
      simp only [Act.put, List.setIfInBounds_toArray, List.set_cons_zero, List.set_cons_succ]
      refine' wpT_det (o := ⟨some 8, Op.nilCheck (Operand.tmp 7), 0, "l02_matrices.go:55", #[{ on := 4, ground := Ground.data }], none⟩) rfl (by rfl) (by rfl) (fun w' hw' => ?_) ?_; rotate_left
      · go_simp <;> first | rfl | exact ⟨rfl, rfl⟩
      simp only [Act.put, List.setIfInBounds_toArray, List.set_cons_zero, List.set_cons_succ]
      refine' wpT_det (o := ⟨some 9, Op.fieldAddr 35 (Operand.tmp 8) 1, 0, "l02_matrices.go:55", #[{ on := 5, ground := Ground.data }], none⟩) rfl (by rfl) (by rfl) (fun w' hw' => ?_) ?_; rotate_left
      · go_simp <;> first | rfl | exact ⟨rfl, rfl⟩
      simp only [Act.put, List.setIfInBounds_toArray, List.set_cons_zero, List.set_cons_succ]
      refine' wpT_det (o := ⟨some 10, Op.load 2 (Operand.tmp 9), 2, "l02_matrices.go:55", #[{ on := 6, ground := Ground.data }], none⟩) rfl (by rfl) (by rfl) (fun w' hw' => ?_) ?_; rotate_left
      · have hc0_ := Ext.cell hw' hc0; have hc1_ := Ext.cell hw' hc1; have hc2_ := Ext.cell hw' hc2; go_simp <;> first | rfl | exact ⟨rfl, rfl⟩
      simp only [Act.put, List.setIfInBounds_toArray, List.set_cons_zero, List.set_cons_succ]
      refine wpT_nd (o := ⟨some 11, Op.call { callee := Callee.value (Operand.func 126), args := #[Operand.tmp 6, Operand.tmp 10], argTypes := #[2, 2] }, 4, "l02_matrices.go:55", #[{ on := 3, ground := Ground.data }, { on := 7, ground := Ground.data }], none⟩) rfl (by rfl) (by rfl) (fun w' hw' hF R__ hGo => ?_) ⟨_, rfl⟩ ?_
      · go_simp
        refine gives_enter rfl ?_
        refine (l02Sides_any _ _ _).mono ?_
        rintro e w2 ⟨rfl, rfl⟩
        exact ⟨_, rfl, hGo _ _ (Ext.refl _) (congrArg Value.bool h0) trivial⟩
      intro v hv
      obtain rfl : v = (.bool true) := hv
      simp only [Act.put, List.setIfInBounds_toArray, List.set_cons_zero, List.set_cons_succ]
      refine' wpT_det (o := ⟨some 12, Op.move (Operand.tmp 11), 4, "l02_matrices.go:55", #[{ on := 8, ground := Ground.data }, { on := 8, ground := Ground.chain }], none⟩) rfl (by rfl) (by rfl) (fun w' hw' => ?_) ?_; rotate_left
      · go_simp <;> first | rfl | exact ⟨rfl, rfl⟩
      simp only [Act.put, List.setIfInBounds_toArray, List.set_cons_zero, List.set_cons_succ]
      refine' wpT_det (o := ⟨some 13, Op.move (Operand.tmp 0), 85, "l02_matrices.go:55", #[{ on := 9, ground := Ground.guard }], some (9, true)⟩) rfl (by rfl) (by rfl) (fun w' hw' => ?_) ?_; rotate_left
      · go_simp <;> first | rfl | exact ⟨rfl, rfl⟩
      simp only [Act.put, List.setIfInBounds_toArray, List.set_cons_zero, List.set_cons_succ]
      refine' wpT_det (o := ⟨some 14, Op.nilCheck (Operand.tmp 13), 0, "l02_matrices.go:55", #[{ on := 10, ground := Ground.data }, { on := 9, ground := Ground.guard }], some (9, true)⟩) rfl (by rfl) (by rfl) (fun w' hw' => ?_) ?_; rotate_left
      · go_simp <;> first | rfl | exact ⟨rfl, rfl⟩
      simp only [Act.put, List.setIfInBounds_toArray, List.set_cons_zero, List.set_cons_succ]
      refine' wpT_det (o := ⟨some 15, Op.fieldAddr 35 (Operand.tmp 14) 2, 0, "l02_matrices.go:55", #[{ on := 11, ground := Ground.data }, { on := 9, ground := Ground.guard }], some (9, true)⟩) rfl (by rfl) (by rfl) (fun w' hw' => ?_) ?_; rotate_left
      · go_simp <;> first | rfl | exact ⟨rfl, rfl⟩
      simp only [Act.put, List.setIfInBounds_toArray, List.set_cons_zero, List.set_cons_succ]
      refine' wpT_det (o := ⟨some 16, Op.load 22 (Operand.tmp 15), 22, "l02_matrices.go:55", #[{ on := 12, ground := Ground.data }, { on := 9, ground := Ground.guard }], some (9, true)⟩) rfl (by rfl) (by rfl) (fun w' hw' => ?_) ?_; rotate_left
      · have hc0_ := Ext.cell hw' hc0; have hc1_ := Ext.cell hw' hc1; have hc2_ := Ext.cell hw' hc2; go_simp <;> first | rfl | exact ⟨rfl, rfl⟩
      simp only [Act.put, List.setIfInBounds_toArray, List.set_cons_zero, List.set_cons_succ]
      refine' wpT_det (o := ⟨some 17, Op.call { callee := Callee.builtin Builtin.len, args := #[Operand.tmp 16], argTypes := #[22] }, 3, "l02_matrices.go:55", #[{ on := 13, ground := Ground.data }, { on := 9, ground := Ground.guard }], some (9, true)⟩) rfl (by rfl) (by rfl) (fun w' hw' => ?_) ?_; rotate_left
      · go_simp <;> first | rfl | exact ⟨rfl, rfl⟩
      simp only [Act.put, List.setIfInBounds_toArray, List.set_cons_zero, List.set_cons_succ]
      refine' wpT_det (o := ⟨some 18, Op.move (Operand.tmp 0), 85, "l02_matrices.go:55", #[{ on := 9, ground := Ground.guard }], some (9, true)⟩) rfl (by rfl) (by rfl) (fun w' hw' => ?_) ?_; rotate_left
      · go_simp <;> first | rfl | exact ⟨rfl, rfl⟩
      simp only [Act.put, List.setIfInBounds_toArray, List.set_cons_zero, List.set_cons_succ]
      refine' wpT_det (o := ⟨some 19, Op.nilCheck (Operand.tmp 18), 0, "l02_matrices.go:55", #[{ on := 15, ground := Ground.data }, { on := 9, ground := Ground.guard }], some (9, true)⟩) rfl (by rfl) (by rfl) (fun w' hw' => ?_) ?_; rotate_left
      · go_simp <;> first | rfl | exact ⟨rfl, rfl⟩
      simp only [Act.put, List.setIfInBounds_toArray, List.set_cons_zero, List.set_cons_succ]
      refine' wpT_det (o := ⟨some 20, Op.fieldAddr 35 (Operand.tmp 19) 0, 0, "l02_matrices.go:55", #[{ on := 16, ground := Ground.data }, { on := 9, ground := Ground.guard }], some (9, true)⟩) rfl (by rfl) (by rfl) (fun w' hw' => ?_) ?_; rotate_left
      · go_simp <;> first | rfl | exact ⟨rfl, rfl⟩
      simp only [Act.put, List.setIfInBounds_toArray, List.set_cons_zero, List.set_cons_succ]
      refine' wpT_det (o := ⟨some 21, Op.load 2 (Operand.tmp 20), 2, "l02_matrices.go:55", #[{ on := 17, ground := Ground.data }, { on := 9, ground := Ground.guard }], some (9, true)⟩) rfl (by rfl) (by rfl) (fun w' hw' => ?_) ?_; rotate_left
      · have hc0_ := Ext.cell hw' hc0; have hc1_ := Ext.cell hw' hc1; have hc2_ := Ext.cell hw' hc2; go_simp <;> first | rfl | exact ⟨rfl, rfl⟩
      simp only [Act.put, List.setIfInBounds_toArray, List.set_cons_zero, List.set_cons_succ]
      refine' wpT_det (o := ⟨some 22, Op.move (Operand.tmp 0), 85, "l02_matrices.go:55", #[{ on := 9, ground := Ground.guard }], some (9, true)⟩) rfl (by rfl) (by rfl) (fun w' hw' => ?_) ?_; rotate_left
      · go_simp <;> first | rfl | exact ⟨rfl, rfl⟩
      simp only [Act.put, List.setIfInBounds_toArray, List.set_cons_zero, List.set_cons_succ]
      refine' wpT_det (o := ⟨some 23, Op.nilCheck (Operand.tmp 22), 0, "l02_matrices.go:55", #[{ on := 19, ground := Ground.data }, { on := 9, ground := Ground.guard }], some (9, true)⟩) rfl (by rfl) (by rfl) (fun w' hw' => ?_) ?_; rotate_left
      · go_simp <;> first | rfl | exact ⟨rfl, rfl⟩
      simp only [Act.put, List.setIfInBounds_toArray, List.set_cons_zero, List.set_cons_succ]
      refine' wpT_det (o := ⟨some 24, Op.fieldAddr 35 (Operand.tmp 23) 1, 0, "l02_matrices.go:55", #[{ on := 20, ground := Ground.data }, { on := 9, ground := Ground.guard }], some (9, true)⟩) rfl (by rfl) (by rfl) (fun w' hw' => ?_) ?_; rotate_left
      · go_simp <;> first | rfl | exact ⟨rfl, rfl⟩
      simp only [Act.put, List.setIfInBounds_toArray, List.set_cons_zero, List.set_cons_succ]
      refine' wpT_det (o := ⟨some 25, Op.load 2 (Operand.tmp 24), 2, "l02_matrices.go:55", #[{ on := 21, ground := Ground.data }, { on := 9, ground := Ground.guard }], some (9, true)⟩) rfl (by rfl) (by rfl) (fun w' hw' => ?_) ?_; rotate_left
      · have hc0_ := Ext.cell hw' hc0; have hc1_ := Ext.cell hw' hc1; have hc2_ := Ext.cell hw' hc2; go_simp <;> first | rfl | exact ⟨rfl, rfl⟩
      simp only [Act.put, List.setIfInBounds_toArray, List.set_cons_zero, List.set_cons_succ]
      refine' wpT_det (o := ⟨some 26, Op.binOp BinOp.mul 2 (Operand.tmp 21) (Operand.tmp 25) 2, 2, "l02_matrices.go:55", #[{ on := 18, ground := Ground.data }, { on := 22, ground := Ground.data }, { on := 9, ground := Ground.guard }], some (9, true)⟩) rfl (by rfl) (by rfl) (fun w' hw' => ?_) ?_; rotate_left
      · go_simp <;> first | rfl | exact ⟨rfl, rfl⟩
      simp only [Act.put, List.setIfInBounds_toArray, List.set_cons_zero, List.set_cons_succ]
      refine' wpT_det (o := ⟨some 27, Op.binOp BinOp.eql 2 (Operand.tmp 17) (Operand.tmp 26) 2, 4, "l02_matrices.go:55", #[{ on := 14, ground := Ground.data }, { on := 23, ground := Ground.data }, { on := 9, ground := Ground.guard }], some (9, true)⟩) rfl (by rfl) (by rfl) (fun w' hw' => ?_) ?_; rotate_left
      · go_simp <;> first | rfl | exact ⟨rfl, rfl⟩
      simp only [Act.put, List.setIfInBounds_toArray, List.set_cons_zero, List.set_cons_succ]
      refine' wpT_det (o := ⟨some 28, Op.pick (Operand.tmp 12) (Operand.tmp 27) (Operand.const (Value.bool false)), 4, "l02_matrices.go:55", #[{ on := 9, ground := Ground.data }, { on := 24, ground := Ground.data }], none⟩) rfl (by rfl) (by rfl) (fun w' hw' => ?_) ?_; rotate_left
      · go_simp <;> first | rfl | exact ⟨rfl, rfl⟩
      simp only [Act.put, List.setIfInBounds_toArray, List.set_cons_zero, List.set_cons_succ]
      refine' wpT_det (o := ⟨some 29, Op.move (Operand.tmp 28), 4, "l02_matrices.go:55", #[{ on := 25, ground := Ground.data }, { on := 9, ground := Ground.chain }], none⟩) rfl (by rfl) (by rfl) (fun w' hw' => ?_) ?_; rotate_left
      · go_simp <;> first | rfl | exact ⟨rfl, rfl⟩
      simp only [Act.put, List.setIfInBounds_toArray, List.set_cons_zero, List.set_cons_succ]
      refine wpT_skip (o := ⟨some 30, Op.move (Operand.tmp 0), 85, "l02_matrices.go:55", #[{ on := 26, ground := Ground.guard }], some (26, true)⟩) rfl (by rfl) ?_
      simp only [Act.put, List.setIfInBounds_toArray, List.set_cons_zero, List.set_cons_succ]
      refine wpT_skip (o := ⟨some 31, Op.nilCheck (Operand.tmp 30), 0, "l02_matrices.go:55", #[{ on := 27, ground := Ground.data }, { on := 26, ground := Ground.guard }], some (26, true)⟩) rfl (by rfl) ?_
      simp only [Act.put, List.setIfInBounds_toArray, List.set_cons_zero, List.set_cons_succ]
      refine wpT_skip (o := ⟨some 32, Op.fieldAddr 35 (Operand.tmp 31) 2, 0, "l02_matrices.go:55", #[{ on := 28, ground := Ground.data }, { on := 26, ground := Ground.guard }], some (26, true)⟩) rfl (by rfl) ?_
      simp only [Act.put, List.setIfInBounds_toArray, List.set_cons_zero, List.set_cons_succ]
      refine wpT_skip (o := ⟨some 33, Op.load 22 (Operand.tmp 32), 22, "l02_matrices.go:55", #[{ on := 29, ground := Ground.data }, { on := 26, ground := Ground.guard }], some (26, true)⟩) rfl (by rfl) ?_
      simp only [Act.put, List.setIfInBounds_toArray, List.set_cons_zero, List.set_cons_succ]
      refine wpT_skip (o := ⟨some 34, Op.call { callee := Callee.value (Operand.func 112), args := #[Operand.tmp 33], argTypes := #[22] }, 4, "l02_matrices.go:55", #[{ on := 30, ground := Ground.data }, { on := 26, ground := Ground.chain }, { on := 26, ground := Ground.guard }], some (26, true)⟩) rfl (by rfl) ?_
      simp only [Act.put, List.setIfInBounds_toArray, List.set_cons_zero, List.set_cons_succ]
      refine' wpT_det (o := ⟨some 35, Op.pick (Operand.tmp 29) (Operand.tmp 34) (Operand.const (Value.bool false)), 4, "l02_matrices.go:55", #[{ on := 26, ground := Ground.data }, { on := 31, ground := Ground.data }], none⟩) rfl (by rfl) (by rfl) (fun w' hw' => ?_) ?_; rotate_left
      · go_simp <;> first | rfl | exact ⟨rfl, rfl⟩
      simp only [Act.put, List.setIfInBounds_toArray, List.set_cons_zero, List.set_cons_succ]
      refine' wpT_det (o := ⟨some 2, Op.assign (Operand.tmp 35), 4, "l02_matrices.go:55", #[{ on := 32, ground := Ground.data }, { on := 31, ground := Ground.chain }, { on := 0, ground := Ground.phase }, { on := 1, ground := Ground.phase }, { on := 2, ground := Ground.phase }, { on := 3, ground := Ground.phase }, { on := 4, ground := Ground.phase }, { on := 5, ground := Ground.phase }, { on := 6, ground := Ground.phase }, { on := 7, ground := Ground.phase }, { on := 8, ground := Ground.phase }, { on := 9, ground := Ground.phase }, { on := 10, ground := Ground.phase }, { on := 11, ground := Ground.phase }, { on := 12, ground := Ground.phase }, { on := 13, ground := Ground.phase }, { on := 14, ground := Ground.phase }, { on := 15, ground := Ground.phase }, { on := 16, ground := Ground.phase }, { on := 17, ground := Ground.phase }, { on := 18, ground := Ground.phase }, { on := 19, ground := Ground.phase }, { on := 20, ground := Ground.phase }, { on := 21, ground := Ground.phase }, { on := 22, ground := Ground.phase }, { on := 23, ground := Ground.phase }, { on := 24, ground := Ground.phase }, { on := 25, ground := Ground.phase }, { on := 26, ground := Ground.phase }, { on := 27, ground := Ground.phase }, { on := 28, ground := Ground.phase }, { on := 29, ground := Ground.phase }, { on := 30, ground := Ground.phase }, { on := 31, ground := Ground.phase }, { on := 32, ground := Ground.phase }], none⟩) rfl (by rfl) (by rfl) (fun w' hw' => ?_) ?_; rotate_left
      · go_simp <;> first | rfl | exact ⟨rfl, rfl⟩
      simp only [Act.put, List.setIfInBounds_toArray, List.set_cons_zero, List.set_cons_succ]
      refine wpT_nil (fun w' hw' hF => ?_)
      refine wpList_nil ?_
      go_wp2_with fail
      go_ret
      exact ⟨ret_bool (by rw [Hres.out, h0, decide_eq_false h3]; rfl), hw'.undrew⟩

/-- The test of a square. -/
def isSq (r c : Int) (xs : List Nat) : Bool := isMat r c xs && decide (r = c)
set_option maxHeartbeats 1000000 in
theorem isSquare_any (r c : Int) (A : Option Addr) (n cap : Nat) (xs : List Nat) (w : World) (hr : Rds w A n (flts xs)) :
    Calls Try.prog 104 #[.agg #[.int .i64 r, .int .i64 c, .slice A n cap]] w fun e w' => e = .returned (.bool (isSq r c xs)) ∧ Ext w w' := by
  have hx0 : Ext w (w.alloc (.cells #[.int .i64 r, .int .i64 c, .slice A n cap] 35)) := (Ext.refl _).alloc _
  unfold isSq
  cases hv : isMat r c xs with
  | false =>
    go_enter Try.func104, Try.ntmps104
    go_wp2_with fail
    refine (ValidMatrix_any r c A n cap xs _ (hr.below hx0)).mono ?_
    rintro e w1 ⟨rfl, hx⟩
    rw [hv]
    go_wp2_with fail
    go_ret
    exact ⟨rfl, hx0.trans hx⟩
  | true =>
    obtain ⟨v, hrc⟩ : ∃ v, v = decide (r = c) := ⟨_, rfl⟩
    have hd : (r == c) = v := by rw [hrc]; by_cases h : r = c <;> simp [h]
    rw [← hrc]
    clear hrc
    go_enter Try.func104, Try.ntmps104
    go_wp2_with fail
    refine (ValidMatrix_any r c A n cap xs _ (hr.below hx0)).mono ?_
    rintro e w1 ⟨rfl, hx⟩
    rw [hv]
    obtain ⟨c0, c1, c2, _⟩ := (MAt.new hr 35 (r := r) (c := c) (cap := cap)).ext hx
    go_wp2_with fail
    go_ret
    exact ⟨rfl, hx0.trans hx⟩
set_option maxHeartbeats 1000000 in
theorem l02Square_any (b : Nat) (r c : Int) (A : Option Addr) (n cap : Nat) (xs : List Nat) (w : World) (ha : MAt w b r c A n cap xs) :
    Calls Try.prog 106 #[.pointer (some ⟨b, 0, none⟩)] w fun e w' => e = .returned (.bool (isSq r c xs)) ∧ Ext w w' := by
  unfold isSq
  cases hv : isMat r c xs with
  | false =>
    go_enter Try.func106, Try.ntmps106
    go_wp2_with fail
    refine wp_region_T (cs := []) [0, 1, 2, 3, 4, 5, 6, 7, 8, 9, 10, 11, 12, 13] [] [1] [] (fun i__ v => match i__ with | 1 => v = (.bool false) | _ => False) (fun _ _ _ => True) (by kernel_rfl) (by kernel_rfl) (fun _ _ _ _ _ _ => trivial) ?_
    refine' wpT_det (o := ⟨some 3, Op.move (Operand.tmp 0), 85, "l02_matrices.go:61", #[], none⟩) rfl (by rfl) (by rfl) (fun w' hw' => ?_) ?_; rotate_left
    · go_simp <;> first | rfl | exact ⟨rfl, rfl⟩
    simp only [Act.put, List.setIfInBounds_toArray, List.set_cons_zero, List.set_cons_succ]
    refine wpT_nd (o := ⟨some 4, Op.call { callee := Callee.value (Operand.func 121), args := #[Operand.tmp 3], argTypes := #[85] }, 4, "l02_matrices.go:61", #[{ on := 0, ground := Ground.data }], none⟩) rfl (by rfl) (by rfl) (fun w' hw' hF R__ hGo => ?_) ⟨_, rfl⟩ ?_
    · go_simp
      refine gives_enter rfl ?_
      refine (l02Is_any b r c A n cap xs _ (ha.ext hw'.undrew)).mono ?_
      rintro e w2 ⟨rfl, hx⟩
      exact ⟨_, rfl, hGo _ _ hx (congrArg Value.bool hv) trivial⟩
    intro v hv
    obtain rfl : v = (.bool false) := hv
    simp only [Act.put, List.setIfInBounds_toArray, List.set_cons_zero, List.set_cons_succ]
    refine' wpT_det (o := ⟨some 5, Op.move (Operand.tmp 4), 4, "l02_matrices.go:61", #[{ on := 1, ground := Ground.data }, { on := 1, ground := Ground.chain }], none⟩) rfl (by rfl) (by rfl) (fun w' hw' => ?_) ?_; rotate_left
    · go_simp <;> first | rfl | exact ⟨rfl, rfl⟩
    simp only [Act.put, List.setIfInBounds_toArray, List.set_cons_zero, List.set_cons_succ]
    refine wpT_skip (o := ⟨some 6, Op.move (Operand.tmp 0), 85, "l02_matrices.go:61", #[{ on := 2, ground := Ground.guard }], some (2, true)⟩) rfl (by rfl) ?_
    simp only [Act.put, List.setIfInBounds_toArray, List.set_cons_zero, List.set_cons_succ]
    refine wpT_skip (o := ⟨some 7, Op.nilCheck (Operand.tmp 6), 0, "l02_matrices.go:61", #[{ on := 3, ground := Ground.data }, { on := 2, ground := Ground.guard }], some (2, true)⟩) rfl (by rfl) ?_
    simp only [Act.put, List.setIfInBounds_toArray, List.set_cons_zero, List.set_cons_succ]
    refine wpT_skip (o := ⟨some 8, Op.fieldAddr 35 (Operand.tmp 7) 0, 0, "l02_matrices.go:61", #[{ on := 4, ground := Ground.data }, { on := 2, ground := Ground.guard }], some (2, true)⟩) rfl (by rfl) ?_
    simp only [Act.put, List.setIfInBounds_toArray, List.set_cons_zero, List.set_cons_succ]
    refine wpT_skip (o := ⟨some 9, Op.load 2 (Operand.tmp 8), 2, "l02_matrices.go:61", #[{ on := 5, ground := Ground.data }, { on := 2, ground := Ground.guard }], some (2, true)⟩) rfl (by rfl) ?_
    simp only [Act.put, List.setIfInBounds_toArray, List.set_cons_zero, List.set_cons_succ]
    refine wpT_skip (o := ⟨some 10, Op.move (Operand.tmp 0), 85, "l02_matrices.go:61", #[{ on := 2, ground := Ground.guard }], some (2, true)⟩) rfl (by rfl) ?_
    simp only [Act.put, List.setIfInBounds_toArray, List.set_cons_zero, List.set_cons_succ]
    refine wpT_skip (o := ⟨some 11, Op.nilCheck (Operand.tmp 10), 0, "l02_matrices.go:61", #[{ on := 7, ground := Ground.data }, { on := 2, ground := Ground.guard }], some (2, true)⟩) rfl (by rfl) ?_
    simp only [Act.put, List.setIfInBounds_toArray, List.set_cons_zero, List.set_cons_succ]
    refine wpT_skip (o := ⟨some 12, Op.fieldAddr 35 (Operand.tmp 11) 1, 0, "l02_matrices.go:61", #[{ on := 8, ground := Ground.data }, { on := 2, ground := Ground.guard }], some (2, true)⟩) rfl (by rfl) ?_
    simp only [Act.put, List.setIfInBounds_toArray, List.set_cons_zero, List.set_cons_succ]
    refine wpT_skip (o := ⟨some 13, Op.load 2 (Operand.tmp 12), 2, "l02_matrices.go:61", #[{ on := 9, ground := Ground.data }, { on := 2, ground := Ground.guard }], some (2, true)⟩) rfl (by rfl) ?_
    simp only [Act.put, List.setIfInBounds_toArray, List.set_cons_zero, List.set_cons_succ]
    refine wpT_skip (o := ⟨some 14, Op.binOp BinOp.eql 2 (Operand.tmp 9) (Operand.tmp 13) 2, 4, "l02_matrices.go:61", #[{ on := 6, ground := Ground.data }, { on := 10, ground := Ground.data }, { on := 2, ground := Ground.guard }], some (2, true)⟩) rfl (by rfl) ?_
    simp only [Act.put, List.setIfInBounds_toArray, List.set_cons_zero, List.set_cons_succ]
    refine' wpT_det (o := ⟨some 15, Op.pick (Operand.tmp 5) (Operand.tmp 14) (Operand.const (Value.bool false)), 4, "l02_matrices.go:61", #[{ on := 2, ground := Ground.data }, { on := 11, ground := Ground.data }], none⟩) rfl (by rfl) (by rfl) (fun w' hw' => ?_) ?_; rotate_left
    · go_simp <;> first | rfl | exact ⟨rfl, rfl⟩
    simp only [Act.put, List.setIfInBounds_toArray, List.set_cons_zero, List.set_cons_succ]
    refine' wpT_det (o := ⟨some 2, Op.assign (Operand.tmp 15), 4, "l02_matrices.go:61", #[{ on := 12, ground := Ground.data }, { on := 2, ground := Ground.chain }, { on := 0, ground := Ground.phase }, { on := 1, ground := Ground.phase }, { on := 2, ground := Ground.phase }, { on := 3, ground := Ground.phase }, { on := 4, ground := Ground.phase }, { on := 5, ground := Ground.phase }, { on := 6, ground := Ground.phase }, { on := 7, ground := Ground.phase }, { on := 8, ground := Ground.phase }, { on := 9, ground := Ground.phase }, { on := 10, ground := Ground.phase }, { on := 11, ground := Ground.phase }, { on := 12, ground := Ground.phase }], none⟩) rfl (by rfl) (by rfl) (fun w' hw' => ?_) ?_; rotate_left
    · go_simp <;> first | rfl | exact ⟨rfl, rfl⟩
    simp only [Act.put, List.setIfInBounds_toArray, List.set_cons_zero, List.set_cons_succ]
    refine wpT_nil (fun w' hw' hF => ?_)
    refine wpList_nil ?_
    go_wp2_with fail
    go_ret
    exact ⟨rfl, hw'.undrew⟩
  | true =>
    obtain ⟨v, hrc⟩ : ∃ v, v = decide (r = c) := ⟨_, rfl⟩
    have hd : (r == c) = v := by rw [hrc]; by_cases h : r = c <;> simp [h]
    rw [← hrc]
    clear hrc
    have c0 := ha.c0
    have c1 := ha.c1
    go_enter Try.func106, Try.ntmps106
    go_wp2_with fail
    refine wp_region_T (cs := []) [0, 1, 2, 3, 4, 5, 6, 7, 8, 9, 10, 11, 12, 13] [] [1] [] (fun i__ v => match i__ with | 1 => v = (.bool true) | _ => False) (fun _ _ _ => True) (by kernel_rfl) (by kernel_rfl) (fun _ _ _ _ _ _ => trivial) ?_
    refine' wpT_det (o := ⟨some 3, Op.move (Operand.tmp 0), 85, "l02_matrices.go:61", #[], none⟩) rfl (by rfl) (by rfl) (fun w' hw' => ?_) ?_; rotate_left
    · go_simp <;> first | rfl | exact ⟨rfl, rfl⟩
    simp only [Act.put, List.setIfInBounds_toArray, List.set_cons_zero, List.set_cons_succ]
    refine wpT_nd (o := ⟨some 4, Op.call { callee := Callee.value (Operand.func 121), args := #[Operand.tmp 3], argTypes := #[85] }, 4, "l02_matrices.go:61", #[{ on := 0, ground := Ground.data }], none⟩) rfl (by rfl) (by rfl) (fun w' hw' hF R__ hGo => ?_) ⟨_, rfl⟩ ?_
    · go_simp
      refine gives_enter rfl ?_
      refine (l02Is_any b r c A n cap xs _ (ha.ext hw'.undrew)).mono ?_
      rintro e w2 ⟨rfl, hx⟩
      exact ⟨_, rfl, hGo _ _ hx (congrArg Value.bool hv) trivial⟩
    intro v hv
    obtain rfl : v = (.bool true) := hv
    simp only [Act.put, List.setIfInBounds_toArray, List.set_cons_zero, List.set_cons_succ]
    refine' wpT_det (o := ⟨some 5, Op.move (Operand.tmp 4), 4, "l02_matrices.go:61", #[{ on := 1, ground := Ground.data }, { on := 1, ground := Ground.chain }], none⟩) rfl (by rfl) (by rfl) (fun w' hw' => ?_) ?_; rotate_left
    · go_simp <;> first | rfl | exact ⟨rfl, rfl⟩
    simp only [Act.put, List.setIfInBounds_toArray, List.set_cons_zero, List.set_cons_succ]
    refine' wpT_det (o := ⟨some 6, Op.move (Operand.tmp 0), 85, "l02_matrices.go:61", #[{ on := 2, ground := Ground.guard }], some (2, true)⟩) rfl (by rfl) (by rfl) (fun w' hw' => ?_) ?_; rotate_left
    · go_simp <;> first | rfl | exact ⟨rfl, rfl⟩
    simp only [Act.put, List.setIfInBounds_toArray, List.set_cons_zero, List.set_cons_succ]
    refine' wpT_det (o := ⟨some 7, Op.nilCheck (Operand.tmp 6), 0, "l02_matrices.go:61", #[{ on := 3, ground := Ground.data }, { on := 2, ground := Ground.guard }], some (2, true)⟩) rfl (by rfl) (by rfl) (fun w' hw' => ?_) ?_; rotate_left
    · go_simp <;> first | rfl | exact ⟨rfl, rfl⟩
    simp only [Act.put, List.setIfInBounds_toArray, List.set_cons_zero, List.set_cons_succ]
    refine' wpT_det (o := ⟨some 8, Op.fieldAddr 35 (Operand.tmp 7) 0, 0, "l02_matrices.go:61", #[{ on := 4, ground := Ground.data }, { on := 2, ground := Ground.guard }], some (2, true)⟩) rfl (by rfl) (by rfl) (fun w' hw' => ?_) ?_; rotate_left
    · go_simp <;> first | rfl | exact ⟨rfl, rfl⟩
    simp only [Act.put, List.setIfInBounds_toArray, List.set_cons_zero, List.set_cons_succ]
    refine' wpT_det (o := ⟨some 9, Op.load 2 (Operand.tmp 8), 2, "l02_matrices.go:61", #[{ on := 5, ground := Ground.data }, { on := 2, ground := Ground.guard }], some (2, true)⟩) rfl (by rfl) (by rfl) (fun w' hw' => ?_) ?_; rotate_left
    · have c0_ := Ext.cell hw' c0; have c1_ := Ext.cell hw' c1; go_simp <;> first | rfl | exact ⟨rfl, rfl⟩
    simp only [Act.put, List.setIfInBounds_toArray, List.set_cons_zero, List.set_cons_succ]
    refine' wpT_det (o := ⟨some 10, Op.move (Operand.tmp 0), 85, "l02_matrices.go:61", #[{ on := 2, ground := Ground.guard }], some (2, true)⟩) rfl (by rfl) (by rfl) (fun w' hw' => ?_) ?_; rotate_left
    · go_simp <;> first | rfl | exact ⟨rfl, rfl⟩
    simp only [Act.put, List.setIfInBounds_toArray, List.set_cons_zero, List.set_cons_succ]
    refine' wpT_det (o := ⟨some 11, Op.nilCheck (Operand.tmp 10), 0, "l02_matrices.go:61", #[{ on := 7, ground := Ground.data }, { on := 2, ground := Ground.guard }], some (2, true)⟩) rfl (by rfl) (by rfl) (fun w' hw' => ?_) ?_; rotate_left
    · go_simp <;> first | rfl | exact ⟨rfl, rfl⟩
    simp only [Act.put, List.setIfInBounds_toArray, List.set_cons_zero, List.set_cons_succ]
    refine' wpT_det (o := ⟨some 12, Op.fieldAddr 35 (Operand.tmp 11) 1, 0, "l02_matrices.go:61", #[{ on := 8, ground := Ground.data }, { on := 2, ground := Ground.guard }], some (2, true)⟩) rfl (by rfl) (by rfl) (fun w' hw' => ?_) ?_; rotate_left
    · go_simp <;> first | rfl | exact ⟨rfl, rfl⟩
    simp only [Act.put, List.setIfInBounds_toArray, List.set_cons_zero, List.set_cons_succ]
    refine' wpT_det (o := ⟨some 13, Op.load 2 (Operand.tmp 12), 2, "l02_matrices.go:61", #[{ on := 9, ground := Ground.data }, { on := 2, ground := Ground.guard }], some (2, true)⟩) rfl (by rfl) (by rfl) (fun w' hw' => ?_) ?_; rotate_left
    · have c0_ := Ext.cell hw' c0; have c1_ := Ext.cell hw' c1; go_simp <;> first | rfl | exact ⟨rfl, rfl⟩
    simp only [Act.put, List.setIfInBounds_toArray, List.set_cons_zero, List.set_cons_succ]
    refine' wpT_det (o := ⟨some 14, Op.binOp BinOp.eql 2 (Operand.tmp 9) (Operand.tmp 13) 2, 4, "l02_matrices.go:61", #[{ on := 6, ground := Ground.data }, { on := 10, ground := Ground.data }, { on := 2, ground := Ground.guard }], some (2, true)⟩) rfl (by rfl) (by rfl) (fun w' hw' => ?_) ?_; rotate_left
    · go_simp <;> first | rfl | exact ⟨rfl, rfl⟩
    simp only [Act.put, List.setIfInBounds_toArray, List.set_cons_zero, List.set_cons_succ]
    refine' wpT_det (o := ⟨some 15, Op.pick (Operand.tmp 5) (Operand.tmp 14) (Operand.const (Value.bool false)), 4, "l02_matrices.go:61", #[{ on := 2, ground := Ground.data }, { on := 11, ground := Ground.data }], none⟩) rfl (by rfl) (by rfl) (fun w' hw' => ?_) ?_; rotate_left
    · go_simp <;> first | rfl | exact ⟨rfl, rfl⟩
    simp only [Act.put, List.setIfInBounds_toArray, List.set_cons_zero, List.set_cons_succ]
    refine' wpT_det (o := ⟨some 2, Op.assign (Operand.tmp 15), 4, "l02_matrices.go:61", #[{ on := 12, ground := Ground.data }, { on := 2, ground := Ground.chain }, { on := 0, ground := Ground.phase }, { on := 1, ground := Ground.phase }, { on := 2, ground := Ground.phase }, { on := 3, ground := Ground.phase }, { on := 4, ground := Ground.phase }, { on := 5, ground := Ground.phase }, { on := 6, ground := Ground.phase }, { on := 7, ground := Ground.phase }, { on := 8, ground := Ground.phase }, { on := 9, ground := Ground.phase }, { on := 10, ground := Ground.phase }, { on := 11, ground := Ground.phase }, { on := 12, ground := Ground.phase }], none⟩) rfl (by rfl) (by rfl) (fun w' hw' => ?_) ?_; rotate_left
    · go_simp <;> first | rfl | exact ⟨rfl, rfl⟩
    simp only [Act.put, List.setIfInBounds_toArray, List.set_cons_zero, List.set_cons_succ]
    refine wpT_nil (fun w' hw' hF => ?_)
    refine wpList_nil ?_
    go_wp2_with fail
    go_ret
    exact ⟨rfl, hw'.undrew⟩

/-- The test of a vector. -/
def isVec (xs : List Nat) : Bool := inR 1 xs.length 256 && finL xs
set_option maxHeartbeats 1000000 in
theorem IsVector_any (A : Option Addr) (n cap : Nat) (xs : List Nat) (w : World) (hr : Rds w A n (flts xs)) :
    Calls Try.prog 129 #[.slice A n cap] w fun e w' => e = .returned (.bool (isVec xs)) ∧ Ext w w' := by
  have hs := hr.small
  have hl := hr.flen
  unfold isVec
  rw [hl]
  clear hl
  cases hv : inR 1 n 256 with
  | false =>
    go_enter Try.func129, Try.ntmps129
    go_wp2_with fail
    refine (lengthF_any A n cap hs _).mono ?_
    rintro e w1 ⟨rfl, rfl⟩
    go_wp2_with fail
    refine (inRange_any _ _ _ _).mono ?_
    rintro e w1 ⟨rfl, rfl⟩
    rw [hv]
    go_wp2_with fail
    go_ret
    exact ⟨rfl, Ext.refl _⟩
  | true =>
    go_enter Try.func129, Try.ntmps129
    go_wp2_with fail
    refine (lengthF_any A n cap hs _).mono ?_
    rintro e w1 ⟨rfl, rfl⟩
    go_wp2_with fail
    refine (inRange_any _ _ _ _).mono ?_
    rintro e w1 ⟨rfl, rfl⟩
    rw [hv]
    go_wp2_with fail
    refine (areFinite_any A n cap xs _ hr).mono ?_
    rintro e w1 ⟨rfl, hx⟩
    go_wp2_with fail
    go_ret
    exact ⟨rfl, hx⟩
set_option maxHeartbeats 1000000 in
theorem l02Vector_any (A : Option Addr) (n cap : Nat) (xs : List Nat) (w : World) (hr : Rds w A n (flts xs)) :
    Calls Try.prog 125 #[.slice A n cap] w fun e w' => e = .returned (.bool (isVec xs)) ∧ Ext w w' := by
  have hs := hr.small
  have hl := hr.flen
  unfold isVec
  rw [hl]
  clear hl
  by_cases h1 : 1 ≤ n
  · by_cases h2 : n ≤ 256
    · have hv : inR 1 n 256 = true := inR_iff.2 (by omega)
      rw [hv]
      clear hv
      go_enter Try.func125, Try.ntmps125
      go_wp2_with fail
      refine (l02Finite_any A n cap xs _ hr).mono ?_
      rintro e w1 ⟨rfl, hx⟩
      go_wp2_with fail
      go_ret
      exact ⟨rfl, hx⟩
    · have hv : inR 1 n 256 = false := inR_false.2 (by omega)
      rw [hv]
      clear hv
      go_enter Try.func125, Try.ntmps125
      go_wp2_with fail
      go_ret
      exact ⟨rfl, Ext.refl _⟩
  · have hv : inR 1 n 256 = false := inR_false.2 (by omega)
    rw [hv]
    clear hv
    go_enter Try.func125, Try.ntmps125
    go_wp2_with fail
    go_ret
    exact ⟨rfl, Ext.refl _⟩

end Go.Proofs.Ytgjfdfmbknmpaaa
