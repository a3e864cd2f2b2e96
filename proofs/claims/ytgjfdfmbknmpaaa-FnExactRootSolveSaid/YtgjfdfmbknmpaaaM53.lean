import Derived.Test.YtgjfdfmbknmpaaaM49
import Derived.Test.YtgjfdfmbknmpaaaM22
set_option linter.unusedVariables false
set_option linter.unusedSimpArgs false
namespace Go.Proofs.Ytgjfdfmbknmpaaa
open Go.RowKit

/-- From the first row down; the test of the middle. -/
def FX (a : Nat → Nat → Option Nat) (b : Nat → Option Nat) : Nat → Nat → Option Nat
  | 0 => b
  | t + 1 => upd1 (FX a b t) t (fdiv (lessF (a t) (FX a b t) (FX a b t t) 0 t) (a t t))
theorem FX_undone (a : Nat → Nat → Option Nat) (b : Nat → Option Nat) : ∀ {t i : Nat}, t ≤ i → FX a b t i = b i
  | 0, _, _ => rfl
  | t + 1, i, h => by
    show upd1 _ _ _ i = _
    rw [upd1_other _ (by omega)]
    exact FX_undone a b (by omega)
theorem FX_other (a : Nat → Nat → Option Nat) (b : Nat → Option Nat) {t i : Nat} (h : i ≠ t) : FX a b (t + 1) i = FX a b t i := upd1_other _ h
theorem FX_at (a : Nat → Nat → Option Nat) (b : Nat → Option Nat) (t : Nat) : FX a b (t + 1) t = fdiv (lessF (a t) (FX a b t) (FX a b t t) 0 t) (a t t) := upd1_same _ _ _
def gtz (x : Nat) : Bool := FloatKind.f32.format.order x 0 == some .gt
def le0 (x : Nat) : Bool := (FloatKind.f32.format.order x 0 == some .lt) || (FloatKind.f32.format.order x 0 == some .eq)
theorem le0_fin {x : Nat} (h : isFin .f32 x = true) : le0 x = !gtz x := by
  obtain ⟨s, m, e, hd⟩ : ∃ s m e, FloatKind.f32.format.read x = .number s m e := by
    unfold isFin at h
    split at h
    · exact ⟨_, _, _, by assumption⟩
    · cases h
  unfold le0 gtz
  rw [order_0 hd]
  cases compare (Ieee.signed s m (e + 149).toNat) 0 <;> rfl
def flipA (a : Nat → Nat → Option Nat) : Nat → Nat → Option Nat := fun i k => a k i
def rtF (xs vs : List Nat) (n : Nat) : Nat → Option Nat := UX (flipA (coef xs n)) (FX (coef xs n) (entry vs) n) n n
def l04D (xs vs : List Nat) (n : Nat) : List Nat × Bool := if (midL xs n n).any le0 then ([], false) else giveL (lst n (rtF xs vs n))
def rtD (r c : Int) (xs vs : List Nat) : List Nat × Bool := if uppB r c xs vs then l04D xs vs r.toNat else ([], false)
theorem rt_bad {r c : Int} {xs vs : List Nat} (h : uppB r c xs vs = false) : rtD r c xs vs = ([], false) := by simp [rtD, h]
theorem rt_good {r c : Int} {xs vs : List Nat} (h : uppB r c xs vs = true) : rtD r c xs vs = l04D xs vs r.toNat := by simp [rtD, h]
theorem l04_bad {xs vs : List Nat} {n i : Nat} (hi : i < n) (h : le0 (at_ xs n i i) = true) : l04D xs vs n = ([], false) := by
  unfold l04D
  rw [if_pos]
  cases hc : (midL xs n n).any le0 with
  | true => rfl
  | false => rw [midL_any.1 hc i hi] at h; cases h
theorem l04_good {xs vs : List Nat} {n : Nat} (h : ∀ i, i < n → le0 (at_ xs n i i) = false) : l04D xs vs n = giveL (lst n (rtF xs vs n)) := by
  unfold l04D
  rw [if_neg]
  rw [midL_any.2 h]
  simp

set_option maxRecDepth 20000 in
set_option maxHeartbeats 1000000 in
theorem rootS1_any (x : Nat) (w : World) :
    Calls Try.prog 161 #[.float .f32 x] w fun e w' => e = .returned (.bool (le0 x)) ∧ Ext w w' := by
  cases h1 : (FloatKind.f32.format.order x 0 == some .lt) <;> cases h2 : (FloatKind.f32.format.order x 0 == some .eq)
  all_goals
    go_enter Try.func161, Try.ntmps161
    go_wp2_with fail
    go_ret
    exact ⟨ret_bool (by unfold le0; rw [h1, h2]; rfl), Ext.refl _⟩

set_option maxRecDepth 20000 in
set_option maxHeartbeats 8000000 in
theorem implRootSolve_any (r c : Int) (A : Option Addr) (n cap : Nat) (B : Option Addr) (m cap' : Nat) (xs vs : List Nat) (w : World) (hr : Rds w A n (flts xs)) (hq : Rds w B m (flts vs)) :
    Calls Try.prog 89 #[.agg #[.int .i64 r, .int .i64 c, .slice A n cap], .slice B m cap'] w (RetLD w (rtD r c xs vs)) := by
  have HL := Lib.hid hr.flen
  have HL' := Lib.hid hq.flen
  have hsm := hq.small
  cases hv : isSq r c xs with
  | false =>
    have hd := rt_bad (r := r) (c := c) (xs := xs) (vs := vs) (by unfold uppB; rw [hv]; rfl)
    go_enter Try.func89, Try.ntmps89
    go_upto_region 1 with (fail)
    obtain ⟨w0, hw0⟩ : ∃ w0, w0 = (w.alloc (.cells #[.int .i64 r, .int .i64 c, .slice A n cap] 35)) := ⟨_, rfl⟩
    have hx0 : Ext w w0 := by subst hw0; exact (Ext.refl _).alloc _
    have ba : Blk w0 (w.heap.size) #[.int .i64 r, .int .i64 c, .slice A n cap] 35 := by subst hw0; exact (Blk.new w _ _)
    rw [← hw0]
    clear hw0
    obtain ⟨c0, c1, c2, hr1⟩ := MAt.blk ba (hr.below hx0)
    refine wp_region_T (cs := []) [0, 1, 2, 3, 4, 5, 6, 7, 8, 9, 10, 11, 12, 13, 14, 15, 16, 17, 18, 19] [] [1] [] (fun i__ v => match i__ with | 1 => v = (.bool false) | _ => False) (fun _ _ _ => True) (by kernel_rfl) (by kernel_rfl) (fun _ _ _ _ _ _ => trivial) ?_
    refine' wpT_det (o := ⟨some 10, Op.load 35 (Operand.tmp 2), 35, "l03_factors.go:362", #[], none⟩) rfl (by rfl) (by rfl) (fun w' hw' => ?_) ?_; rotate_left
    · have c0_ := Ext.cell hw' c0; have c1_ := Ext.cell hw' c1; have c2_ := Ext.cell hw' c2; go_simp <;> first | rfl | exact ⟨rfl, rfl⟩
    simp only [Act.put, List.setIfInBounds_toArray, List.set_cons_zero, List.set_cons_succ]
    refine wpT_nd (o := ⟨some 11, Op.call { callee := Callee.value (Operand.func 104), args := #[Operand.tmp 10], argTypes := #[35] }, 4, "l03_factors.go:362", #[{ on := 0, ground := Ground.data }], none⟩) rfl (by rfl) (by rfl) (fun w' hw' hF R__ hGo => ?_) ⟨_, rfl⟩ ?_
    · go_simp
      refine gives_enter rfl ?_
      refine (isSquare_any r c A n cap xs _ (hr1.below hw'.undrew)).mono ?_
      rintro e w2 ⟨rfl, hx⟩
      exact ⟨_, rfl, hGo _ _ hx (congrArg Value.bool hv) trivial⟩
    intro v hv
    obtain rfl : v = (.bool false) := hv
    simp only [Act.put, List.setIfInBounds_toArray, List.set_cons_zero, List.set_cons_succ]
    refine' wpT_det (o := ⟨some 12, Op.unOp UnOp.not 4 (Operand.tmp 11), 4, "l03_factors.go:362", #[{ on := 1, ground := Ground.data }], none⟩) rfl (by rfl) (by rfl) (fun w' hw' => ?_) ?_; rotate_left
    · go_simp <;> first | rfl | exact ⟨rfl, rfl⟩
    simp only [Act.put, List.setIfInBounds_toArray, List.set_cons_zero, List.set_cons_succ]
    refine' wpT_det (o := ⟨some 13, Op.move (Operand.tmp 12), 4, "l03_factors.go:362", #[{ on := 2, ground := Ground.data }, { on := 1, ground := Ground.chain }], none⟩) rfl (by rfl) (by rfl) (fun w' hw' => ?_) ?_; rotate_left
    · go_simp <;> first | rfl | exact ⟨rfl, rfl⟩
    simp only [Act.put, List.setIfInBounds_toArray, List.set_cons_zero, List.set_cons_succ]
    refine wpT_skip (o := ⟨some 14, Op.move (Operand.tmp 1), 22, "l03_factors.go:362", #[{ on := 3, ground := Ground.guard }], some (3, false)⟩) rfl (by rfl) ?_
    simp only [Act.put, List.setIfInBounds_toArray, List.set_cons_zero, List.set_cons_succ]
    refine wpT_skip (o := ⟨some 15, Op.call { callee := Callee.value (Operand.func 129), args := #[Operand.tmp 14], argTypes := #[22] }, 4, "l03_factors.go:362", #[{ on := 4, ground := Ground.data }, { on := 3, ground := Ground.chain }, { on := 3, ground := Ground.guard }], some (3, false)⟩) rfl (by rfl) ?_
    simp only [Act.put, List.setIfInBounds_toArray, List.set_cons_zero, List.set_cons_succ]
    refine wpT_skip (o := ⟨some 16, Op.unOp UnOp.not 4 (Operand.tmp 15), 4, "l03_factors.go:362", #[{ on := 5, ground := Ground.data }, { on := 3, ground := Ground.guard }], some (3, false)⟩) rfl (by rfl) ?_
    simp only [Act.put, List.setIfInBounds_toArray, List.set_cons_zero, List.set_cons_succ]
    refine' wpT_det (o := ⟨some 17, Op.pick (Operand.tmp 13) (Operand.const (Value.bool true)) (Operand.tmp 16), 4, "l03_factors.go:362", #[{ on := 3, ground := Ground.data }, { on := 6, ground := Ground.data }], none⟩) rfl (by rfl) (by rfl) (fun w' hw' => ?_) ?_; rotate_left
    · go_simp <;> first | rfl | exact ⟨rfl, rfl⟩
    simp only [Act.put, List.setIfInBounds_toArray, List.set_cons_zero, List.set_cons_succ]
    refine' wpT_det (o := ⟨some 18, Op.move (Operand.tmp 17), 4, "l03_factors.go:362", #[{ on := 7, ground := Ground.data }, { on := 5, ground := Ground.chain }], none⟩) rfl (by rfl) (by rfl) (fun w' hw' => ?_) ?_; rotate_left
    · go_simp <;> first | rfl | exact ⟨rfl, rfl⟩
    simp only [Act.put, List.setIfInBounds_toArray, List.set_cons_zero, List.set_cons_succ]
    refine wpT_skip (o := ⟨some 19, Op.move (Operand.tmp 1), 22, "l03_factors.go:362", #[{ on := 8, ground := Ground.guard }], some (8, false)⟩) rfl (by rfl) ?_
    simp only [Act.put, List.setIfInBounds_toArray, List.set_cons_zero, List.set_cons_succ]
    refine wpT_skip (o := ⟨some 20, Op.call { callee := Callee.value (Operand.func 101), args := #[Operand.tmp 19], argTypes := #[22] }, 2, "l03_factors.go:362", #[{ on := 9, ground := Ground.data }, { on := 8, ground := Ground.chain }, { on := 8, ground := Ground.guard }], some (8, false)⟩) rfl (by rfl) ?_
    simp only [Act.put, List.setIfInBounds_toArray, List.set_cons_zero, List.set_cons_succ]
    refine wpT_skip (o := ⟨some 21, Op.fieldAddr 35 (Operand.tmp 2) 0, 0, "l03_factors.go:362", #[{ on := 8, ground := Ground.guard }], some (8, false)⟩) rfl (by rfl) ?_
    simp only [Act.put, List.setIfInBounds_toArray, List.set_cons_zero, List.set_cons_succ]
    refine wpT_skip (o := ⟨some 22, Op.load 2 (Operand.tmp 21), 2, "l03_factors.go:362", #[{ on := 11, ground := Ground.data }, { on := 8, ground := Ground.guard }], some (8, false)⟩) rfl (by rfl) ?_
    simp only [Act.put, List.setIfInBounds_toArray, List.set_cons_zero, List.set_cons_succ]
    refine wpT_skip (o := ⟨some 23, Op.binOp BinOp.neq 2 (Operand.tmp 20) (Operand.tmp 22) 2, 4, "l03_factors.go:362", #[{ on := 10, ground := Ground.data }, { on := 12, ground := Ground.data }, { on := 8, ground := Ground.guard }], some (8, false)⟩) rfl (by rfl) ?_
    simp only [Act.put, List.setIfInBounds_toArray, List.set_cons_zero, List.set_cons_succ]
    refine' wpT_det (o := ⟨some 24, Op.pick (Operand.tmp 18) (Operand.const (Value.bool true)) (Operand.tmp 23), 4, "l03_factors.go:362", #[{ on := 8, ground := Ground.data }, { on := 13, ground := Ground.data }], none⟩) rfl (by rfl) (by rfl) (fun w' hw' => ?_) ?_; rotate_left
    · go_simp <;> first | rfl | exact ⟨rfl, rfl⟩
    simp only [Act.put, List.setIfInBounds_toArray, List.set_cons_zero, List.set_cons_succ]
    refine' wpT_det (o := ⟨some 25, Op.move (Operand.tmp 24), 4, "l03_factors.go:362", #[{ on := 14, ground := Ground.data }, { on := 10, ground := Ground.chain }], none⟩) rfl (by rfl) (by rfl) (fun w' hw' => ?_) ?_; rotate_left
    · go_simp <;> first | rfl | exact ⟨rfl, rfl⟩
    simp only [Act.put, List.setIfInBounds_toArray, List.set_cons_zero, List.set_cons_succ]
    refine wpT_skip (o := ⟨some 26, Op.load 35 (Operand.tmp 2), 35, "l03_factors.go:362", #[{ on := 15, ground := Ground.guard }], some (15, false)⟩) rfl (by rfl) ?_
    simp only [Act.put, List.setIfInBounds_toArray, List.set_cons_zero, List.set_cons_succ]
    refine wpT_skip (o := ⟨some 27, Op.call { callee := Callee.value (Operand.func 158), args := #[Operand.tmp 26], argTypes := #[35] }, 22, "l03_factors.go:362", #[{ on := 16, ground := Ground.data }, { on := 15, ground := Ground.chain }, { on := 15, ground := Ground.guard }], some (15, false)⟩) rfl (by rfl) ?_
    simp only [Act.put, List.setIfInBounds_toArray, List.set_cons_zero, List.set_cons_succ]
    refine wpT_skip (o := ⟨some 28, Op.call { callee := Callee.value (Operand.func 160), args := #[Operand.tmp 27, Operand.func 161], argTypes := #[22, 93] }, 4, "l03_factors.go:362", #[{ on := 17, ground := Ground.data }, { on := 17, ground := Ground.chain }, { on := 15, ground := Ground.guard }], some (15, false)⟩) rfl (by rfl) ?_
    simp only [Act.put, List.setIfInBounds_toArray, List.set_cons_zero, List.set_cons_succ]
    refine' wpT_det (o := ⟨some 29, Op.pick (Operand.tmp 25) (Operand.const (Value.bool true)) (Operand.tmp 28), 4, "l03_factors.go:362", #[{ on := 15, ground := Ground.data }, { on := 18, ground := Ground.data }], none⟩) rfl (by rfl) (by rfl) (fun w' hw' => ?_) ?_; rotate_left
    · go_simp <;> first | rfl | exact ⟨rfl, rfl⟩
    simp only [Act.put, List.setIfInBounds_toArray, List.set_cons_zero, List.set_cons_succ]
    refine wpT_nil (fun w1 hw' hF => ?_)
    refine wpList_nil ?_
    go_wp2_with fail
    go_ret2
    exact RetLDb.bad hd (hx0.trans hw'.undrew)
  | true =>
    obtain ⟨R, rfl, rfl, p1, p2, p5⟩ := sq_all hv
    cases hv' : isVec vs with
    | false =>
      have hd := rt_bad (r := R) (c := R) (xs := xs) (vs := vs) (by unfold uppB; rw [hv, hv']; rfl)
      clear p5
      go_enter Try.func89, Try.ntmps89
      go_upto_region 1 with (fail)
      obtain ⟨w0, hw0⟩ : ∃ w0, w0 = (w.alloc (.cells #[.int .i64 R, .int .i64 R, .slice A n cap] 35)) := ⟨_, rfl⟩
      have hx0 : Ext w w0 := by subst hw0; exact (Ext.refl _).alloc _
      have ba : Blk w0 (w.heap.size) #[.int .i64 R, .int .i64 R, .slice A n cap] 35 := by subst hw0; exact (Blk.new w _ _)
      rw [← hw0]
      clear hw0
      obtain ⟨c0, c1, c2, hr1⟩ := MAt.blk ba (hr.below hx0)
      refine wp_region_T (cs := []) [0, 1, 2, 3, 4, 5, 6, 7, 8, 9, 10, 11, 12, 13, 14, 15, 16, 17, 18, 19] [] [1, 5] [] (fun i__ v => match i__ with | 1 => v = (.bool true) | 5 => v = (.bool false) | _ => False) (fun _ _ _ => True) (by kernel_rfl) (by kernel_rfl) (fun _ _ _ _ _ _ => trivial) ?_
      refine' wpT_det (o := ⟨some 10, Op.load 35 (Operand.tmp 2), 35, "l03_factors.go:362", #[], none⟩) rfl (by rfl) (by rfl) (fun w' hw' => ?_) ?_; rotate_left
      · have c0_ := Ext.cell hw' c0; have c1_ := Ext.cell hw' c1; have c2_ := Ext.cell hw' c2; go_simp <;> first | rfl | exact ⟨rfl, rfl⟩
      simp only [Act.put, List.setIfInBounds_toArray, List.set_cons_zero, List.set_cons_succ]
      refine wpT_nd (o := ⟨some 11, Op.call { callee := Callee.value (Operand.func 104), args := #[Operand.tmp 10], argTypes := #[35] }, 4, "l03_factors.go:362", #[{ on := 0, ground := Ground.data }], none⟩) rfl (by rfl) (by rfl) (fun w' hw' hF R__ hGo => ?_) ⟨_, rfl⟩ ?_
      · go_simp
        refine gives_enter rfl ?_
        refine (isSquare_any _ _ A n cap xs _ (hr1.below hw'.undrew)).mono ?_
        rintro e w2 ⟨rfl, hx⟩
        exact ⟨_, rfl, hGo _ _ hx (congrArg Value.bool hv) trivial⟩
      intro v hv
      obtain rfl : v = (.bool true) := hv
      simp only [Act.put, List.setIfInBounds_toArray, List.set_cons_zero, List.set_cons_succ]
      refine' wpT_det (o := ⟨some 12, Op.unOp UnOp.not 4 (Operand.tmp 11), 4, "l03_factors.go:362", #[{ on := 1, ground := Ground.data }], none⟩) rfl (by rfl) (by rfl) (fun w' hw' => ?_) ?_; rotate_left
      · go_simp <;> first | rfl | exact ⟨rfl, rfl⟩
      simp only [Act.put, List.setIfInBounds_toArray, List.set_cons_zero, List.set_cons_succ]
      refine' wpT_det (o := ⟨some 13, Op.move (Operand.tmp 12), 4, "l03_factors.go:362", #[{ on := 2, ground := Ground.data }, { on := 1, ground := Ground.chain }], none⟩) rfl (by rfl) (by rfl) (fun w' hw' => ?_) ?_; rotate_left
      · go_simp <;> first | rfl | exact ⟨rfl, rfl⟩
      simp only [Act.put, List.setIfInBounds_toArray, List.set_cons_zero, List.set_cons_succ]
      refine' wpT_det (o := ⟨some 14, Op.move (Operand.tmp 1), 22, "l03_factors.go:362", #[{ on := 3, ground := Ground.guard }], some (3, false)⟩) rfl (by rfl) (by rfl) (fun w' hw' => ?_) ?_; rotate_left
      · go_simp <;> first | rfl | exact ⟨rfl, rfl⟩
      simp only [Act.put, List.setIfInBounds_toArray, List.set_cons_zero, List.set_cons_succ]
      refine wpT_nd (o := ⟨some 15, Op.call { callee := Callee.value (Operand.func 129), args := #[Operand.tmp 14], argTypes := #[22] }, 4, "l03_factors.go:362", #[{ on := 4, ground := Ground.data }, { on := 3, ground := Ground.chain }, { on := 3, ground := Ground.guard }], some (3, false)⟩) rfl (by rfl) (by rfl) (fun w' hw' hF R__ hGo => ?_) ⟨_, rfl⟩ ?_
      · go_simp
        refine gives_enter rfl ?_
        refine (IsVector_any B m cap' vs _ ((hq.below hx0).below hw'.undrew)).mono ?_
        rintro e w2 ⟨rfl, hx⟩
        exact ⟨_, rfl, hGo _ _ hx (congrArg Value.bool hv') trivial⟩
      intro v hv
      obtain rfl : v = (.bool false) := hv
      simp only [Act.put, List.setIfInBounds_toArray, List.set_cons_zero, List.set_cons_succ]
      refine' wpT_det (o := ⟨some 16, Op.unOp UnOp.not 4 (Operand.tmp 15), 4, "l03_factors.go:362", #[{ on := 5, ground := Ground.data }, { on := 3, ground := Ground.guard }], some (3, false)⟩) rfl (by rfl) (by rfl) (fun w' hw' => ?_) ?_; rotate_left
      · go_simp <;> first | rfl | exact ⟨rfl, rfl⟩
      simp only [Act.put, List.setIfInBounds_toArray, List.set_cons_zero, List.set_cons_succ]
      refine' wpT_det (o := ⟨some 17, Op.pick (Operand.tmp 13) (Operand.const (Value.bool true)) (Operand.tmp 16), 4, "l03_factors.go:362", #[{ on := 3, ground := Ground.data }, { on := 6, ground := Ground.data }], none⟩) rfl (by rfl) (by rfl) (fun w' hw' => ?_) ?_; rotate_left
      · go_simp <;> first | rfl | exact ⟨rfl, rfl⟩
      simp only [Act.put, List.setIfInBounds_toArray, List.set_cons_zero, List.set_cons_succ]
      refine' wpT_det (o := ⟨some 18, Op.move (Operand.tmp 17), 4, "l03_factors.go:362", #[{ on := 7, ground := Ground.data }, { on := 5, ground := Ground.chain }], none⟩) rfl (by rfl) (by rfl) (fun w' hw' => ?_) ?_; rotate_left
      · go_simp <;> first | rfl | exact ⟨rfl, rfl⟩
      simp only [Act.put, List.setIfInBounds_toArray, List.set_cons_zero, List.set_cons_succ]
      refine wpT_skip (o := ⟨some 19, Op.move (Operand.tmp 1), 22, "l03_factors.go:362", #[{ on := 8, ground := Ground.guard }], some (8, false)⟩) rfl (by rfl) ?_
      simp only [Act.put, List.setIfInBounds_toArray, List.set_cons_zero, List.set_cons_succ]
      refine wpT_skip (o := ⟨some 20, Op.call { callee := Callee.value (Operand.func 101), args := #[Operand.tmp 19], argTypes := #[22] }, 2, "l03_factors.go:362", #[{ on := 9, ground := Ground.data }, { on := 8, ground := Ground.chain }, { on := 8, ground := Ground.guard }], some (8, false)⟩) rfl (by rfl) ?_
      simp only [Act.put, List.setIfInBounds_toArray, List.set_cons_zero, List.set_cons_succ]
      refine wpT_skip (o := ⟨some 21, Op.fieldAddr 35 (Operand.tmp 2) 0, 0, "l03_factors.go:362", #[{ on := 8, ground := Ground.guard }], some (8, false)⟩) rfl (by rfl) ?_
      simp only [Act.put, List.setIfInBounds_toArray, List.set_cons_zero, List.set_cons_succ]
      refine wpT_skip (o := ⟨some 22, Op.load 2 (Operand.tmp 21), 2, "l03_factors.go:362", #[{ on := 11, ground := Ground.data }, { on := 8, ground := Ground.guard }], some (8, false)⟩) rfl (by rfl) ?_
      simp only [Act.put, List.setIfInBounds_toArray, List.set_cons_zero, List.set_cons_succ]
      refine wpT_skip (o := ⟨some 23, Op.binOp BinOp.neq 2 (Operand.tmp 20) (Operand.tmp 22) 2, 4, "l03_factors.go:362", #[{ on := 10, ground := Ground.data }, { on := 12, ground := Ground.data }, { on := 8, ground := Ground.guard }], some (8, false)⟩) rfl (by rfl) ?_
      simp only [Act.put, List.setIfInBounds_toArray, List.set_cons_zero, List.set_cons_succ]
      refine' wpT_det (o := ⟨some 24, Op.pick (Operand.tmp 18) (Operand.const (Value.bool true)) (Operand.tmp 23), 4, "l03_factors.go:362", #[{ on := 8, ground := Ground.data }, { on := 13, ground := Ground.data }], none⟩) rfl (by rfl) (by rfl) (fun w' hw' => ?_) ?_; rotate_left
      · go_simp <;> first | rfl | exact ⟨rfl, rfl⟩
      simp only [Act.put, List.setIfInBounds_toArray, List.set_cons_zero, List.set_cons_succ]
      refine' wpT_det (o := ⟨some 25, Op.move (Operand.tmp 24), 4, "l03_factors.go:362", #[{ on := 14, ground := Ground.data }, { on := 10, ground := Ground.chain }], none⟩) rfl (by rfl) (by rfl) (fun w' hw' => ?_) ?_; rotate_left
      · go_simp <;> first | rfl | exact ⟨rfl, rfl⟩
      simp only [Act.put, List.setIfInBounds_toArray, List.set_cons_zero, List.set_cons_succ]
      refine wpT_skip (o := ⟨some 26, Op.load 35 (Operand.tmp 2), 35, "l03_factors.go:362", #[{ on := 15, ground := Ground.guard }], some (15, false)⟩) rfl (by rfl) ?_
      simp only [Act.put, List.setIfInBounds_toArray, List.set_cons_zero, List.set_cons_succ]
      refine wpT_skip (o := ⟨some 27, Op.call { callee := Callee.value (Operand.func 158), args := #[Operand.tmp 26], argTypes := #[35] }, 22, "l03_factors.go:362", #[{ on := 16, ground := Ground.data }, { on := 15, ground := Ground.chain }, { on := 15, ground := Ground.guard }], some (15, false)⟩) rfl (by rfl) ?_
      simp only [Act.put, List.setIfInBounds_toArray, List.set_cons_zero, List.set_cons_succ]
      refine wpT_skip (o := ⟨some 28, Op.call { callee := Callee.value (Operand.func 160), args := #[Operand.tmp 27, Operand.func 161], argTypes := #[22, 93] }, 4, "l03_factors.go:362", #[{ on := 17, ground := Ground.data }, { on := 17, ground := Ground.chain }, { on := 15, ground := Ground.guard }], some (15, false)⟩) rfl (by rfl) ?_
      simp only [Act.put, List.setIfInBounds_toArray, List.set_cons_zero, List.set_cons_succ]
      refine' wpT_det (o := ⟨some 29, Op.pick (Operand.tmp 25) (Operand.const (Value.bool true)) (Operand.tmp 28), 4, "l03_factors.go:362", #[{ on := 15, ground := Ground.data }, { on := 18, ground := Ground.data }], none⟩) rfl (by rfl) (by rfl) (fun w' hw' => ?_) ?_; rotate_left
      · go_simp <;> first | rfl | exact ⟨rfl, rfl⟩
      simp only [Act.put, List.setIfInBounds_toArray, List.set_cons_zero, List.set_cons_succ]
      refine wpT_nil (fun w1 hw' hF => ?_)
      refine wpList_nil ?_
      go_wp2_with fail
      go_ret2
      exact RetLDb.bad hd (hx0.trans hw'.undrew)
    | true =>
      by_cases hc : m = R
      · have hc' : ((m : Int) != (R : Int)) = false := by simp [hc]
        have hb : uppB R R xs vs = true := by unfold uppB; rw [hv, hv', HL'.out, hc]; simp
        obtain rfl := hc
        have HD := Lib.hid (rt_good hb)
        have Hn : Hid (n = m * m) := by have := HL.out; show n = _; omega
        have HM : Hid (∀ (A3 : Option Addr) (k3 : Nat) (W : World), Rds W A3 m (flts (midL xs m m)) → Calls Try.prog 160 #[.slice A3 m k3, .func (.func 161) #[] #[]] W fun e w' => e = .returned (.bool ((midL xs m m).any le0)) ∧ Ext W w') :=
          fun A3 k3 W h => containsFuncF_any 161 #[] (enters_of Try.func161 (by kernel_rfl) rfl) A3 m k3 (midL xs m m) le0 W (fun x W' _ => rootS1_any x W') h
        cases hz : (midL xs m m).any le0 with
        | true =>
          have hd : rtD m m xs vs = ([], false) := by rw [HD.out]; show l04D xs vs m = _; unfold l04D; rw [hz]; rfl
          clear p5 hb
          go_enter Try.func89, Try.ntmps89
          go_upto_region 1 with (fail)
          obtain ⟨w0, hw0⟩ : ∃ w0, w0 = (w.alloc (.cells #[.int .i64 m, .int .i64 m, .slice A n cap] 35)) := ⟨_, rfl⟩
          have hx0 : Ext w w0 := by subst hw0; exact (Ext.refl _).alloc _
          have ba : Blk w0 (w.heap.size) #[.int .i64 m, .int .i64 m, .slice A n cap] 35 := by subst hw0; exact (Blk.new w _ _)
          rw [← hw0]
          clear hw0
          obtain ⟨c0, c1, c2, hr1⟩ := MAt.blk ba (hr.below hx0)
          refine wp_region_T (cs := []) [0, 1, 2, 3, 4, 5, 6, 7, 8, 9, 10, 11, 12, 13, 14, 15, 16, 17, 18, 19] [] [1, 5, 10, 17, 18] [(18, [17])] (fun i__ v => match i__ with | 1 => v = (.bool true) | 5 => v = (.bool true) | 10 => v = (.int .i64 m) | 17 => ∃ (A : Option Addr) (k : Nat), v = (.slice A m k) | 18 => v = (.bool true) | _ => False) (fun i__ v w' => match i__ with | 17 => OwnF w' w0.heap.size 39 v [] (flts (midL xs m m)) | _ => True) (by kernel_rfl) (by kernel_rfl) (by intro i v w' w2 h hx; revert h; (try dsimp only); split <;> intro h <;> first | trivial | exact OwnF.ext h hx) ?_
          refine' wpT_det (o := ⟨some 10, Op.load 35 (Operand.tmp 2), 35, "l03_factors.go:362", #[], none⟩) rfl (by rfl) (by rfl) (fun w' hw' => ?_) ?_; rotate_left
          · have c0_ := Ext.cell hw' c0; have c1_ := Ext.cell hw' c1; have c2_ := Ext.cell hw' c2; go_simp <;> first | rfl | exact ⟨rfl, rfl⟩
          simp only [Act.put, List.setIfInBounds_toArray, List.set_cons_zero, List.set_cons_succ]
          refine wpT_nd (o := ⟨some 11, Op.call { callee := Callee.value (Operand.func 104), args := #[Operand.tmp 10], argTypes := #[35] }, 4, "l03_factors.go:362", #[{ on := 0, ground := Ground.data }], none⟩) rfl (by rfl) (by rfl) (fun w' hw' hF R__ hGo => ?_) ⟨_, rfl⟩ ?_
          · go_simp
            refine gives_enter rfl ?_
            refine (isSquare_any _ _ A n cap xs _ (hr1.below hw'.undrew)).mono ?_
            rintro e w2 ⟨rfl, hx⟩
            exact ⟨_, rfl, hGo _ _ hx (congrArg Value.bool hv) trivial⟩
          intro v hv
          obtain rfl : v = (.bool true) := hv
          simp only [Act.put, List.setIfInBounds_toArray, List.set_cons_zero, List.set_cons_succ]
          refine' wpT_det (o := ⟨some 12, Op.unOp UnOp.not 4 (Operand.tmp 11), 4, "l03_factors.go:362", #[{ on := 1, ground := Ground.data }], none⟩) rfl (by rfl) (by rfl) (fun w' hw' => ?_) ?_; rotate_left
          · go_simp <;> first | rfl | exact ⟨rfl, rfl⟩
          simp only [Act.put, List.setIfInBounds_toArray, List.set_cons_zero, List.set_cons_succ]
          refine' wpT_det (o := ⟨some 13, Op.move (Operand.tmp 12), 4, "l03_factors.go:362", #[{ on := 2, ground := Ground.data }, { on := 1, ground := Ground.chain }], none⟩) rfl (by rfl) (by rfl) (fun w' hw' => ?_) ?_; rotate_left
          · go_simp <;> first | rfl | exact ⟨rfl, rfl⟩
          simp only [Act.put, List.setIfInBounds_toArray, List.set_cons_zero, List.set_cons_succ]
          refine' wpT_det (o := ⟨some 14, Op.move (Operand.tmp 1), 22, "l03_factors.go:362", #[{ on := 3, ground := Ground.guard }], some (3, false)⟩) rfl (by rfl) (by rfl) (fun w' hw' => ?_) ?_; rotate_left
          · go_simp <;> first | rfl | exact ⟨rfl, rfl⟩
          simp only [Act.put, List.setIfInBounds_toArray, List.set_cons_zero, List.set_cons_succ]
          refine wpT_nd (o := ⟨some 15, Op.call { callee := Callee.value (Operand.func 129), args := #[Operand.tmp 14], argTypes := #[22] }, 4, "l03_factors.go:362", #[{ on := 4, ground := Ground.data }, { on := 3, ground := Ground.chain }, { on := 3, ground := Ground.guard }], some (3, false)⟩) rfl (by rfl) (by rfl) (fun w' hw' hF R__ hGo => ?_) ⟨_, rfl⟩ ?_
          · go_simp
            refine gives_enter rfl ?_
            refine (IsVector_any B m cap' vs _ ((hq.below hx0).below hw'.undrew)).mono ?_
            rintro e w2 ⟨rfl, hx⟩
            exact ⟨_, rfl, hGo _ _ hx (congrArg Value.bool hv') trivial⟩
          intro v hv
          obtain rfl : v = (.bool true) := hv
          simp only [Act.put, List.setIfInBounds_toArray, List.set_cons_zero, List.set_cons_succ]
          refine' wpT_det (o := ⟨some 16, Op.unOp UnOp.not 4 (Operand.tmp 15), 4, "l03_factors.go:362", #[{ on := 5, ground := Ground.data }, { on := 3, ground := Ground.guard }], some (3, false)⟩) rfl (by rfl) (by rfl) (fun w' hw' => ?_) ?_; rotate_left
          · go_simp <;> first | rfl | exact ⟨rfl, rfl⟩
          simp only [Act.put, List.setIfInBounds_toArray, List.set_cons_zero, List.set_cons_succ]
          refine' wpT_det (o := ⟨some 17, Op.pick (Operand.tmp 13) (Operand.const (Value.bool true)) (Operand.tmp 16), 4, "l03_factors.go:362", #[{ on := 3, ground := Ground.data }, { on := 6, ground := Ground.data }], none⟩) rfl (by rfl) (by rfl) (fun w' hw' => ?_) ?_; rotate_left
          · go_simp <;> first | rfl | exact ⟨rfl, rfl⟩
          simp only [Act.put, List.setIfInBounds_toArray, List.set_cons_zero, List.set_cons_succ]
          refine' wpT_det (o := ⟨some 18, Op.move (Operand.tmp 17), 4, "l03_factors.go:362", #[{ on := 7, ground := Ground.data }, { on := 5, ground := Ground.chain }], none⟩) rfl (by rfl) (by rfl) (fun w' hw' => ?_) ?_; rotate_left
          · go_simp <;> first | rfl | exact ⟨rfl, rfl⟩
          simp only [Act.put, List.setIfInBounds_toArray, List.set_cons_zero, List.set_cons_succ]
          refine' wpT_det (o := ⟨some 19, Op.move (Operand.tmp 1), 22, "l03_factors.go:362", #[{ on := 8, ground := Ground.guard }], some (8, false)⟩) rfl (by rfl) (by rfl) (fun w' hw' => ?_) ?_; rotate_left
          · go_simp <;> first | rfl | exact ⟨rfl, rfl⟩
          simp only [Act.put, List.setIfInBounds_toArray, List.set_cons_zero, List.set_cons_succ]
          refine wpT_nd (o := ⟨some 20, Op.call { callee := Callee.value (Operand.func 101), args := #[Operand.tmp 19], argTypes := #[22] }, 2, "l03_factors.go:362", #[{ on := 9, ground := Ground.data }, { on := 8, ground := Ground.chain }, { on := 8, ground := Ground.guard }], some (8, false)⟩) rfl (by rfl) (by rfl) (fun w' hw' hF R__ hGo => ?_) ⟨_, rfl⟩ ?_
          · go_simp
            refine gives_enter rfl ?_
            refine (lengthF_any _ _ _ hsm _).mono ?_
            rintro e w2 ⟨rfl, rfl⟩
            exact ⟨_, rfl, hGo _ _ (Ext.refl _) rfl trivial⟩
          intro v hv
          obtain rfl : v = (.int .i64 m) := hv
          simp only [Act.put, List.setIfInBounds_toArray, List.set_cons_zero, List.set_cons_succ]
          refine' wpT_det (o := ⟨some 21, Op.fieldAddr 35 (Operand.tmp 2) 0, 0, "l03_factors.go:362", #[{ on := 8, ground := Ground.guard }], some (8, false)⟩) rfl (by rfl) (by rfl) (fun w' hw' => ?_) ?_; rotate_left
          · go_simp <;> first | rfl | exact ⟨rfl, rfl⟩
          simp only [Act.put, List.setIfInBounds_toArray, List.set_cons_zero, List.set_cons_succ]
          refine' wpT_det (o := ⟨some 22, Op.load 2 (Operand.tmp 21), 2, "l03_factors.go:362", #[{ on := 11, ground := Ground.data }, { on := 8, ground := Ground.guard }], some (8, false)⟩) rfl (by rfl) (by rfl) (fun w' hw' => ?_) ?_; rotate_left
          · have c0_ := Ext.cell hw' c0; have c1_ := Ext.cell hw' c1; have c2_ := Ext.cell hw' c2; go_simp <;> first | rfl | exact ⟨rfl, rfl⟩
          simp only [Act.put, List.setIfInBounds_toArray, List.set_cons_zero, List.set_cons_succ]
          refine' wpT_det (o := ⟨some 23, Op.binOp BinOp.neq 2 (Operand.tmp 20) (Operand.tmp 22) 2, 4, "l03_factors.go:362", #[{ on := 10, ground := Ground.data }, { on := 12, ground := Ground.data }, { on := 8, ground := Ground.guard }], some (8, false)⟩) rfl (by rfl) (by rfl) (fun w' hw' => ?_) ?_; rotate_left
          · go_simp <;> first | rfl | exact ⟨rfl, rfl⟩
          simp only [Act.put, List.setIfInBounds_toArray, List.set_cons_zero, List.set_cons_succ]
          refine' wpT_det (o := ⟨some 24, Op.pick (Operand.tmp 18) (Operand.const (Value.bool true)) (Operand.tmp 23), 4, "l03_factors.go:362", #[{ on := 8, ground := Ground.data }, { on := 13, ground := Ground.data }], none⟩) rfl (by rfl) (by rfl) (fun w' hw' => ?_) ?_; rotate_left
          · go_simp <;> first | rfl | exact ⟨rfl, rfl⟩
          simp only [Act.put, List.setIfInBounds_toArray, List.set_cons_zero, List.set_cons_succ]
          refine' wpT_det (o := ⟨some 25, Op.move (Operand.tmp 24), 4, "l03_factors.go:362", #[{ on := 14, ground := Ground.data }, { on := 10, ground := Ground.chain }], none⟩) rfl (by rfl) (by rfl) (fun w' hw' => ?_) ?_; rotate_left
          · go_simp <;> first | rfl | exact ⟨rfl, rfl⟩
          simp only [Act.put, List.setIfInBounds_toArray, List.set_cons_zero, List.set_cons_succ]
          refine' wpT_det (o := ⟨some 26, Op.load 35 (Operand.tmp 2), 35, "l03_factors.go:362", #[{ on := 15, ground := Ground.guard }], some (15, false)⟩) rfl (by rfl) (by rfl) (fun w' hw' => ?_) ?_; rotate_left
          · have c0_ := Ext.cell hw' c0; have c1_ := Ext.cell hw' c1; have c2_ := Ext.cell hw' c2; go_simp <;> first | rfl | exact ⟨rfl, rfl⟩
          simp only [Act.put, List.setIfInBounds_toArray, List.set_cons_zero, List.set_cons_succ]
          refine wpT_nd (o := ⟨some 27, Op.call { callee := Callee.value (Operand.func 158), args := #[Operand.tmp 26], argTypes := #[35] }, 22, "l03_factors.go:362", #[{ on := 16, ground := Ground.data }, { on := 15, ground := Ground.chain }, { on := 15, ground := Ground.guard }], some (15, false)⟩) rfl (by rfl) (by rfl) (fun w' hw' hF R__ hGo => ?_) ⟨_, none, 0, rfl⟩ ?_
          · go_simp
            refine gives_enter rfl ?_
            refine (middle_any m n cap A xs _ p2 Hn.out (hr1.below hw'.undrew)).mono ?_
            rintro e w2 ⟨A3, k3, rfl, o3, hx⟩
            exact ⟨_, rfl, hGo _ _ hx ⟨_, _, rfl⟩ (OwnF.of (o3.base hw'.size) rfl)⟩
          rintro _ ⟨A3, k3, rfl⟩
          simp only [Act.put, List.setIfInBounds_toArray, List.set_cons_zero, List.set_cons_succ]
          refine wpT_nd (o := ⟨some 28, Op.call { callee := Callee.value (Operand.func 160), args := #[Operand.tmp 27, Operand.func 161], argTypes := #[22, 93] }, 4, "l03_factors.go:362", #[{ on := 17, ground := Ground.data }, { on := 17, ground := Ground.chain }, { on := 15, ground := Ground.guard }], some (15, false)⟩) rfl (by rfl) (by rfl) (fun w' hw' hF R__ hGo => ?_) ⟨_, rfl⟩ ?_
          · go_simp
            refine gives_enter rfl ?_
            refine (HM.out A3 k3 _ ((hF 17 (by simp [uses]) _ rfl) _ _ _ rfl).reads).mono ?_
            rintro e w2 ⟨rfl, hx⟩
            exact ⟨_, rfl, hGo _ _ hx (congrArg Value.bool hz) trivial⟩
          intro v hv
          obtain rfl : v = (.bool true) := hv
          simp only [Act.put, List.setIfInBounds_toArray, List.set_cons_zero, List.set_cons_succ]
          refine' wpT_det (o := ⟨some 29, Op.pick (Operand.tmp 25) (Operand.const (Value.bool true)) (Operand.tmp 28), 4, "l03_factors.go:362", #[{ on := 15, ground := Ground.data }, { on := 18, ground := Ground.data }], none⟩) rfl (by rfl) (by rfl) (fun w' hw' => ?_) ?_; rotate_left
          · go_simp <;> first | rfl | exact ⟨rfl, rfl⟩
          simp only [Act.put, List.setIfInBounds_toArray, List.set_cons_zero, List.set_cons_succ]
          refine wpT_nil (fun w1 hw' hF => ?_)
          refine wpList_nil ?_
          go_wp2_with fail
          go_ret2
          exact RetLDb.bad hd (hx0.trans hw'.undrew)
        | false =>
          obtain ⟨d, hd⟩ : ∃ d, d = rtD m m xs vs := ⟨_, rfl⟩
          have hd2 : giveL (lst m (rtF xs vs m)) = d := by rw [hd, HD.out]; show _ = l04D xs vs m; unfold l04D; rw [hz]; rfl
          have HD2 := Lib.hid hd2
          obtain ⟨F, hF0⟩ : ∃ F, F = FX (coef xs m) (entry vs) := ⟨_, rfl⟩
          obtain ⟨U, hU0⟩ : ∃ U, U = UX (flipA (coef xs m)) (F m) m := ⟨_, rfl⟩
          have HF0 := Lib.hid hF0
          have HU0 := Lib.hid hU0
          have H00 : Hid (cfs vs = lst m (F 0)) := by show _ = _; rw [hF0, cfs_lst, HL'.out]; rfl
          rw [← hd]
          clear hd hd2 hb p5 hF0 hU0
          obtain ⟨av, hav, _⟩ := hq.fltN 0 (by omega)
          go_enter Try.func89, Try.ntmps89
          go_upto_region 1 with (fail)
          obtain ⟨w0, hw0⟩ : ∃ w0, w0 = (w.alloc (.cells #[.int .i64 m, .int .i64 m, .slice A n cap] 35)) := ⟨_, rfl⟩
          have hx0 : Ext w w0 := by subst hw0; exact (Ext.refl _).alloc _
          have ba : Blk w0 (w.heap.size) #[.int .i64 m, .int .i64 m, .slice A n cap] 35 := by subst hw0; exact (Blk.new w _ _)
          rw [← hw0]
          clear hw0
          obtain ⟨c0, c1, c2, hr1⟩ := MAt.blk ba (hr.below hx0)
          subst hav
          refine wp_region_T (cs := []) [0, 1, 2, 3, 4, 5, 6, 7, 8, 9, 10, 11, 12, 13, 14, 15, 16, 17, 18, 19] [] [1, 5, 10, 17, 18] [(18, [17])] (fun i__ v => match i__ with | 1 => v = (.bool true) | 5 => v = (.bool true) | 10 => v = (.int .i64 m) | 17 => ∃ (A : Option Addr) (k : Nat), v = (.slice A m k) | 18 => v = (.bool false) | _ => False) (fun i__ v w' => match i__ with | 17 => OwnF w' w0.heap.size 39 v [] (flts (midL xs m m)) | _ => True) (by kernel_rfl) (by kernel_rfl) (by intro i v w' w2 h hx; revert h; (try dsimp only); split <;> intro h <;> first | trivial | exact OwnF.ext h hx) ?_
          refine' wpT_det (o := ⟨some 10, Op.load 35 (Operand.tmp 2), 35, "l03_factors.go:362", #[], none⟩) rfl (by rfl) (by rfl) (fun w' hw' => ?_) ?_; rotate_left
          · have c0_ := Ext.cell hw' c0; have c1_ := Ext.cell hw' c1; have c2_ := Ext.cell hw' c2; go_simp <;> first | rfl | exact ⟨rfl, rfl⟩
          simp only [Act.put, List.setIfInBounds_toArray, List.set_cons_zero, List.set_cons_succ]
          refine wpT_nd (o := ⟨some 11, Op.call { callee := Callee.value (Operand.func 104), args := #[Operand.tmp 10], argTypes := #[35] }, 4, "l03_factors.go:362", #[{ on := 0, ground := Ground.data }], none⟩) rfl (by rfl) (by rfl) (fun w' hw' hF R__ hGo => ?_) ⟨_, rfl⟩ ?_
          · go_simp
            refine gives_enter rfl ?_
            refine (isSquare_any _ _ A n cap xs _ (hr1.below hw'.undrew)).mono ?_
            rintro e w2 ⟨rfl, hx⟩
            exact ⟨_, rfl, hGo _ _ hx (congrArg Value.bool hv) trivial⟩
          intro v hv
          obtain rfl : v = (.bool true) := hv
          simp only [Act.put, List.setIfInBounds_toArray, List.set_cons_zero, List.set_cons_succ]
          refine' wpT_det (o := ⟨some 12, Op.unOp UnOp.not 4 (Operand.tmp 11), 4, "l03_factors.go:362", #[{ on := 1, ground := Ground.data }], none⟩) rfl (by rfl) (by rfl) (fun w' hw' => ?_) ?_; rotate_left
          · go_simp <;> first | rfl | exact ⟨rfl, rfl⟩
          simp only [Act.put, List.setIfInBounds_toArray, List.set_cons_zero, List.set_cons_succ]
          refine' wpT_det (o := ⟨some 13, Op.move (Operand.tmp 12), 4, "l03_factors.go:362", #[{ on := 2, ground := Ground.data }, { on := 1, ground := Ground.chain }], none⟩) rfl (by rfl) (by rfl) (fun w' hw' => ?_) ?_; rotate_left
          · go_simp <;> first | rfl | exact ⟨rfl, rfl⟩
          simp only [Act.put, List.setIfInBounds_toArray, List.set_cons_zero, List.set_cons_succ]
          refine' wpT_det (o := ⟨some 14, Op.move (Operand.tmp 1), 22, "l03_factors.go:362", #[{ on := 3, ground := Ground.guard }], some (3, false)⟩) rfl (by rfl) (by rfl) (fun w' hw' => ?_) ?_; rotate_left
          · go_simp <;> first | rfl | exact ⟨rfl, rfl⟩
          simp only [Act.put, List.setIfInBounds_toArray, List.set_cons_zero, List.set_cons_succ]
          refine wpT_nd (o := ⟨some 15, Op.call { callee := Callee.value (Operand.func 129), args := #[Operand.tmp 14], argTypes := #[22] }, 4, "l03_factors.go:362", #[{ on := 4, ground := Ground.data }, { on := 3, ground := Ground.chain }, { on := 3, ground := Ground.guard }], some (3, false)⟩) rfl (by rfl) (by rfl) (fun w' hw' hF R__ hGo => ?_) ⟨_, rfl⟩ ?_
          · go_simp
            refine gives_enter rfl ?_
            refine (IsVector_any _ m cap' vs _ ((hq.below hx0).below hw'.undrew)).mono ?_
            rintro e w2 ⟨rfl, hx⟩
            exact ⟨_, rfl, hGo _ _ hx (congrArg Value.bool hv') trivial⟩
          intro v hv
          obtain rfl : v = (.bool true) := hv
          simp only [Act.put, List.setIfInBounds_toArray, List.set_cons_zero, List.set_cons_succ]
          refine' wpT_det (o := ⟨some 16, Op.unOp UnOp.not 4 (Operand.tmp 15), 4, "l03_factors.go:362", #[{ on := 5, ground := Ground.data }, { on := 3, ground := Ground.guard }], some (3, false)⟩) rfl (by rfl) (by rfl) (fun w' hw' => ?_) ?_; rotate_left
          · go_simp <;> first | rfl | exact ⟨rfl, rfl⟩
          simp only [Act.put, List.setIfInBounds_toArray, List.set_cons_zero, List.set_cons_succ]
          refine' wpT_det (o := ⟨some 17, Op.pick (Operand.tmp 13) (Operand.const (Value.bool true)) (Operand.tmp 16), 4, "l03_factors.go:362", #[{ on := 3, ground := Ground.data }, { on := 6, ground := Ground.data }], none⟩) rfl (by rfl) (by rfl) (fun w' hw' => ?_) ?_; rotate_left
          · go_simp <;> first | rfl | exact ⟨rfl, rfl⟩
          simp only [Act.put, List.setIfInBounds_toArray, List.set_cons_zero, List.set_cons_succ]
          refine' wpT_det (o := ⟨some 18, Op.move (Operand.tmp 17), 4, "l03_factors.go:362", #[{ on := 7, ground := Ground.data }, { on := 5, ground := Ground.chain }], none⟩) rfl (by rfl) (by rfl) (fun w' hw' => ?_) ?_; rotate_left
          · go_simp <;> first | rfl | exact ⟨rfl, rfl⟩
          simp only [Act.put, List.setIfInBounds_toArray, List.set_cons_zero, List.set_cons_succ]
          refine' wpT_det (o := ⟨some 19, Op.move (Operand.tmp 1), 22, "l03_factors.go:362", #[{ on := 8, ground := Ground.guard }], some (8, false)⟩) rfl (by rfl) (by rfl) (fun w' hw' => ?_) ?_; rotate_left
          · go_simp <;> first | rfl | exact ⟨rfl, rfl⟩
          simp only [Act.put, List.setIfInBounds_toArray, List.set_cons_zero, List.set_cons_succ]
          refine wpT_nd (o := ⟨some 20, Op.call { callee := Callee.value (Operand.func 101), args := #[Operand.tmp 19], argTypes := #[22] }, 2, "l03_factors.go:362", #[{ on := 9, ground := Ground.data }, { on := 8, ground := Ground.chain }, { on := 8, ground := Ground.guard }], some (8, false)⟩) rfl (by rfl) (by rfl) (fun w' hw' hF R__ hGo => ?_) ⟨_, rfl⟩ ?_
          · go_simp
            refine gives_enter rfl ?_
            refine (lengthF_any _ _ _ hsm _).mono ?_
            rintro e w2 ⟨rfl, rfl⟩
            exact ⟨_, rfl, hGo _ _ (Ext.refl _) rfl trivial⟩
          intro v hv
          obtain rfl : v = (.int .i64 m) := hv
          simp only [Act.put, List.setIfInBounds_toArray, List.set_cons_zero, List.set_cons_succ]
          refine' wpT_det (o := ⟨some 21, Op.fieldAddr 35 (Operand.tmp 2) 0, 0, "l03_factors.go:362", #[{ on := 8, ground := Ground.guard }], some (8, false)⟩) rfl (by rfl) (by rfl) (fun w' hw' => ?_) ?_; rotate_left
          · go_simp <;> first | rfl | exact ⟨rfl, rfl⟩
          simp only [Act.put, List.setIfInBounds_toArray, List.set_cons_zero, List.set_cons_succ]
          refine' wpT_det (o := ⟨some 22, Op.load 2 (Operand.tmp 21), 2, "l03_factors.go:362", #[{ on := 11, ground := Ground.data }, { on := 8, ground := Ground.guard }], some (8, false)⟩) rfl (by rfl) (by rfl) (fun w' hw' => ?_) ?_; rotate_left
          · have c0_ := Ext.cell hw' c0; have c1_ := Ext.cell hw' c1; have c2_ := Ext.cell hw' c2; go_simp <;> first | rfl | exact ⟨rfl, rfl⟩
          simp only [Act.put, List.setIfInBounds_toArray, List.set_cons_zero, List.set_cons_succ]
          refine' wpT_det (o := ⟨some 23, Op.binOp BinOp.neq 2 (Operand.tmp 20) (Operand.tmp 22) 2, 4, "l03_factors.go:362", #[{ on := 10, ground := Ground.data }, { on := 12, ground := Ground.data }, { on := 8, ground := Ground.guard }], some (8, false)⟩) rfl (by rfl) (by rfl) (fun w' hw' => ?_) ?_; rotate_left
          · go_simp <;> first | rfl | exact ⟨rfl, rfl⟩
          simp only [Act.put, List.setIfInBounds_toArray, List.set_cons_zero, List.set_cons_succ]
          refine' wpT_det (o := ⟨some 24, Op.pick (Operand.tmp 18) (Operand.const (Value.bool true)) (Operand.tmp 23), 4, "l03_factors.go:362", #[{ on := 8, ground := Ground.data }, { on := 13, ground := Ground.data }], none⟩) rfl (by rfl) (by rfl) (fun w' hw' => ?_) ?_; rotate_left
          · go_simp <;> first | rfl | exact ⟨rfl, rfl⟩
          simp only [Act.put, List.setIfInBounds_toArray, List.set_cons_zero, List.set_cons_succ]
          refine' wpT_det (o := ⟨some 25, Op.move (Operand.tmp 24), 4, "l03_factors.go:362", #[{ on := 14, ground := Ground.data }, { on := 10, ground := Ground.chain }], none⟩) rfl (by rfl) (by rfl) (fun w' hw' => ?_) ?_; rotate_left
          · go_simp <;> first | rfl | exact ⟨rfl, rfl⟩
          simp only [Act.put, List.setIfInBounds_toArray, List.set_cons_zero, List.set_cons_succ]
          refine' wpT_det (o := ⟨some 26, Op.load 35 (Operand.tmp 2), 35, "l03_factors.go:362", #[{ on := 15, ground := Ground.guard }], some (15, false)⟩) rfl (by rfl) (by rfl) (fun w' hw' => ?_) ?_; rotate_left
          · have c0_ := Ext.cell hw' c0; have c1_ := Ext.cell hw' c1; have c2_ := Ext.cell hw' c2; go_simp <;> first | rfl | exact ⟨rfl, rfl⟩
          simp only [Act.put, List.setIfInBounds_toArray, List.set_cons_zero, List.set_cons_succ]
          refine wpT_nd (o := ⟨some 27, Op.call { callee := Callee.value (Operand.func 158), args := #[Operand.tmp 26], argTypes := #[35] }, 22, "l03_factors.go:362", #[{ on := 16, ground := Ground.data }, { on := 15, ground := Ground.chain }, { on := 15, ground := Ground.guard }], some (15, false)⟩) rfl (by rfl) (by rfl) (fun w' hw' hF R__ hGo => ?_) ⟨_, none, 0, rfl⟩ ?_
          · go_simp
            refine gives_enter rfl ?_
            refine (middle_any m n cap A xs _ p2 Hn.out (hr1.below hw'.undrew)).mono ?_
            rintro e w2 ⟨A3, k3, rfl, o3, hx⟩
            exact ⟨_, rfl, hGo _ _ hx ⟨_, _, rfl⟩ (OwnF.of (o3.base hw'.size) rfl)⟩
          rintro _ ⟨A3, k3, rfl⟩
          simp only [Act.put, List.setIfInBounds_toArray, List.set_cons_zero, List.set_cons_succ]
          refine wpT_nd (o := ⟨some 28, Op.call { callee := Callee.value (Operand.func 160), args := #[Operand.tmp 27, Operand.func 161], argTypes := #[22, 93] }, 4, "l03_factors.go:362", #[{ on := 17, ground := Ground.data }, { on := 17, ground := Ground.chain }, { on := 15, ground := Ground.guard }], some (15, false)⟩) rfl (by rfl) (by rfl) (fun w' hw' hF R__ hGo => ?_) ⟨_, rfl⟩ ?_
          · go_simp
            refine gives_enter rfl ?_
            refine (HM.out A3 k3 _ ((hF 17 (by simp [uses]) _ rfl) _ _ _ rfl).reads).mono ?_
            rintro e w2 ⟨rfl, hx⟩
            exact ⟨_, rfl, hGo _ _ hx (congrArg Value.bool hz) trivial⟩
          intro v hv
          obtain rfl : v = (.bool false) := hv
          simp only [Act.put, List.setIfInBounds_toArray, List.set_cons_zero, List.set_cons_succ]
          refine' wpT_det (o := ⟨some 29, Op.pick (Operand.tmp 25) (Operand.const (Value.bool true)) (Operand.tmp 28), 4, "l03_factors.go:362", #[{ on := 15, ground := Ground.data }, { on := 18, ground := Ground.data }], none⟩) rfl (by rfl) (by rfl) (fun w' hw' => ?_) ?_; rotate_left
          · go_simp <;> first | rfl | exact ⟨rfl, rfl⟩
          simp only [Act.put, List.setIfInBounds_toArray, List.set_cons_zero, List.set_cons_succ]
          refine wpT_nil (fun w1 hw' hF => ?_)
          refine wpList_nil ?_
          replace ba := ba.ext hw'.undrew
          replace hx0 := hx0.trans hw'.undrew
          clear c0 c1 c2 hr1 hF hw'
          have c0 := ba.cell 0 rfl
          go_upto_region 3 with (fail)
          refine wp_region_T (cs := []) [0, 1, 2, 3] [4, 5] [3] [] (fun i__ v => match i__ with | 3 => ∃ (A : Option Addr) (k : Nat), v = (.slice A m k) | _ => False) (fun i__ v w' => match i__ with | 3 => OwnF w' w1.heap.size 39 v [] (flts vs) | _ => True) (by kernel_rfl) (by kernel_rfl) (by intro i v w' w2 h hx; revert h; (try dsimp only); split <;> intro h <;> first | trivial | exact OwnF.ext h hx) ?_
          refine' wpT_det (o := ⟨some 30, Op.fieldAddr 35 (Operand.tmp 2) 0, 0, "l03_factors.go:365", #[], none⟩) rfl (by rfl) (by rfl) (fun w' hw' => ?_) ?_; rotate_left
          · go_simp <;> first | rfl | exact ⟨rfl, rfl⟩
          simp only [Act.put, List.setIfInBounds_toArray, List.set_cons_zero, List.set_cons_succ]
          refine' wpT_det (o := ⟨some 31, Op.load 2 (Operand.tmp 30), 2, "l03_factors.go:365", #[{ on := 0, ground := Ground.data }], none⟩) rfl (by rfl) (by rfl) (fun w' hw' => ?_) ?_; rotate_left
          · have c0_ := Ext.cell hw' c0; go_simp <;> first | rfl | exact ⟨rfl, rfl⟩
          simp only [Act.put, List.setIfInBounds_toArray, List.set_cons_zero, List.set_cons_succ]
          refine' wpT_det (o := ⟨some 32, Op.move (Operand.tmp 1), 22, "l03_factors.go:365", #[], none⟩) rfl (by rfl) (by rfl) (fun w' hw' => ?_) ?_; rotate_left
          · go_simp <;> first | rfl | exact ⟨rfl, rfl⟩
          simp only [Act.put, List.setIfInBounds_toArray, List.set_cons_zero, List.set_cons_succ]
          refine wpT_nd (o := ⟨some 33, Op.call { callee := Callee.value (Operand.func 147), args := #[Operand.tmp 32], argTypes := #[22] }, 22, "l03_factors.go:365", #[{ on := 2, ground := Ground.data }], none⟩) rfl (by rfl) (by rfl) (fun w' hw' hF R__ hGo => ?_) ⟨_, none, 0, rfl⟩ ?_
          · go_simp
            refine gives_enter rfl ?_
            refine (clone_any av m cap' vs _ ((hq.below hx0).below hw'.undrew) (by omega)).mono ?_
            rintro e w2 ⟨A5, k5, rfl, o5, hx⟩
            exact ⟨_, rfl, hGo _ _ hx ⟨_, _, rfl⟩ (OwnF.of (o5.base hw'.size) rfl)⟩
          rintro _ ⟨A5, k5, rfl⟩
          simp only [Act.put, List.setIfInBounds_toArray, List.set_cons_zero, List.set_cons_succ]
          refine wpT_nil (fun w2 hw' hF => ?_)
          show wpList _ _ _ [(⟨some 6, Op.assign (Operand.tmp 31), 2, "l03_factors.go:365", #[{ on := 1, ground := Ground.data }, { on := 3, ground := Ground.chain }, { on := 0, ground := Ground.phase }, { on := 1, ground := Ground.phase }, { on := 2, ground := Ground.textOnly Departure.lateStores }, { on := 3, ground := Ground.textOnly Departure.lateStoresUnsure }], none⟩ : Oper), (⟨some 7, Op.assign (Operand.tmp 33), 22, "l03_factors.go:365", #[{ on := 3, ground := Ground.data }, { on := 4, ground := Ground.chain }, { on := 0, ground := Ground.phase }, { on := 1, ground := Ground.phase }, { on := 2, ground := Ground.phase }, { on := 3, ground := Ground.phase }, { on := 4, ground := Ground.phase }], none⟩ : Oper)] _ _
          have o5 : Own w2 w1.heap.size 39 (.slice A5 m k5) (flts vs) := (hF 3 _ rfl) _ _ _ rfl
          obtain ⟨g, rfl, _⟩ := o5.head (by omega)
          have o := o5.base hx0.size
          replace ba := ba.ext hw'.undrew
          replace hx0 := hx0.trans hw'.undrew
          clear hF hw' c0 o5
          have g0 : IntKind.i64.wrap ((m : Int) - 1) = (m : Int) - 1 := IntWalk.i64_in _ (by omega)
          go_wp2_with fail
          go_loopw [35] (fun v wr => ∃ i : Nat, i ≤ m ∧ v = .int .i64 i ∧ ∃ ys, cfs ys = lst m (F i) ∧ Own wr w.heap.size 39 (.slice (some ⟨g, 0, none⟩) m k5) (flts ys) ∧ Ext w wr ∧ Blk wr w.heap.size #[.int .i64 m, .int .i64 m, .slice A n cap] 35) (fun v _ => m - (intOf v).toNat)
          case atStart => exact ⟨0, Nat.zero_le _, rfl, vs, H00.out, o, hx0, ba⟩
          case round =>
            clear o hx0 ba
            obtain ⟨i, hi, rfl, ys, hy, o, hx0, ba⟩ := hrel
            by_cases hlt : i < m
            · obtain ⟨c0, c1, c2, hr1⟩ := MAt.blk ba (hr.below hx0)
              have hyi : c32 (rdf ys i) = F i i := lst_at hy hlt
              have hless : Hid (lessF (fun k => c32 (at_ xs m i k)) (fun k => c32 (rdf ys k)) (c32 (rdf ys i)) 0 i = lessF (coef xs m i) (F i) (F i i) 0 i) := by
                show _ = _
                rw [hyi]
                exact lessF_congr (fun k h1 h2 => ⟨rfl, lst_at hy (by omega)⟩)
              obtain ⟨hcell, hfree⟩ := o.at_ i hlt
              have hyl : ys.length = m := o.reads.flen
              rw [flts_get (by omega)] at hcell
              clear hyi
              go_upto_region 7 with (fail)
              refine wp_region_T (cs := []) [0, 1, 2, 3, 4, 5, 6, 7, 8, 9, 10, 11, 12, 13, 14, 15] [16, 17] [10, 14, 15] [] (fun i__ v => match i__ with | 10 => ∃ r, v = .float .f32 r ∧ c32 r = (lessF (fun k => c32 (at_ xs m i k)) (fun k => c32 (rdf ys k)) (c32 (rdf ys i)) 0 i) | 14 => v = (.float .f32 (at_ xs m i i)) | 15 => ∃ r, v = .float .f32 r ∧ c32 r = (fdiv (lessF (fun k => c32 (at_ xs m i k)) (fun k => c32 (rdf ys k)) (c32 (rdf ys i)) 0 i) (c32 (at_ xs m i i))) | _ => False) (fun _ _ _ => True) (by kernel_rfl) (by kernel_rfl) (fun _ _ _ _ _ _ => trivial) ?_
              refine' wpT_det (o := ⟨some 38, Op.move (Operand.tmp 7), 22, "l03_factors.go:367", #[], none⟩) rfl (by rfl) (by rfl) (fun w' hw' => ?_) ?_; rotate_left
              · go_simp <;> first | rfl | exact ⟨rfl, rfl⟩
              simp only [Act.put, List.setIfInBounds_toArray, List.set_cons_zero, List.set_cons_succ]
              refine' wpT_det (o := ⟨some 39, Op.move (Operand.tmp 8), 2, "l03_factors.go:367", #[], none⟩) rfl (by rfl) (by rfl) (fun w' hw' => ?_) ?_; rotate_left
              · go_simp <;> first | rfl | exact ⟨rfl, rfl⟩
              simp only [Act.put, List.setIfInBounds_toArray, List.set_cons_zero, List.set_cons_succ]
              refine' wpT_det (o := ⟨some 40, Op.load 35 (Operand.tmp 2), 35, "l03_factors.go:367", #[], none⟩) rfl (by rfl) (by rfl) (fun w' hw' => ?_) ?_; rotate_left
              · have c0_ := Ext.cell hw' c0; have c1_ := Ext.cell hw' c1; have c2_ := Ext.cell hw' c2; have hcell_ := Ext.cell hw' hcell; go_simp <;> first | rfl | exact ⟨rfl, rfl⟩
              simp only [Act.put, List.setIfInBounds_toArray, List.set_cons_zero, List.set_cons_succ]
              refine' wpT_det (o := ⟨some 41, Op.move (Operand.tmp 7), 22, "l03_factors.go:367", #[], none⟩) rfl (by rfl) (by rfl) (fun w' hw' => ?_) ?_; rotate_left
              · go_simp <;> first | rfl | exact ⟨rfl, rfl⟩
              simp only [Act.put, List.setIfInBounds_toArray, List.set_cons_zero, List.set_cons_succ]
              refine' wpT_det (o := ⟨some 42, Op.move (Operand.tmp 8), 2, "l03_factors.go:367", #[], none⟩) rfl (by rfl) (by rfl) (fun w' hw' => ?_) ?_; rotate_left
              · go_simp <;> first | rfl | exact ⟨rfl, rfl⟩
              simp only [Act.put, List.setIfInBounds_toArray, List.set_cons_zero, List.set_cons_succ]
              refine' wpT_det (o := ⟨some 43, Op.indexAddr 22 (Operand.tmp 41) (Operand.tmp 42), 0, "l03_factors.go:367", #[{ on := 3, ground := Ground.data }, { on := 4, ground := Ground.data }], none⟩) rfl (by rfl) (by rfl) (fun w' hw' => ?_) ?_; rotate_left
              · go_simp <;> first | rfl | exact ⟨rfl, rfl⟩
              simp only [Act.put, List.setIfInBounds_toArray, List.set_cons_zero, List.set_cons_succ]
              refine' wpT_det (o := ⟨some 44, Op.load 39 (Operand.tmp 43), 39, "l03_factors.go:367", #[{ on := 5, ground := Ground.data }], none⟩) rfl (by rfl) (by rfl) (fun w' hw' => ?_) ?_; rotate_left
              · have c0_ := Ext.cell hw' c0; have c1_ := Ext.cell hw' c1; have c2_ := Ext.cell hw' c2; have hcell_ := Ext.cell hw' hcell; go_simp <;> first | rfl | exact ⟨rfl, rfl⟩
              simp only [Act.put, List.setIfInBounds_toArray, List.set_cons_zero, List.set_cons_succ]
              refine' wpT_det (o := ⟨some 45, Op.move (Operand.tmp 8), 2, "l03_factors.go:367", #[], none⟩) rfl (by rfl) (by rfl) (fun w' hw' => ?_) ?_; rotate_left
              · go_simp <;> first | rfl | exact ⟨rfl, rfl⟩
              simp only [Act.put, List.setIfInBounds_toArray, List.set_cons_zero, List.set_cons_succ]
              refine' wpT_det (o := ⟨some 46, Op.move (Operand.tmp 8), 2, "l03_factors.go:367", #[], none⟩) rfl (by rfl) (by rfl) (fun w' hw' => ?_) ?_; rotate_left
              · go_simp <;> first | rfl | exact ⟨rfl, rfl⟩
              simp only [Act.put, List.setIfInBounds_toArray, List.set_cons_zero, List.set_cons_succ]
              refine' wpT_det (o := ⟨some 47, Op.move (Operand.tmp 7), 22, "l03_factors.go:367", #[], none⟩) rfl (by rfl) (by rfl) (fun w' hw' => ?_) ?_; rotate_left
              · go_simp <;> first | rfl | exact ⟨rfl, rfl⟩
              simp only [Act.put, List.setIfInBounds_toArray, List.set_cons_zero, List.set_cons_succ]
              refine wpT_nd (o := ⟨some 48, Op.call { callee := Callee.value (Operand.func 162), args := #[Operand.tmp 40, Operand.tmp 44, Operand.tmp 45, Operand.const (Value.int IntKind.i64 0), Operand.tmp 46, Operand.tmp 47], argTypes := #[35, 39, 2, 2, 2, 22] }, 39, "l03_factors.go:367", #[{ on := 2, ground := Ground.data }, { on := 6, ground := Ground.data }, { on := 7, ground := Ground.data }, { on := 8, ground := Ground.data }, { on := 9, ground := Ground.data }], none⟩) rfl (by rfl) (by rfl) (fun w' hw' hF R__ hGo => ?_) (by obtain ⟨r, hr⟩ : ∃ r, c32 r = (lessF (fun k => c32 (at_ xs m i k)) (fun k => c32 (rdf ys k)) (c32 (rdf ys i)) 0 i) := ex_less _ _ _ _ _; exact ⟨_, r, rfl, hr⟩) ?_
              · go_simp
                refine gives_enter rfl ?_
                refine (lessRow_any m m n cap m k5 0 i i (rdf ys i) A (some ⟨g, 0, none⟩) xs ys _ p2 p2 rfl Hn.out hlt (by omega) hi hi (hr1.below hw'.undrew) (o.ext hw'.undrew).reads).mono ?_
                rintro e w2 ⟨r, rfl, hr, hx⟩
                exact ⟨_, rfl, hGo _ _ hx ⟨r, rfl, hr⟩ trivial⟩
              rintro _ ⟨f10, rfl, hf10⟩
              simp only [Act.put, List.setIfInBounds_toArray, List.set_cons_zero, List.set_cons_succ]
              refine' wpT_det (o := ⟨some 49, Op.load 35 (Operand.tmp 2), 35, "l03_factors.go:367", #[], none⟩) rfl (by rfl) (by rfl) (fun w' hw' => ?_) ?_; rotate_left
              · have c0_ := Ext.cell hw' c0; have c1_ := Ext.cell hw' c1; have c2_ := Ext.cell hw' c2; have hcell_ := Ext.cell hw' hcell; go_simp <;> first | rfl | exact ⟨rfl, rfl⟩
              simp only [Act.put, List.setIfInBounds_toArray, List.set_cons_zero, List.set_cons_succ]
              refine' wpT_det (o := ⟨some 50, Op.move (Operand.tmp 8), 2, "l03_factors.go:367", #[], none⟩) rfl (by rfl) (by rfl) (fun w' hw' => ?_) ?_; rotate_left
              · go_simp <;> first | rfl | exact ⟨rfl, rfl⟩
              simp only [Act.put, List.setIfInBounds_toArray, List.set_cons_zero, List.set_cons_succ]
              refine' wpT_det (o := ⟨some 51, Op.move (Operand.tmp 8), 2, "l03_factors.go:367", #[], none⟩) rfl (by rfl) (by rfl) (fun w' hw' => ?_) ?_; rotate_left
              · go_simp <;> first | rfl | exact ⟨rfl, rfl⟩
              simp only [Act.put, List.setIfInBounds_toArray, List.set_cons_zero, List.set_cons_succ]
              refine wpT_nd (o := ⟨some 52, Op.call { callee := Callee.value (Operand.func 105), args := #[Operand.tmp 49, Operand.tmp 50, Operand.tmp 51], argTypes := #[35, 2, 2] }, 39, "l03_factors.go:367", #[{ on := 11, ground := Ground.data }, { on := 12, ground := Ground.data }, { on := 13, ground := Ground.data }, { on := 10, ground := Ground.chain }], none⟩) rfl (by rfl) (by rfl) (fun w' hw' hF R__ hGo => ?_) ⟨_, rfl⟩ ?_
              · go_simp
                refine gives_enter rfl ?_
                refine (at_any m m i i n cap A xs _ hlt hlt p2 p2 Hn.out (hr1.below hw'.undrew)).mono ?_
                rintro e w2 ⟨rfl, hx⟩
                exact ⟨_, rfl, hGo _ _ hx rfl trivial⟩
              intro v hv
              obtain rfl : v = (.float .f32 (at_ xs m i i)) := hv
              simp only [Act.put, List.setIfInBounds_toArray, List.set_cons_zero, List.set_cons_succ]
              refine wpT_nd (o := ⟨some 53, Op.binOp BinOp.quo 39 (Operand.tmp 48) (Operand.tmp 52) 39, 39, "l03_factors.go:367", #[{ on := 10, ground := Ground.data }, { on := 14, ground := Ground.data }], none⟩) rfl (by rfl) (by rfl) (fun w' hw' hF R__ hGo => ?_) (by obtain ⟨r, hr⟩ := ex_d .quo ((by rw [hf10]) : fop .quo .f32 (c32 (f10)) (c32 (at_ xs m i i)) = (fdiv (lessF (fun k => c32 (at_ xs m i k)) (fun k => c32 (rdf ys k)) (c32 (rdf ys i)) 0 i) (c32 (at_ xs m i i)))); exact ⟨_, r, rfl, hr⟩) ?_
              · exact gives_f .quo (.inr (.inr (.inr rfl))) _ _ _ _ rfl (f10) (at_ xs m i i) rfl rfl (fdiv (lessF (fun k => c32 (at_ xs m i k)) (fun k => c32 (rdf ys k)) (c32 (rdf ys i)) 0 i) (c32 (at_ xs m i i))) (by rw [hf10]) (fun r w2 hx hc => hGo _ _ hx ⟨r, rfl, hc⟩ trivial)
              rintro _ ⟨f15, rfl, hf15⟩
              simp only [Act.put, List.setIfInBounds_toArray, List.set_cons_zero, List.set_cons_succ]
              refine wpT_nil (fun w5 hw' hF => ?_)
              show wpList _ _ _ [(⟨some 54, Op.indexAddr 22 (Operand.tmp 38) (Operand.tmp 39), 0, "l03_factors.go:367", #[{ on := 0, ground := Ground.data }, { on := 1, ground := Ground.data }, { on := 0, ground := Ground.phase }, { on := 1, ground := Ground.phase }, { on := 2, ground := Ground.phase }, { on := 3, ground := Ground.phase }, { on := 4, ground := Ground.phase }, { on := 5, ground := Ground.phase }, { on := 6, ground := Ground.phase }, { on := 7, ground := Ground.phase }, { on := 8, ground := Ground.phase }, { on := 9, ground := Ground.phase }, { on := 10, ground := Ground.phase }, { on := 11, ground := Ground.phase }, { on := 12, ground := Ground.phase }, { on := 13, ground := Ground.phase }, { on := 14, ground := Ground.phase }, { on := 15, ground := Ground.phase }], none⟩ : Oper), (⟨none, Op.store 39 (Operand.tmp 54) (Operand.tmp 53), 0, "l03_factors.go:367", #[{ on := 16, ground := Ground.data }, { on := 15, ground := Ground.data }, { on := 14, ground := Ground.chain }, { on := 0, ground := Ground.phase }, { on := 1, ground := Ground.phase }, { on := 2, ground := Ground.phase }, { on := 3, ground := Ground.phase }, { on := 4, ground := Ground.phase }, { on := 5, ground := Ground.phase }, { on := 6, ground := Ground.phase }, { on := 7, ground := Ground.phase }, { on := 8, ground := Ground.phase }, { on := 9, ground := Ground.phase }, { on := 10, ground := Ground.phase }, { on := 11, ground := Ground.phase }, { on := 12, ground := Ground.phase }, { on := 13, ground := Ground.phase }, { on := 14, ground := Ground.phase }, { on := 15, ground := Ground.phase }], none⟩ : Oper)] _ _
              have hx2 := hw'.undrew
              replace o := o.ext hx2
              replace ba := ba.ext hx2
              replace hx0 := hx0.trans hx2
              clear c0 c1 c2 hr1 hcell hfree hF hw' hx2
              obtain ⟨hcell, hfree⟩ := o.at_ i hlt
              rw [flts_get (by omega)] at hcell
              have hst := store_f32 Try.prog f15 hcell hfree
              have hcf : Hid (c32 f15 = F (i + 1) i) := by show _ = _; rw [hf15, hless.out, HF0.out]; exact (FX_at _ _ _).symm
              clear hf15 hf10
              go_wp2_with fail
              go_roundw
              case rel =>
                obtain ⟨u1, u2, u3⟩ := Own.putF (F' := F (i + 1)) hy o i f15 hcf.out.symm (fun j _ hj => by rw [HF0.out]; exact FX_other _ _ hj)
                exact ⟨i + 1, by omega, by go_num, ys.set i f15, u1, u2, u3.ext hx0 o, ba.wr u3 o (by decide)⟩
              case measure => simp [intOf]; omega
            · obtain rfl : i = m := by omega
              have hU : cfs ys = lst i (U 0) := by rw [hy, HU0.out]; rfl
              clear hy
              go_wp2_with fail
              go_loopw [9] (fun v wr => ∃ c : Nat, c ≤ i ∧ v = .int .i64 ((c : Int) - 1) ∧ ∃ ys, cfs ys = lst i (U (i - c)) ∧ Own wr w.heap.size 39 (.slice (some ⟨g, 0, none⟩) i k5) (flts ys) ∧ Ext w wr ∧ Blk wr w.heap.size #[.int .i64 i, .int .i64 i, .slice A n cap] 35) (fun v _ => (intOf v + 1).toNat)
              case atStart => exact ⟨i, Nat.le_refl _, rfl, ys, by rw [Nat.sub_self]; exact hU, o, hx0, ba⟩
              case round =>
                clear o hx0 ba hU g0
                obtain ⟨c, hc, rfl, ys, hy, o, hx0, ba⟩ := hrel
                cases c with
                | zero =>
                  have hneg : ¬ ((0 : Nat) : Int) - 1 ≥ 0 := by omega
                  go_wp2_with fail
                  refine (allFinite_any w.heap.size (some ⟨g, 0, none⟩) i k5 ys _ o hx0.size).mono ?_
                  have e : giveL (cfs ys) = d := by rw [hy, Nat.sub_zero, ← HD2.out, HU0.out, HF0.out]; rfl
                  rw [e]
                  rintro e w4 ⟨A2, k2, rfl, o4, hx⟩
                  go_wp2_with fail
                  go_ret2
                  exact ⟨A2, k2, rfl, o4, hx0.trans hx⟩
                | succ j =>
                  have ei : ((j + 1 : Nat) : Int) - 1 = (j : Int) := by omega
                  rw [ei]
                  clear ei
                  obtain ⟨c0, c1, c2, hr1⟩ := MAt.blk ba (hr.below hx0)
                  have hj : j < i := by omega
                  have hge : (j : Int) ≥ 0 := by omega
                  have g1 : IntKind.i64.wrap ((j : Int) + 1) = (j : Int) + 1 := IntWalk.i64_in _ (by omega)
                  have g2 : IntKind.i64.wrap ((j : Int) - 1) = (j : Int) - 1 := IntWalk.i64_in _ (by omega)
                  have hyi : c32 (rdf ys j) = U (i - (j + 1)) j := lst_at hy hj
                  have hless : Hid (lessF (fun k => c32 (at_ xs i k j)) (fun k => c32 (rdf ys k)) (c32 (rdf ys j)) (j + 1) (i - (j + 1)) = lessF (flipA (coef xs i) j) (U (i - (j + 1))) (U (i - (j + 1)) j) (j + 1) (i - (j + 1))) := by
                    show _ = _
                    rw [hyi]
                    exact lessF_congr (fun k h1 h2 => ⟨rfl, lst_at hy (by omega)⟩)
                  obtain ⟨hcell, hfree⟩ := o.at_ j hj
                  have hyl : ys.length = i := o.reads.flen
                  rw [flts_get (by omega)] at hcell
                  clear hyi
                  go_wp2_with fail
                  refine wp_region_T (cs := []) [0, 1, 2, 3, 4, 5, 6, 7, 8, 9, 10, 11, 12, 13, 14, 15, 16, 17] [18, 19] [12, 16, 17] [] (fun i__ v => match i__ with | 12 => ∃ r, v = .float .f32 r ∧ c32 r = (lessF (fun k => c32 (at_ xs i k j)) (fun k => c32 (rdf ys k)) (c32 (rdf ys j)) (j + 1) (i - (j + 1))) | 16 => v = (.float .f32 (at_ xs i j j)) | 17 => ∃ r, v = .float .f32 r ∧ c32 r = (fdiv (lessF (fun k => c32 (at_ xs i k j)) (fun k => c32 (rdf ys k)) (c32 (rdf ys j)) (j + 1) (i - (j + 1))) (c32 (at_ xs i j j))) | _ => False) (fun _ _ _ => True) (by kernel_rfl) (by kernel_rfl) (fun _ _ _ _ _ _ => trivial) ?_
                  refine' wpT_det (o := ⟨some 62, Op.move (Operand.tmp 7), 22, "l03_factors.go:370", #[], none⟩) rfl (by rfl) (by rfl) (fun w' hw' => ?_) ?_; rotate_left
                  · go_simp <;> first | rfl | exact ⟨rfl, rfl⟩
                  simp only [Act.put, List.setIfInBounds_toArray, List.set_cons_zero, List.set_cons_succ]
                  refine' wpT_det (o := ⟨some 63, Op.move (Operand.tmp 9), 2, "l03_factors.go:370", #[], none⟩) rfl (by rfl) (by rfl) (fun w' hw' => ?_) ?_; rotate_left
                  · go_simp <;> first | rfl | exact ⟨rfl, rfl⟩
                  simp only [Act.put, List.setIfInBounds_toArray, List.set_cons_zero, List.set_cons_succ]
                  refine' wpT_det (o := ⟨some 64, Op.load 35 (Operand.tmp 2), 35, "l03_factors.go:370", #[], none⟩) rfl (by rfl) (by rfl) (fun w' hw' => ?_) ?_; rotate_left
                  · have c0_ := Ext.cell hw' c0; have c1_ := Ext.cell hw' c1; have c2_ := Ext.cell hw' c2; have hcell_ := Ext.cell hw' hcell; go_simp <;> first | rfl | exact ⟨rfl, rfl⟩
                  simp only [Act.put, List.setIfInBounds_toArray, List.set_cons_zero, List.set_cons_succ]
                  refine' wpT_det (o := ⟨some 65, Op.move (Operand.tmp 7), 22, "l03_factors.go:370", #[], none⟩) rfl (by rfl) (by rfl) (fun w' hw' => ?_) ?_; rotate_left
                  · go_simp <;> first | rfl | exact ⟨rfl, rfl⟩
                  simp only [Act.put, List.setIfInBounds_toArray, List.set_cons_zero, List.set_cons_succ]
                  refine' wpT_det (o := ⟨some 66, Op.move (Operand.tmp 9), 2, "l03_factors.go:370", #[], none⟩) rfl (by rfl) (by rfl) (fun w' hw' => ?_) ?_; rotate_left
                  · go_simp <;> first | rfl | exact ⟨rfl, rfl⟩
                  simp only [Act.put, List.setIfInBounds_toArray, List.set_cons_zero, List.set_cons_succ]
                  refine' wpT_det (o := ⟨some 67, Op.indexAddr 22 (Operand.tmp 65) (Operand.tmp 66), 0, "l03_factors.go:370", #[{ on := 3, ground := Ground.data }, { on := 4, ground := Ground.data }], none⟩) rfl (by rfl) (by rfl) (fun w' hw' => ?_) ?_; rotate_left
                  · go_simp <;> first | rfl | exact ⟨rfl, rfl⟩
                  simp only [Act.put, List.setIfInBounds_toArray, List.set_cons_zero, List.set_cons_succ]
                  refine' wpT_det (o := ⟨some 68, Op.load 39 (Operand.tmp 67), 39, "l03_factors.go:370", #[{ on := 5, ground := Ground.data }], none⟩) rfl (by rfl) (by rfl) (fun w' hw' => ?_) ?_; rotate_left
                  · have c0_ := Ext.cell hw' c0; have c1_ := Ext.cell hw' c1; have c2_ := Ext.cell hw' c2; have hcell_ := Ext.cell hw' hcell; go_simp <;> first | rfl | exact ⟨rfl, rfl⟩
                  simp only [Act.put, List.setIfInBounds_toArray, List.set_cons_zero, List.set_cons_succ]
                  refine' wpT_det (o := ⟨some 69, Op.move (Operand.tmp 9), 2, "l03_factors.go:370", #[], none⟩) rfl (by rfl) (by rfl) (fun w' hw' => ?_) ?_; rotate_left
                  · go_simp <;> first | rfl | exact ⟨rfl, rfl⟩
                  simp only [Act.put, List.setIfInBounds_toArray, List.set_cons_zero, List.set_cons_succ]
                  refine' wpT_det (o := ⟨some 70, Op.move (Operand.tmp 9), 2, "l03_factors.go:370", #[], none⟩) rfl (by rfl) (by rfl) (fun w' hw' => ?_) ?_; rotate_left
                  · go_simp <;> first | rfl | exact ⟨rfl, rfl⟩
                  simp only [Act.put, List.setIfInBounds_toArray, List.set_cons_zero, List.set_cons_succ]
                  refine' wpT_det (o := ⟨some 71, Op.binOp BinOp.add 2 (Operand.tmp 70) (Operand.const (Value.int IntKind.i64 1)) 2, 2, "l03_factors.go:370", #[{ on := 8, ground := Ground.data }], none⟩) rfl (by rfl) (by rfl) (fun w' hw' => ?_) ?_; rotate_left
                  · go_simp <;> first | rfl | exact ⟨rfl, rfl⟩
                  simp only [Act.put, List.setIfInBounds_toArray, List.set_cons_zero, List.set_cons_succ]
                  refine' wpT_det (o := ⟨some 72, Op.move (Operand.tmp 6), 2, "l03_factors.go:370", #[], none⟩) rfl (by rfl) (by rfl) (fun w' hw' => ?_) ?_; rotate_left
                  · go_simp <;> first | rfl | exact ⟨rfl, rfl⟩
                  simp only [Act.put, List.setIfInBounds_toArray, List.set_cons_zero, List.set_cons_succ]
                  refine' wpT_det (o := ⟨some 73, Op.move (Operand.tmp 7), 22, "l03_factors.go:370", #[], none⟩) rfl (by rfl) (by rfl) (fun w' hw' => ?_) ?_; rotate_left
                  · go_simp <;> first | rfl | exact ⟨rfl, rfl⟩
                  simp only [Act.put, List.setIfInBounds_toArray, List.set_cons_zero, List.set_cons_succ]
                  refine wpT_nd (o := ⟨some 74, Op.call { callee := Callee.value (Operand.func 163), args := #[Operand.tmp 64, Operand.tmp 68, Operand.tmp 69, Operand.tmp 71, Operand.tmp 72, Operand.tmp 73], argTypes := #[35, 39, 2, 2, 2, 22] }, 39, "l03_factors.go:370", #[{ on := 2, ground := Ground.data }, { on := 6, ground := Ground.data }, { on := 7, ground := Ground.data }, { on := 9, ground := Ground.data }, { on := 10, ground := Ground.data }, { on := 11, ground := Ground.data }], none⟩) rfl (by rfl) (by rfl) (fun w' hw' hF R__ hGo => ?_) (by obtain ⟨r, hr⟩ : ∃ r, c32 r = (lessF (fun k => c32 (at_ xs i k j)) (fun k => c32 (rdf ys k)) (c32 (rdf ys j)) (j + 1) (i - (j + 1))) := ex_less _ _ _ _ _; exact ⟨_, r, rfl, hr⟩) ?_
                  · go_simp
                    refine gives_enter rfl ?_
                    refine (lessColumn_any i i n cap i k5 (j + 1) i j (rdf ys j) A (some ⟨g, 0, none⟩) xs ys _ p2 p2 rfl Hn.out hj (by omega) (Nat.le_refl _) (Nat.le_refl _) (hr1.below hw'.undrew) (o.ext hw'.undrew).reads).mono ?_
                    rintro e w2 ⟨r, rfl, hr, hx⟩
                    exact ⟨_, rfl, hGo _ _ hx ⟨r, rfl, hr⟩ trivial⟩
                  rintro _ ⟨f12, rfl, hf12⟩
                  simp only [Act.put, List.setIfInBounds_toArray, List.set_cons_zero, List.set_cons_succ]
                  refine' wpT_det (o := ⟨some 75, Op.load 35 (Operand.tmp 2), 35, "l03_factors.go:370", #[], none⟩) rfl (by rfl) (by rfl) (fun w' hw' => ?_) ?_; rotate_left
                  · have c0_ := Ext.cell hw' c0; have c1_ := Ext.cell hw' c1; have c2_ := Ext.cell hw' c2; have hcell_ := Ext.cell hw' hcell; go_simp <;> first | rfl | exact ⟨rfl, rfl⟩
                  simp only [Act.put, List.setIfInBounds_toArray, List.set_cons_zero, List.set_cons_succ]
                  refine' wpT_det (o := ⟨some 76, Op.move (Operand.tmp 9), 2, "l03_factors.go:370", #[], none⟩) rfl (by rfl) (by rfl) (fun w' hw' => ?_) ?_; rotate_left
                  · go_simp <;> first | rfl | exact ⟨rfl, rfl⟩
                  simp only [Act.put, List.setIfInBounds_toArray, List.set_cons_zero, List.set_cons_succ]
                  refine' wpT_det (o := ⟨some 77, Op.move (Operand.tmp 9), 2, "l03_factors.go:370", #[], none⟩) rfl (by rfl) (by rfl) (fun w' hw' => ?_) ?_; rotate_left
                  · go_simp <;> first | rfl | exact ⟨rfl, rfl⟩
                  simp only [Act.put, List.setIfInBounds_toArray, List.set_cons_zero, List.set_cons_succ]
                  refine wpT_nd (o := ⟨some 78, Op.call { callee := Callee.value (Operand.func 105), args := #[Operand.tmp 75, Operand.tmp 76, Operand.tmp 77], argTypes := #[35, 2, 2] }, 39, "l03_factors.go:370", #[{ on := 13, ground := Ground.data }, { on := 14, ground := Ground.data }, { on := 15, ground := Ground.data }, { on := 12, ground := Ground.chain }], none⟩) rfl (by rfl) (by rfl) (fun w' hw' hF R__ hGo => ?_) ⟨_, rfl⟩ ?_
                  · go_simp
                    refine gives_enter rfl ?_
                    refine (at_any i i j j n cap A xs _ hj hj p2 p2 Hn.out (hr1.below hw'.undrew)).mono ?_
                    rintro e w2 ⟨rfl, hx⟩
                    exact ⟨_, rfl, hGo _ _ hx rfl trivial⟩
                  intro v hv
                  obtain rfl : v = (.float .f32 (at_ xs i j j)) := hv
                  simp only [Act.put, List.setIfInBounds_toArray, List.set_cons_zero, List.set_cons_succ]
                  refine wpT_nd (o := ⟨some 79, Op.binOp BinOp.quo 39 (Operand.tmp 74) (Operand.tmp 78) 39, 39, "l03_factors.go:370", #[{ on := 12, ground := Ground.data }, { on := 16, ground := Ground.data }], none⟩) rfl (by rfl) (by rfl) (fun w' hw' hF R__ hGo => ?_) (by obtain ⟨r, hr⟩ := ex_d .quo ((by rw [hf12]) : fop .quo .f32 (c32 (f12)) (c32 (at_ xs i j j)) = (fdiv (lessF (fun k => c32 (at_ xs i k j)) (fun k => c32 (rdf ys k)) (c32 (rdf ys j)) (j + 1) (i - (j + 1))) (c32 (at_ xs i j j)))); exact ⟨_, r, rfl, hr⟩) ?_
                  · exact gives_f .quo (.inr (.inr (.inr rfl))) _ _ _ _ rfl (f12) (at_ xs i j j) rfl rfl (fdiv (lessF (fun k => c32 (at_ xs i k j)) (fun k => c32 (rdf ys k)) (c32 (rdf ys j)) (j + 1) (i - (j + 1))) (c32 (at_ xs i j j))) (by rw [hf12]) (fun r w2 hx hc => hGo _ _ hx ⟨r, rfl, hc⟩ trivial)
                  rintro _ ⟨f17, rfl, hf17⟩
                  simp only [Act.put, List.setIfInBounds_toArray, List.set_cons_zero, List.set_cons_succ]
                  refine wpT_nil (fun w5 hw' hF => ?_)
                  show wpList _ _ _ [(⟨some 80, Op.indexAddr 22 (Operand.tmp 62) (Operand.tmp 63), 0, "l03_factors.go:370", #[{ on := 0, ground := Ground.data }, { on := 1, ground := Ground.data }, { on := 0, ground := Ground.phase }, { on := 1, ground := Ground.phase }, { on := 2, ground := Ground.phase }, { on := 3, ground := Ground.phase }, { on := 4, ground := Ground.phase }, { on := 5, ground := Ground.phase }, { on := 6, ground := Ground.phase }, { on := 7, ground := Ground.phase }, { on := 8, ground := Ground.phase }, { on := 9, ground := Ground.phase }, { on := 10, ground := Ground.phase }, { on := 11, ground := Ground.phase }, { on := 12, ground := Ground.phase }, { on := 13, ground := Ground.phase }, { on := 14, ground := Ground.phase }, { on := 15, ground := Ground.phase }, { on := 16, ground := Ground.phase }, { on := 17, ground := Ground.phase }], none⟩ : Oper), (⟨none, Op.store 39 (Operand.tmp 80) (Operand.tmp 79), 0, "l03_factors.go:370", #[{ on := 18, ground := Ground.data }, { on := 17, ground := Ground.data }, { on := 16, ground := Ground.chain }, { on := 0, ground := Ground.phase }, { on := 1, ground := Ground.phase }, { on := 2, ground := Ground.phase }, { on := 3, ground := Ground.phase }, { on := 4, ground := Ground.phase }, { on := 5, ground := Ground.phase }, { on := 6, ground := Ground.phase }, { on := 7, ground := Ground.phase }, { on := 8, ground := Ground.phase }, { on := 9, ground := Ground.phase }, { on := 10, ground := Ground.phase }, { on := 11, ground := Ground.phase }, { on := 12, ground := Ground.phase }, { on := 13, ground := Ground.phase }, { on := 14, ground := Ground.phase }, { on := 15, ground := Ground.phase }, { on := 16, ground := Ground.phase }, { on := 17, ground := Ground.phase }], none⟩ : Oper)] _ _
                  have hx2 := hw'.undrew
                  replace o := o.ext hx2
                  replace ba := ba.ext hx2
                  replace hx0 := hx0.trans hx2
                  clear c0 c1 c2 hr1 hcell hfree hF hw' hx2
                  obtain ⟨hcell, hfree⟩ := o.at_ j hj
                  rw [flts_get (by omega)] at hcell
                  have hst := store_f32 Try.prog f17 hcell hfree
                  have hcf : Hid (c32 f17 = fdiv (lessF (flipA (coef xs i) j) (U (i - (j + 1))) (U (i - (j + 1)) j) (j + 1) (i - (j + 1))) (flipA (coef xs i) j j)) := by show _ = _; rw [hf17, hless.out]; rfl
                  clear hf17 hf12
                  go_wp2_with fail
                  go_roundw
                  case rel =>
                    have hstep : U (i - j) = upd1 (U (i - (j + 1))) j (c32 f17) := by rw [hcf.out, HU0.out]; exact UX_step _ _ hj
                    obtain ⟨u1, u2, u3⟩ := Own.putF (F' := U (i - j)) hy o j f17 (by rw [hstep, upd1_same]) (fun k _ hk => by rw [hstep, upd1_other _ hk])
                    exact ⟨j, by omega, by go_num, ys.set j f17, u1, u2, u3.ext hx0 o, ba.wr u3 o (by decide)⟩
                  case measure => simp [intOf]
      · have hc' : ((m : Int) != (R : Int)) = true := by simp; omega
        have hd := rt_bad (r := R) (c := R) (xs := xs) (vs := vs) (by unfold uppB; rw [hv, hv', HL'.out, decide_eq_false (by omega)]; rfl)
        clear p5
        go_enter Try.func89, Try.ntmps89
        go_upto_region 1 with (fail)
        obtain ⟨w0, hw0⟩ : ∃ w0, w0 = (w.alloc (.cells #[.int .i64 R, .int .i64 R, .slice A n cap] 35)) := ⟨_, rfl⟩
        have hx0 : Ext w w0 := by subst hw0; exact (Ext.refl _).alloc _
        have ba : Blk w0 (w.heap.size) #[.int .i64 R, .int .i64 R, .slice A n cap] 35 := by subst hw0; exact (Blk.new w _ _)
        rw [← hw0]
        clear hw0
        obtain ⟨c0, c1, c2, hr1⟩ := MAt.blk ba (hr.below hx0)
        refine wp_region_T (cs := []) [0, 1, 2, 3, 4, 5, 6, 7, 8, 9, 10, 11, 12, 13, 14, 15, 16, 17, 18, 19] [] [1, 5, 10] [] (fun i__ v => match i__ with | 1 => v = (.bool true) | 5 => v = (.bool true) | 10 => v = (.int .i64 m) | _ => False) (fun _ _ _ => True) (by kernel_rfl) (by kernel_rfl) (fun _ _ _ _ _ _ => trivial) ?_
        refine' wpT_det (o := ⟨some 10, Op.load 35 (Operand.tmp 2), 35, "l03_factors.go:362", #[], none⟩) rfl (by rfl) (by rfl) (fun w' hw' => ?_) ?_; rotate_left
        · have c0_ := Ext.cell hw' c0; have c1_ := Ext.cell hw' c1; have c2_ := Ext.cell hw' c2; go_simp <;> first | rfl | exact ⟨rfl, rfl⟩
        simp only [Act.put, List.setIfInBounds_toArray, List.set_cons_zero, List.set_cons_succ]
        refine wpT_nd (o := ⟨some 11, Op.call { callee := Callee.value (Operand.func 104), args := #[Operand.tmp 10], argTypes := #[35] }, 4, "l03_factors.go:362", #[{ on := 0, ground := Ground.data }], none⟩) rfl (by rfl) (by rfl) (fun w' hw' hF R__ hGo => ?_) ⟨_, rfl⟩ ?_
        · go_simp
          refine gives_enter rfl ?_
          refine (isSquare_any _ _ A n cap xs _ (hr1.below hw'.undrew)).mono ?_
          rintro e w2 ⟨rfl, hx⟩
          exact ⟨_, rfl, hGo _ _ hx (congrArg Value.bool hv) trivial⟩
        intro v hv
        obtain rfl : v = (.bool true) := hv
        simp only [Act.put, List.setIfInBounds_toArray, List.set_cons_zero, List.set_cons_succ]
        refine' wpT_det (o := ⟨some 12, Op.unOp UnOp.not 4 (Operand.tmp 11), 4, "l03_factors.go:362", #[{ on := 1, ground := Ground.data }], none⟩) rfl (by rfl) (by rfl) (fun w' hw' => ?_) ?_; rotate_left
        · go_simp <;> first | rfl | exact ⟨rfl, rfl⟩
        simp only [Act.put, List.setIfInBounds_toArray, List.set_cons_zero, List.set_cons_succ]
        refine' wpT_det (o := ⟨some 13, Op.move (Operand.tmp 12), 4, "l03_factors.go:362", #[{ on := 2, ground := Ground.data }, { on := 1, ground := Ground.chain }], none⟩) rfl (by rfl) (by rfl) (fun w' hw' => ?_) ?_; rotate_left
        · go_simp <;> first | rfl | exact ⟨rfl, rfl⟩
        simp only [Act.put, List.setIfInBounds_toArray, List.set_cons_zero, List.set_cons_succ]
        refine' wpT_det (o := ⟨some 14, Op.move (Operand.tmp 1), 22, "l03_factors.go:362", #[{ on := 3, ground := Ground.guard }], some (3, false)⟩) rfl (by rfl) (by rfl) (fun w' hw' => ?_) ?_; rotate_left
        · go_simp <;> first | rfl | exact ⟨rfl, rfl⟩
        simp only [Act.put, List.setIfInBounds_toArray, List.set_cons_zero, List.set_cons_succ]
        refine wpT_nd (o := ⟨some 15, Op.call { callee := Callee.value (Operand.func 129), args := #[Operand.tmp 14], argTypes := #[22] }, 4, "l03_factors.go:362", #[{ on := 4, ground := Ground.data }, { on := 3, ground := Ground.chain }, { on := 3, ground := Ground.guard }], some (3, false)⟩) rfl (by rfl) (by rfl) (fun w' hw' hF R__ hGo => ?_) ⟨_, rfl⟩ ?_
        · go_simp
          refine gives_enter rfl ?_
          refine (IsVector_any B m cap' vs _ ((hq.below hx0).below hw'.undrew)).mono ?_
          rintro e w2 ⟨rfl, hx⟩
          exact ⟨_, rfl, hGo _ _ hx (congrArg Value.bool hv') trivial⟩
        intro v hv
        obtain rfl : v = (.bool true) := hv
        simp only [Act.put, List.setIfInBounds_toArray, List.set_cons_zero, List.set_cons_succ]
        refine' wpT_det (o := ⟨some 16, Op.unOp UnOp.not 4 (Operand.tmp 15), 4, "l03_factors.go:362", #[{ on := 5, ground := Ground.data }, { on := 3, ground := Ground.guard }], some (3, false)⟩) rfl (by rfl) (by rfl) (fun w' hw' => ?_) ?_; rotate_left
        · go_simp <;> first | rfl | exact ⟨rfl, rfl⟩
        simp only [Act.put, List.setIfInBounds_toArray, List.set_cons_zero, List.set_cons_succ]
        refine' wpT_det (o := ⟨some 17, Op.pick (Operand.tmp 13) (Operand.const (Value.bool true)) (Operand.tmp 16), 4, "l03_factors.go:362", #[{ on := 3, ground := Ground.data }, { on := 6, ground := Ground.data }], none⟩) rfl (by rfl) (by rfl) (fun w' hw' => ?_) ?_; rotate_left
        · go_simp <;> first | rfl | exact ⟨rfl, rfl⟩
        simp only [Act.put, List.setIfInBounds_toArray, List.set_cons_zero, List.set_cons_succ]
        refine' wpT_det (o := ⟨some 18, Op.move (Operand.tmp 17), 4, "l03_factors.go:362", #[{ on := 7, ground := Ground.data }, { on := 5, ground := Ground.chain }], none⟩) rfl (by rfl) (by rfl) (fun w' hw' => ?_) ?_; rotate_left
        · go_simp <;> first | rfl | exact ⟨rfl, rfl⟩
        simp only [Act.put, List.setIfInBounds_toArray, List.set_cons_zero, List.set_cons_succ]
        refine' wpT_det (o := ⟨some 19, Op.move (Operand.tmp 1), 22, "l03_factors.go:362", #[{ on := 8, ground := Ground.guard }], some (8, false)⟩) rfl (by rfl) (by rfl) (fun w' hw' => ?_) ?_; rotate_left
        · go_simp <;> first | rfl | exact ⟨rfl, rfl⟩
        simp only [Act.put, List.setIfInBounds_toArray, List.set_cons_zero, List.set_cons_succ]
        refine wpT_nd (o := ⟨some 20, Op.call { callee := Callee.value (Operand.func 101), args := #[Operand.tmp 19], argTypes := #[22] }, 2, "l03_factors.go:362", #[{ on := 9, ground := Ground.data }, { on := 8, ground := Ground.chain }, { on := 8, ground := Ground.guard }], some (8, false)⟩) rfl (by rfl) (by rfl) (fun w' hw' hF R__ hGo => ?_) ⟨_, rfl⟩ ?_
        · go_simp
          refine gives_enter rfl ?_
          refine (lengthF_any _ _ _ hsm _).mono ?_
          rintro e w2 ⟨rfl, rfl⟩
          exact ⟨_, rfl, hGo _ _ (Ext.refl _) rfl trivial⟩
        intro v hv
        obtain rfl : v = (.int .i64 m) := hv
        simp only [Act.put, List.setIfInBounds_toArray, List.set_cons_zero, List.set_cons_succ]
        refine' wpT_det (o := ⟨some 21, Op.fieldAddr 35 (Operand.tmp 2) 0, 0, "l03_factors.go:362", #[{ on := 8, ground := Ground.guard }], some (8, false)⟩) rfl (by rfl) (by rfl) (fun w' hw' => ?_) ?_; rotate_left
        · go_simp <;> first | rfl | exact ⟨rfl, rfl⟩
        simp only [Act.put, List.setIfInBounds_toArray, List.set_cons_zero, List.set_cons_succ]
        refine' wpT_det (o := ⟨some 22, Op.load 2 (Operand.tmp 21), 2, "l03_factors.go:362", #[{ on := 11, ground := Ground.data }, { on := 8, ground := Ground.guard }], some (8, false)⟩) rfl (by rfl) (by rfl) (fun w' hw' => ?_) ?_; rotate_left
        · have c0_ := Ext.cell hw' c0; have c1_ := Ext.cell hw' c1; have c2_ := Ext.cell hw' c2; go_simp <;> first | rfl | exact ⟨rfl, rfl⟩
        simp only [Act.put, List.setIfInBounds_toArray, List.set_cons_zero, List.set_cons_succ]
        refine' wpT_det (o := ⟨some 23, Op.binOp BinOp.neq 2 (Operand.tmp 20) (Operand.tmp 22) 2, 4, "l03_factors.go:362", #[{ on := 10, ground := Ground.data }, { on := 12, ground := Ground.data }, { on := 8, ground := Ground.guard }], some (8, false)⟩) rfl (by rfl) (by rfl) (fun w' hw' => ?_) ?_; rotate_left
        · go_simp <;> first | rfl | exact ⟨rfl, rfl⟩
        simp only [Act.put, List.setIfInBounds_toArray, List.set_cons_zero, List.set_cons_succ]
        refine' wpT_det (o := ⟨some 24, Op.pick (Operand.tmp 18) (Operand.const (Value.bool true)) (Operand.tmp 23), 4, "l03_factors.go:362", #[{ on := 8, ground := Ground.data }, { on := 13, ground := Ground.data }], none⟩) rfl (by rfl) (by rfl) (fun w' hw' => ?_) ?_; rotate_left
        · go_simp <;> first | rfl | exact ⟨rfl, rfl⟩
        simp only [Act.put, List.setIfInBounds_toArray, List.set_cons_zero, List.set_cons_succ]
        refine' wpT_det (o := ⟨some 25, Op.move (Operand.tmp 24), 4, "l03_factors.go:362", #[{ on := 14, ground := Ground.data }, { on := 10, ground := Ground.chain }], none⟩) rfl (by rfl) (by rfl) (fun w' hw' => ?_) ?_; rotate_left
        · go_simp <;> first | rfl | exact ⟨rfl, rfl⟩
        simp only [Act.put, List.setIfInBounds_toArray, List.set_cons_zero, List.set_cons_succ]
        refine wpT_skip (o := ⟨some 26, Op.load 35 (Operand.tmp 2), 35, "l03_factors.go:362", #[{ on := 15, ground := Ground.guard }], some (15, false)⟩) rfl (by rfl) ?_
        simp only [Act.put, List.setIfInBounds_toArray, List.set_cons_zero, List.set_cons_succ]
        refine wpT_skip (o := ⟨some 27, Op.call { callee := Callee.value (Operand.func 158), args := #[Operand.tmp 26], argTypes := #[35] }, 22, "l03_factors.go:362", #[{ on := 16, ground := Ground.data }, { on := 15, ground := Ground.chain }, { on := 15, ground := Ground.guard }], some (15, false)⟩) rfl (by rfl) ?_
        simp only [Act.put, List.setIfInBounds_toArray, List.set_cons_zero, List.set_cons_succ]
        refine wpT_skip (o := ⟨some 28, Op.call { callee := Callee.value (Operand.func 160), args := #[Operand.tmp 27, Operand.func 161], argTypes := #[22, 93] }, 4, "l03_factors.go:362", #[{ on := 17, ground := Ground.data }, { on := 17, ground := Ground.chain }, { on := 15, ground := Ground.guard }], some (15, false)⟩) rfl (by rfl) ?_
        simp only [Act.put, List.setIfInBounds_toArray, List.set_cons_zero, List.set_cons_succ]
        refine' wpT_det (o := ⟨some 29, Op.pick (Operand.tmp 25) (Operand.const (Value.bool true)) (Operand.tmp 28), 4, "l03_factors.go:362", #[{ on := 15, ground := Ground.data }, { on := 18, ground := Ground.data }], none⟩) rfl (by rfl) (by rfl) (fun w' hw' => ?_) ?_; rotate_left
        · go_simp <;> first | rfl | exact ⟨rfl, rfl⟩
        simp only [Act.put, List.setIfInBounds_toArray, List.set_cons_zero, List.set_cons_succ]
        refine wpT_nil (fun w1 hw' hF => ?_)
        refine wpList_nil ?_
        go_wp2_with fail
        go_ret2
        exact RetLDb.bad hd (hx0.trans hw'.undrew)

end Go.Proofs.Ytgjfdfmbknmpaaa
