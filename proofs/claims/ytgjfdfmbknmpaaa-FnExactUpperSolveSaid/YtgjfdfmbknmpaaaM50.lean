import Derived.Test.YtgjfdfmbknmpaaaM49
set_option linter.unusedVariables false
set_option linter.unusedSimpArgs false
namespace Go.Proofs.Ytgjfdfmbknmpaaa
open Go.RowKit

set_option maxRecDepth 20000 in
set_option maxHeartbeats 4000000 in
theorem specUpperSolve_any (r c : Int) (A : Option Addr) (n cap : Nat) (B : Option Addr) (m cap' : Nat) (xs vs : List Nat) (w : World) (hr : Rds w A n (flts xs)) (hq : Rds w B m (flts vs)) :
    Calls Try.prog 86 #[.agg #[.int .i64 r, .int .i64 c, .slice A n cap], .slice B m cap'] w (RetLD w (uppD r c xs vs)) := by
  have HL := Lib.hid hr.flen
  have HL' := Lib.hid hq.flen
  have hsm := hq.small
  cases hv : isSq r c xs with
  | false =>
    have hd := upp_bad (r := r) (c := c) (xs := xs) (vs := vs) (by unfold uppB; rw [hv]; rfl)
    go_enter Try.func86, Try.ntmps86
    go_upto_region 1 with (fail)
    obtain ⟨w0, hw0⟩ : ∃ w0, w0 = (w.alloc (.cells #[.int .i64 r, .int .i64 c, .slice A n cap] 35)) := ⟨_, rfl⟩
    have hx0 : Ext w w0 := by subst hw0; exact (Ext.refl _).alloc _
    have ba : Blk w0 (w.heap.size) #[.int .i64 r, .int .i64 c, .slice A n cap] 35 := by subst hw0; exact (Blk.new w _ _)
    rw [← hw0]
    clear hw0
    go_wp2_with fail
    refine (l02Square_any _ r c A n cap xs _ (MAt.blk ba (hr.below hx0))).mono ?_
    rintro e w1 ⟨rfl, hx⟩
    rw [hv]
    replace hx0 := hx0.trans hx
    clear  hx
    go_wp2_with fail
    go_ret2
    exact RetLDb.bad hd hx0
  | true =>
    obtain ⟨R, rfl, rfl, p1, p2, p5⟩ := sq_all hv
    cases hv' : isVec vs with
    | false =>
      have hd := upp_bad (r := R) (c := R) (xs := xs) (vs := vs) (by unfold uppB; rw [hv, hv']; rfl)
      clear p5
      go_enter Try.func86, Try.ntmps86
      go_upto_region 1 with (fail)
      obtain ⟨w0, hw0⟩ : ∃ w0, w0 = (w.alloc (.cells #[.int .i64 R, .int .i64 R, .slice A n cap] 35)) := ⟨_, rfl⟩
      have hx0 : Ext w w0 := by subst hw0; exact (Ext.refl _).alloc _
      have ba : Blk w0 (w.heap.size) #[.int .i64 R, .int .i64 R, .slice A n cap] 35 := by subst hw0; exact (Blk.new w _ _)
      rw [← hw0]
      clear hw0
      go_wp2_with fail
      refine (l02Square_any _ _ _ A n cap xs _ (MAt.blk ba (hr.below hx0))).mono ?_
      rintro e w1 ⟨rfl, hx⟩
      rw [hv]
      replace hx0 := hx0.trans hx
      clear  hx
      go_wp2_with fail
      refine (l02Vector_any B m cap' vs _ (hq.below hx0)).mono ?_
      rintro e w2 ⟨rfl, hx⟩
      rw [hv']
      replace hx0 := hx0.trans hx
      clear  hx
      go_wp2_with fail
      go_ret2
      exact RetLDb.bad hd hx0
    | true =>
      by_cases hc : m = R
      · have hc' : ((m : Int) != (R : Int)) = false := by simp [hc]
        have hb : uppB R R xs vs = true := by unfold uppB; rw [hv, hv', HL'.out, hc]; simp
        obtain rfl := hc
        have HD := Lib.hid (upp_good hb)
        have Hn : Hid (n = m * m) := by have := HL.out; show n = _; omega
        obtain ⟨d, hd⟩ : ∃ d, d = uppD m m xs vs := ⟨_, rfl⟩
        have hd2 : l03D xs vs m = d := by rw [hd, HD.out]; rfl
        have HD2 := Lib.hid hd2
        rw [← hd]
        clear hd hd2 hb p5
        go_enter Try.func86, Try.ntmps86
        go_upto_region 1 with (fail)
        obtain ⟨w0, hw0⟩ : ∃ w0, w0 = (w.alloc (.cells #[.int .i64 m, .int .i64 m, .slice A n cap] 35)) := ⟨_, rfl⟩
        have hx0 : Ext w w0 := by subst hw0; exact (Ext.refl _).alloc _
        have ba : Blk w0 (w.heap.size) #[.int .i64 m, .int .i64 m, .slice A n cap] 35 := by subst hw0; exact (Blk.new w _ _)
        rw [← hw0]
        clear hw0
        go_wp2_with fail
        refine (l02Square_any _ _ _ A n cap xs _ (MAt.blk ba (hr.below hx0))).mono ?_
        rintro e w1 ⟨rfl, hx⟩
        rw [hv]
        replace ba := ba.ext hx
        replace hx0 := hx0.trans hx
        clear  hx
        go_wp2_with fail
        refine (l02Vector_any B m cap' vs _ (hq.below hx0)).mono ?_
        rintro e w2 ⟨rfl, hx⟩
        rw [hv']
        replace ba := ba.ext hx
        replace hx0 := hx0.trans hx
        clear  hx
        obtain ⟨c0, c1, c2, hr1⟩ := MAt.blk ba (hr.below hx0)
        go_wp2_with fail
        refine (l03UpperSolve_any _ m n cap cap' A B xs vs _ p1 p2 Hn.out (MAt.blk ba (hr.below hx0)) (hq.below hx0)).mono ?_
        rw [HD2.out]
        rintro e w3 ⟨A1, k1, rfl, ho, hx⟩
        clear c0 c1 c2
        go_wp2_with fail
        go_ret2
        exact ⟨A1, k1, rfl, ho.base hx0.size, hx0.trans hx⟩
      · have hc' : ((m : Int) != (R : Int)) = true := by simp; omega
        have hd := upp_bad (r := R) (c := R) (xs := xs) (vs := vs) (by unfold uppB; rw [hv, hv', HL'.out, decide_eq_false (by omega)]; rfl)
        clear p5
        go_enter Try.func86, Try.ntmps86
        go_upto_region 1 with (fail)
        obtain ⟨w0, hw0⟩ : ∃ w0, w0 = (w.alloc (.cells #[.int .i64 R, .int .i64 R, .slice A n cap] 35)) := ⟨_, rfl⟩
        have hx0 : Ext w w0 := by subst hw0; exact (Ext.refl _).alloc _
        have ba : Blk w0 (w.heap.size) #[.int .i64 R, .int .i64 R, .slice A n cap] 35 := by subst hw0; exact (Blk.new w _ _)
        rw [← hw0]
        clear hw0
        go_wp2_with fail
        refine (l02Square_any _ _ _ A n cap xs _ (MAt.blk ba (hr.below hx0))).mono ?_
        rintro e w1 ⟨rfl, hx⟩
        rw [hv]
        replace ba := ba.ext hx
        replace hx0 := hx0.trans hx
        clear  hx
        go_wp2_with fail
        refine (l02Vector_any B m cap' vs _ (hq.below hx0)).mono ?_
        rintro e w2 ⟨rfl, hx⟩
        rw [hv']
        replace ba := ba.ext hx
        replace hx0 := hx0.trans hx
        clear  hx
        obtain ⟨c0, c1, c2, hr1⟩ := MAt.blk ba (hr.below hx0)
        go_wp2_with fail
        go_ret2
        exact RetLDb.bad hd hx0

set_option maxRecDepth 20000 in
set_option maxHeartbeats 4000000 in
theorem implUpperSolve_any (r c : Int) (A : Option Addr) (n cap : Nat) (B : Option Addr) (m cap' : Nat) (xs vs : List Nat) (w : World) (hr : Rds w A n (flts xs)) (hq : Rds w B m (flts vs)) :
    Calls Try.prog 87 #[.agg #[.int .i64 r, .int .i64 c, .slice A n cap], .slice B m cap'] w (RetLD w (uppD r c xs vs)) := by
  have HL := Lib.hid hr.flen
  have HL' := Lib.hid hq.flen
  have hsm := hq.small
  cases hv : isSq r c xs with
  | false =>
    have hd := upp_bad (r := r) (c := c) (xs := xs) (vs := vs) (by unfold uppB; rw [hv]; rfl)
    go_enter Try.func87, Try.ntmps87
    go_upto_region 1 with (fail)
    obtain ⟨w0, hw0⟩ : ∃ w0, w0 = (w.alloc (.cells #[.int .i64 r, .int .i64 c, .slice A n cap] 35)) := ⟨_, rfl⟩
    have hx0 : Ext w w0 := by subst hw0; exact (Ext.refl _).alloc _
    have ba : Blk w0 (w.heap.size) #[.int .i64 r, .int .i64 c, .slice A n cap] 35 := by subst hw0; exact (Blk.new w _ _)
    rw [← hw0]
    clear hw0
    obtain ⟨c0, c1, c2, hr1⟩ := MAt.blk ba (hr.below hx0)
    refine wp_region_T (cs := []) [0, 1, 2, 3, 4, 5, 6, 7, 8, 9, 10, 11, 12, 13, 14, 15, 16, 17, 18, 19] [] [1] [] (fun i__ v => match i__ with | 1 => v = (.bool false) | _ => False) (fun _ _ _ => True) (by kernel_rfl) (by kernel_rfl) (fun _ _ _ _ _ _ => trivial) ?_
    refine' wpT_det (o := ⟨some 6, Op.load 35 (Operand.tmp 2), 35, "l03_factors.go:523", #[], none⟩) rfl (by rfl) (by rfl) (fun w' hw' => ?_) ?_; rotate_left
    · have c0_ := Ext.cell hw' c0; have c1_ := Ext.cell hw' c1; have c2_ := Ext.cell hw' c2; go_simp <;> first | rfl | exact ⟨rfl, rfl⟩
    simp only [Act.put, List.setIfInBounds_toArray, List.set_cons_zero, List.set_cons_succ]
    refine wpT_nd (o := ⟨some 7, Op.call { callee := Callee.value (Operand.func 104), args := #[Operand.tmp 6], argTypes := #[35] }, 4, "l03_factors.go:523", #[{ on := 0, ground := Ground.data }], none⟩) rfl (by rfl) (by rfl) (fun w' hw' hF R__ hGo => ?_) ⟨_, rfl⟩ ?_
    · go_simp
      refine gives_enter rfl ?_
      refine (isSquare_any r c A n cap xs _ (hr1.below hw'.undrew)).mono ?_
      rintro e w2 ⟨rfl, hx⟩
      exact ⟨_, rfl, hGo _ _ hx (congrArg Value.bool hv) trivial⟩
    intro v hv
    obtain rfl : v = (.bool false) := hv
    simp only [Act.put, List.setIfInBounds_toArray, List.set_cons_zero, List.set_cons_succ]
    refine' wpT_det (o := ⟨some 8, Op.unOp UnOp.not 4 (Operand.tmp 7), 4, "l03_factors.go:523", #[{ on := 1, ground := Ground.data }], none⟩) rfl (by rfl) (by rfl) (fun w' hw' => ?_) ?_; rotate_left
    · go_simp <;> first | rfl | exact ⟨rfl, rfl⟩
    simp only [Act.put, List.setIfInBounds_toArray, List.set_cons_zero, List.set_cons_succ]
    refine' wpT_det (o := ⟨some 9, Op.move (Operand.tmp 8), 4, "l03_factors.go:523", #[{ on := 2, ground := Ground.data }, { on := 1, ground := Ground.chain }], none⟩) rfl (by rfl) (by rfl) (fun w' hw' => ?_) ?_; rotate_left
    · go_simp <;> first | rfl | exact ⟨rfl, rfl⟩
    simp only [Act.put, List.setIfInBounds_toArray, List.set_cons_zero, List.set_cons_succ]
    refine wpT_skip (o := ⟨some 10, Op.move (Operand.tmp 1), 22, "l03_factors.go:523", #[{ on := 3, ground := Ground.guard }], some (3, false)⟩) rfl (by rfl) ?_
    simp only [Act.put, List.setIfInBounds_toArray, List.set_cons_zero, List.set_cons_succ]
    refine wpT_skip (o := ⟨some 11, Op.call { callee := Callee.value (Operand.func 129), args := #[Operand.tmp 10], argTypes := #[22] }, 4, "l03_factors.go:523", #[{ on := 4, ground := Ground.data }, { on := 3, ground := Ground.chain }, { on := 3, ground := Ground.guard }], some (3, false)⟩) rfl (by rfl) ?_
    simp only [Act.put, List.setIfInBounds_toArray, List.set_cons_zero, List.set_cons_succ]
    refine wpT_skip (o := ⟨some 12, Op.unOp UnOp.not 4 (Operand.tmp 11), 4, "l03_factors.go:523", #[{ on := 5, ground := Ground.data }, { on := 3, ground := Ground.guard }], some (3, false)⟩) rfl (by rfl) ?_
    simp only [Act.put, List.setIfInBounds_toArray, List.set_cons_zero, List.set_cons_succ]
    refine' wpT_det (o := ⟨some 13, Op.pick (Operand.tmp 9) (Operand.const (Value.bool true)) (Operand.tmp 12), 4, "l03_factors.go:523", #[{ on := 3, ground := Ground.data }, { on := 6, ground := Ground.data }], none⟩) rfl (by rfl) (by rfl) (fun w' hw' => ?_) ?_; rotate_left
    · go_simp <;> first | rfl | exact ⟨rfl, rfl⟩
    simp only [Act.put, List.setIfInBounds_toArray, List.set_cons_zero, List.set_cons_succ]
    refine' wpT_det (o := ⟨some 14, Op.move (Operand.tmp 13), 4, "l03_factors.go:523", #[{ on := 7, ground := Ground.data }, { on := 5, ground := Ground.chain }], none⟩) rfl (by rfl) (by rfl) (fun w' hw' => ?_) ?_; rotate_left
    · go_simp <;> first | rfl | exact ⟨rfl, rfl⟩
    simp only [Act.put, List.setIfInBounds_toArray, List.set_cons_zero, List.set_cons_succ]
    refine wpT_skip (o := ⟨some 15, Op.move (Operand.tmp 1), 22, "l03_factors.go:523", #[{ on := 8, ground := Ground.guard }], some (8, false)⟩) rfl (by rfl) ?_
    simp only [Act.put, List.setIfInBounds_toArray, List.set_cons_zero, List.set_cons_succ]
    refine wpT_skip (o := ⟨some 16, Op.call { callee := Callee.value (Operand.func 101), args := #[Operand.tmp 15], argTypes := #[22] }, 2, "l03_factors.go:523", #[{ on := 9, ground := Ground.data }, { on := 8, ground := Ground.chain }, { on := 8, ground := Ground.guard }], some (8, false)⟩) rfl (by rfl) ?_
    simp only [Act.put, List.setIfInBounds_toArray, List.set_cons_zero, List.set_cons_succ]
    refine wpT_skip (o := ⟨some 17, Op.fieldAddr 35 (Operand.tmp 2) 0, 0, "l03_factors.go:523", #[{ on := 8, ground := Ground.guard }], some (8, false)⟩) rfl (by rfl) ?_
    simp only [Act.put, List.setIfInBounds_toArray, List.set_cons_zero, List.set_cons_succ]
    refine wpT_skip (o := ⟨some 18, Op.load 2 (Operand.tmp 17), 2, "l03_factors.go:523", #[{ on := 11, ground := Ground.data }, { on := 8, ground := Ground.guard }], some (8, false)⟩) rfl (by rfl) ?_
    simp only [Act.put, List.setIfInBounds_toArray, List.set_cons_zero, List.set_cons_succ]
    refine wpT_skip (o := ⟨some 19, Op.binOp BinOp.neq 2 (Operand.tmp 16) (Operand.tmp 18) 2, 4, "l03_factors.go:523", #[{ on := 10, ground := Ground.data }, { on := 12, ground := Ground.data }, { on := 8, ground := Ground.guard }], some (8, false)⟩) rfl (by rfl) ?_
    simp only [Act.put, List.setIfInBounds_toArray, List.set_cons_zero, List.set_cons_succ]
    refine' wpT_det (o := ⟨some 20, Op.pick (Operand.tmp 14) (Operand.const (Value.bool true)) (Operand.tmp 19), 4, "l03_factors.go:523", #[{ on := 8, ground := Ground.data }, { on := 13, ground := Ground.data }], none⟩) rfl (by rfl) (by rfl) (fun w' hw' => ?_) ?_; rotate_left
    · go_simp <;> first | rfl | exact ⟨rfl, rfl⟩
    simp only [Act.put, List.setIfInBounds_toArray, List.set_cons_zero, List.set_cons_succ]
    refine' wpT_det (o := ⟨some 21, Op.move (Operand.tmp 20), 4, "l03_factors.go:523", #[{ on := 14, ground := Ground.data }, { on := 10, ground := Ground.chain }], none⟩) rfl (by rfl) (by rfl) (fun w' hw' => ?_) ?_; rotate_left
    · go_simp <;> first | rfl | exact ⟨rfl, rfl⟩
    simp only [Act.put, List.setIfInBounds_toArray, List.set_cons_zero, List.set_cons_succ]
    refine wpT_skip (o := ⟨some 22, Op.load 35 (Operand.tmp 2), 35, "l03_factors.go:523", #[{ on := 15, ground := Ground.guard }], some (15, false)⟩) rfl (by rfl) ?_
    simp only [Act.put, List.setIfInBounds_toArray, List.set_cons_zero, List.set_cons_succ]
    refine wpT_skip (o := ⟨some 23, Op.call { callee := Callee.value (Operand.func 158), args := #[Operand.tmp 22], argTypes := #[35] }, 22, "l03_factors.go:523", #[{ on := 16, ground := Ground.data }, { on := 15, ground := Ground.chain }, { on := 15, ground := Ground.guard }], some (15, false)⟩) rfl (by rfl) ?_
    simp only [Act.put, List.setIfInBounds_toArray, List.set_cons_zero, List.set_cons_succ]
    refine wpT_skip (o := ⟨some 24, Op.call { callee := Callee.value (Operand.func 157), args := #[Operand.tmp 23, Operand.const (Value.float FloatKind.f32 0)], argTypes := #[22, 39] }, 4, "l03_factors.go:523", #[{ on := 17, ground := Ground.data }, { on := 17, ground := Ground.chain }, { on := 15, ground := Ground.guard }], some (15, false)⟩) rfl (by rfl) ?_
    simp only [Act.put, List.setIfInBounds_toArray, List.set_cons_zero, List.set_cons_succ]
    refine' wpT_det (o := ⟨some 25, Op.pick (Operand.tmp 21) (Operand.const (Value.bool true)) (Operand.tmp 24), 4, "l03_factors.go:523", #[{ on := 15, ground := Ground.data }, { on := 18, ground := Ground.data }], none⟩) rfl (by rfl) (by rfl) (fun w' hw' => ?_) ?_; rotate_left
    · go_simp <;> first | rfl | exact ⟨rfl, rfl⟩
    simp only [Act.put, List.setIfInBounds_toArray, List.set_cons_zero, List.set_cons_succ]
    refine wpT_nil (fun w1 hw' hF => ?_)
    refine wpList_nil ?_
    go_wp2_with fail
    go_ret2
    exact RetLDb.bad hd (hx0.trans hw'.undrew)
  | true =>
    obtain ⟨R, rfl, rfl, p1, p2, p5⟩ := sq_all hv
    cases hv' : isVec vs with
    | false =>
      have hd := upp_bad (r := R) (c := R) (xs := xs) (vs := vs) (by unfold uppB; rw [hv, hv']; rfl)
      clear p5
      go_enter Try.func87, Try.ntmps87
      go_upto_region 1 with (fail)
      obtain ⟨w0, hw0⟩ : ∃ w0, w0 = (w.alloc (.cells #[.int .i64 R, .int .i64 R, .slice A n cap] 35)) := ⟨_, rfl⟩
      have hx0 : Ext w w0 := by subst hw0; exact (Ext.refl _).alloc _
      have ba : Blk w0 (w.heap.size) #[.int .i64 R, .int .i64 R, .slice A n cap] 35 := by subst hw0; exact (Blk.new w _ _)
      rw [← hw0]
      clear hw0
      obtain ⟨c0, c1, c2, hr1⟩ := MAt.blk ba (hr.below hx0)
      refine wp_region_T (cs := []) [0, 1, 2, 3, 4, 5, 6, 7, 8, 9, 10, 11, 12, 13, 14, 15, 16, 17, 18, 19] [] [1, 5] [] (fun i__ v => match i__ with | 1 => v = (.bool true) | 5 => v = (.bool false) | _ => False) (fun _ _ _ => True) (by kernel_rfl) (by kernel_rfl) (fun _ _ _ _ _ _ => trivial) ?_
      refine' wpT_det (o := ⟨some 6, Op.load 35 (Operand.tmp 2), 35, "l03_factors.go:523", #[], none⟩) rfl (by rfl) (by rfl) (fun w' hw' => ?_) ?_; rotate_left
      · have c0_ := Ext.cell hw' c0; have c1_ := Ext.cell hw' c1; have c2_ := Ext.cell hw' c2; go_simp <;> first | rfl | exact ⟨rfl, rfl⟩
      simp only [Act.put, List.setIfInBounds_toArray, List.set_cons_zero, List.set_cons_succ]
      refine wpT_nd (o := ⟨some 7, Op.call { callee := Callee.value (Operand.func 104), args := #[Operand.tmp 6], argTypes := #[35] }, 4, "l03_factors.go:523", #[{ on := 0, ground := Ground.data }], none⟩) rfl (by rfl) (by rfl) (fun w' hw' hF R__ hGo => ?_) ⟨_, rfl⟩ ?_
      · go_simp
        refine gives_enter rfl ?_
        refine (isSquare_any _ _ A n cap xs _ (hr1.below hw'.undrew)).mono ?_
        rintro e w2 ⟨rfl, hx⟩
        exact ⟨_, rfl, hGo _ _ hx (congrArg Value.bool hv) trivial⟩
      intro v hv
      obtain rfl : v = (.bool true) := hv
      simp only [Act.put, List.setIfInBounds_toArray, List.set_cons_zero, List.set_cons_succ]
      refine' wpT_det (o := ⟨some 8, Op.unOp UnOp.not 4 (Operand.tmp 7), 4, "l03_factors.go:523", #[{ on := 1, ground := Ground.data }], none⟩) rfl (by rfl) (by rfl) (fun w' hw' => ?_) ?_; rotate_left
      · go_simp <;> first | rfl | exact ⟨rfl, rfl⟩
      simp only [Act.put, List.setIfInBounds_toArray, List.set_cons_zero, List.set_cons_succ]
      refine' wpT_det (o := ⟨some 9, Op.move (Operand.tmp 8), 4, "l03_factors.go:523", #[{ on := 2, ground := Ground.data }, { on := 1, ground := Ground.chain }], none⟩) rfl (by rfl) (by rfl) (fun w' hw' => ?_) ?_; rotate_left
      · go_simp <;> first | rfl | exact ⟨rfl, rfl⟩
      simp only [Act.put, List.setIfInBounds_toArray, List.set_cons_zero, List.set_cons_succ]
      refine' wpT_det (o := ⟨some 10, Op.move (Operand.tmp 1), 22, "l03_factors.go:523", #[{ on := 3, ground := Ground.guard }], some (3, false)⟩) rfl (by rfl) (by rfl) (fun w' hw' => ?_) ?_; rotate_left
      · go_simp <;> first | rfl | exact ⟨rfl, rfl⟩
      simp only [Act.put, List.setIfInBounds_toArray, List.set_cons_zero, List.set_cons_succ]
      refine wpT_nd (o := ⟨some 11, Op.call { callee := Callee.value (Operand.func 129), args := #[Operand.tmp 10], argTypes := #[22] }, 4, "l03_factors.go:523", #[{ on := 4, ground := Ground.data }, { on := 3, ground := Ground.chain }, { on := 3, ground := Ground.guard }], some (3, false)⟩) rfl (by rfl) (by rfl) (fun w' hw' hF R__ hGo => ?_) ⟨_, rfl⟩ ?_
      · go_simp
        refine gives_enter rfl ?_
        refine (IsVector_any B m cap' vs _ ((hq.below hx0).below hw'.undrew)).mono ?_
        rintro e w2 ⟨rfl, hx⟩
        exact ⟨_, rfl, hGo _ _ hx (congrArg Value.bool hv') trivial⟩
      intro v hv
      obtain rfl : v = (.bool false) := hv
      simp only [Act.put, List.setIfInBounds_toArray, List.set_cons_zero, List.set_cons_succ]
      refine' wpT_det (o := ⟨some 12, Op.unOp UnOp.not 4 (Operand.tmp 11), 4, "l03_factors.go:523", #[{ on := 5, ground := Ground.data }, { on := 3, ground := Ground.guard }], some (3, false)⟩) rfl (by rfl) (by rfl) (fun w' hw' => ?_) ?_; rotate_left
      · go_simp <;> first | rfl | exact ⟨rfl, rfl⟩
      simp only [Act.put, List.setIfInBounds_toArray, List.set_cons_zero, List.set_cons_succ]
      refine' wpT_det (o := ⟨some 13, Op.pick (Operand.tmp 9) (Operand.const (Value.bool true)) (Operand.tmp 12), 4, "l03_factors.go:523", #[{ on := 3, ground := Ground.data }, { on := 6, ground := Ground.data }], none⟩) rfl (by rfl) (by rfl) (fun w' hw' => ?_) ?_; rotate_left
      · go_simp <;> first | rfl | exact ⟨rfl, rfl⟩
      simp only [Act.put, List.setIfInBounds_toArray, List.set_cons_zero, List.set_cons_succ]
      refine' wpT_det (o := ⟨some 14, Op.move (Operand.tmp 13), 4, "l03_factors.go:523", #[{ on := 7, ground := Ground.data }, { on := 5, ground := Ground.chain }], none⟩) rfl (by rfl) (by rfl) (fun w' hw' => ?_) ?_; rotate_left
      · go_simp <;> first | rfl | exact ⟨rfl, rfl⟩
      simp only [Act.put, List.setIfInBounds_toArray, List.set_cons_zero, List.set_cons_succ]
      refine wpT_skip (o := ⟨some 15, Op.move (Operand.tmp 1), 22, "l03_factors.go:523", #[{ on := 8, ground := Ground.guard }], some (8, false)⟩) rfl (by rfl) ?_
      simp only [Act.put, List.setIfInBounds_toArray, List.set_cons_zero, List.set_cons_succ]
      refine wpT_skip (o := ⟨some 16, Op.call { callee := Callee.value (Operand.func 101), args := #[Operand.tmp 15], argTypes := #[22] }, 2, "l03_factors.go:523", #[{ on := 9, ground := Ground.data }, { on := 8, ground := Ground.chain }, { on := 8, ground := Ground.guard }], some (8, false)⟩) rfl (by rfl) ?_
      simp only [Act.put, List.setIfInBounds_toArray, List.set_cons_zero, List.set_cons_succ]
      refine wpT_skip (o := ⟨some 17, Op.fieldAddr 35 (Operand.tmp 2) 0, 0, "l03_factors.go:523", #[{ on := 8, ground := Ground.guard }], some (8, false)⟩) rfl (by rfl) ?_
      simp only [Act.put, List.setIfInBounds_toArray, List.set_cons_zero, List.set_cons_succ]
      refine wpT_skip (o := ⟨some 18, Op.load 2 (Operand.tmp 17), 2, "l03_factors.go:523", #[{ on := 11, ground := Ground.data }, { on := 8, ground := Ground.guard }], some (8, false)⟩) rfl (by rfl) ?_
      simp only [Act.put, List.setIfInBounds_toArray, List.set_cons_zero, List.set_cons_succ]
      refine wpT_skip (o := ⟨some 19, Op.binOp BinOp.neq 2 (Operand.tmp 16) (Operand.tmp 18) 2, 4, "l03_factors.go:523", #[{ on := 10, ground := Ground.data }, { on := 12, ground := Ground.data }, { on := 8, ground := Ground.guard }], some (8, false)⟩) rfl (by rfl) ?_
      simp only [Act.put, List.setIfInBounds_toArray, List.set_cons_zero, List.set_cons_succ]
      refine' wpT_det (o := ⟨some 20, Op.pick (Operand.tmp 14) (Operand.const (Value.bool true)) (Operand.tmp 19), 4, "l03_factors.go:523", #[{ on := 8, ground := Ground.data }, { on := 13, ground := Ground.data }], none⟩) rfl (by rfl) (by rfl) (fun w' hw' => ?_) ?_; rotate_left
      · go_simp <;> first | rfl | exact ⟨rfl, rfl⟩
      simp only [Act.put, List.setIfInBounds_toArray, List.set_cons_zero, List.set_cons_succ]
      refine' wpT_det (o := ⟨some 21, Op.move (Operand.tmp 20), 4, "l03_factors.go:523", #[{ on := 14, ground := Ground.data }, { on := 10, ground := Ground.chain }], none⟩) rfl (by rfl) (by rfl) (fun w' hw' => ?_) ?_; rotate_left
      · go_simp <;> first | rfl | exact ⟨rfl, rfl⟩
      simp only [Act.put, List.setIfInBounds_toArray, List.set_cons_zero, List.set_cons_succ]
      refine wpT_skip (o := ⟨some 22, Op.load 35 (Operand.tmp 2), 35, "l03_factors.go:523", #[{ on := 15, ground := Ground.guard }], some (15, false)⟩) rfl (by rfl) ?_
      simp only [Act.put, List.setIfInBounds_toArray, List.set_cons_zero, List.set_cons_succ]
      refine wpT_skip (o := ⟨some 23, Op.call { callee := Callee.value (Operand.func 158), args := #[Operand.tmp 22], argTypes := #[35] }, 22, "l03_factors.go:523", #[{ on := 16, ground := Ground.data }, { on := 15, ground := Ground.chain }, { on := 15, ground := Ground.guard }], some (15, false)⟩) rfl (by rfl) ?_
      simp only [Act.put, List.setIfInBounds_toArray, List.set_cons_zero, List.set_cons_succ]
      refine wpT_skip (o := ⟨some 24, Op.call { callee := Callee.value (Operand.func 157), args := #[Operand.tmp 23, Operand.const (Value.float FloatKind.f32 0)], argTypes := #[22, 39] }, 4, "l03_factors.go:523", #[{ on := 17, ground := Ground.data }, { on := 17, ground := Ground.chain }, { on := 15, ground := Ground.guard }], some (15, false)⟩) rfl (by rfl) ?_
      simp only [Act.put, List.setIfInBounds_toArray, List.set_cons_zero, List.set_cons_succ]
      refine' wpT_det (o := ⟨some 25, Op.pick (Operand.tmp 21) (Operand.const (Value.bool true)) (Operand.tmp 24), 4, "l03_factors.go:523", #[{ on := 15, ground := Ground.data }, { on := 18, ground := Ground.data }], none⟩) rfl (by rfl) (by rfl) (fun w' hw' => ?_) ?_; rotate_left
      · go_simp <;> first | rfl | exact ⟨rfl, rfl⟩
      simp only [Act.put, List.setIfInBounds_toArray, List.set_cons_zero, List.set_cons_succ]
      refine wpT_nil (fun w1 hw' hF => ?_)
      refine wpList_nil ?_
      go_wp2_with fail
      go_ret2
      exact RetLDb.bad hd (hx0.trans hw'.undrew)
    | true =>
      by_cases hc : m = R
      · have hc' : ((m : Int) != (R : Int)) = false := by simp [hc]
        have hb : uppB R R xs vs = true := by unfold uppB; rw [hv, hv', HL'.out, hc]; simp
        obtain rfl := hc
        have HD := Lib.hid (upp_good hb)
        have Hn : Hid (n = m * m) := by have := HL.out; show n = _; omega
        cases hz : (midL xs m m).any is0 with
        | true =>
          have hd : uppD m m xs vs = ([], false) := by rw [HD.out]; show l03D xs vs m = _; unfold l03D; rw [hz]; rfl
          clear p5 hb
          go_enter Try.func87, Try.ntmps87
          go_upto_region 1 with (fail)
          obtain ⟨w0, hw0⟩ : ∃ w0, w0 = (w.alloc (.cells #[.int .i64 m, .int .i64 m, .slice A n cap] 35)) := ⟨_, rfl⟩
          have hx0 : Ext w w0 := by subst hw0; exact (Ext.refl _).alloc _
          have ba : Blk w0 (w.heap.size) #[.int .i64 m, .int .i64 m, .slice A n cap] 35 := by subst hw0; exact (Blk.new w _ _)
          rw [← hw0]
          clear hw0
          obtain ⟨c0, c1, c2, hr1⟩ := MAt.blk ba (hr.below hx0)
          refine wp_region_T (cs := []) [0, 1, 2, 3, 4, 5, 6, 7, 8, 9, 10, 11, 12, 13, 14, 15, 16, 17, 18, 19] [] [1, 5, 10, 17, 18] [(18, [17])] (fun i__ v => match i__ with | 1 => v = (.bool true) | 5 => v = (.bool true) | 10 => v = (.int .i64 m) | 17 => ∃ (A : Option Addr) (k : Nat), v = (.slice A m k) | 18 => v = (.bool true) | _ => False) (fun i__ v w' => match i__ with | 17 => OwnF w' w0.heap.size 39 v [] (flts (midL xs m m)) | _ => True) (by kernel_rfl) (by kernel_rfl) (by intro i v w' w2 h hx; revert h; (try dsimp only); split <;> intro h <;> first | trivial | exact OwnF.ext h hx) ?_
          refine' wpT_det (o := ⟨some 6, Op.load 35 (Operand.tmp 2), 35, "l03_factors.go:523", #[], none⟩) rfl (by rfl) (by rfl) (fun w' hw' => ?_) ?_; rotate_left
          · have c0_ := Ext.cell hw' c0; have c1_ := Ext.cell hw' c1; have c2_ := Ext.cell hw' c2; go_simp <;> first | rfl | exact ⟨rfl, rfl⟩
          simp only [Act.put, List.setIfInBounds_toArray, List.set_cons_zero, List.set_cons_succ]
          refine wpT_nd (o := ⟨some 7, Op.call { callee := Callee.value (Operand.func 104), args := #[Operand.tmp 6], argTypes := #[35] }, 4, "l03_factors.go:523", #[{ on := 0, ground := Ground.data }], none⟩) rfl (by rfl) (by rfl) (fun w' hw' hF R__ hGo => ?_) ⟨_, rfl⟩ ?_
          · go_simp
            refine gives_enter rfl ?_
            refine (isSquare_any _ _ A n cap xs _ (hr1.below hw'.undrew)).mono ?_
            rintro e w2 ⟨rfl, hx⟩
            exact ⟨_, rfl, hGo _ _ hx (congrArg Value.bool hv) trivial⟩
          intro v hv
          obtain rfl : v = (.bool true) := hv
          simp only [Act.put, List.setIfInBounds_toArray, List.set_cons_zero, List.set_cons_succ]
          refine' wpT_det (o := ⟨some 8, Op.unOp UnOp.not 4 (Operand.tmp 7), 4, "l03_factors.go:523", #[{ on := 1, ground := Ground.data }], none⟩) rfl (by rfl) (by rfl) (fun w' hw' => ?_) ?_; rotate_left
          · go_simp <;> first | rfl | exact ⟨rfl, rfl⟩
          simp only [Act.put, List.setIfInBounds_toArray, List.set_cons_zero, List.set_cons_succ]
          refine' wpT_det (o := ⟨some 9, Op.move (Operand.tmp 8), 4, "l03_factors.go:523", #[{ on := 2, ground := Ground.data }, { on := 1, ground := Ground.chain }], none⟩) rfl (by rfl) (by rfl) (fun w' hw' => ?_) ?_; rotate_left
          · go_simp <;> first | rfl | exact ⟨rfl, rfl⟩
          simp only [Act.put, List.setIfInBounds_toArray, List.set_cons_zero, List.set_cons_succ]
          refine' wpT_det (o := ⟨some 10, Op.move (Operand.tmp 1), 22, "l03_factors.go:523", #[{ on := 3, ground := Ground.guard }], some (3, false)⟩) rfl (by rfl) (by rfl) (fun w' hw' => ?_) ?_; rotate_left
          · go_simp <;> first | rfl | exact ⟨rfl, rfl⟩
          simp only [Act.put, List.setIfInBounds_toArray, List.set_cons_zero, List.set_cons_succ]
          refine wpT_nd (o := ⟨some 11, Op.call { callee := Callee.value (Operand.func 129), args := #[Operand.tmp 10], argTypes := #[22] }, 4, "l03_factors.go:523", #[{ on := 4, ground := Ground.data }, { on := 3, ground := Ground.chain }, { on := 3, ground := Ground.guard }], some (3, false)⟩) rfl (by rfl) (by rfl) (fun w' hw' hF R__ hGo => ?_) ⟨_, rfl⟩ ?_
          · go_simp
            refine gives_enter rfl ?_
            refine (IsVector_any B m cap' vs _ ((hq.below hx0).below hw'.undrew)).mono ?_
            rintro e w2 ⟨rfl, hx⟩
            exact ⟨_, rfl, hGo _ _ hx (congrArg Value.bool hv') trivial⟩
          intro v hv
          obtain rfl : v = (.bool true) := hv
          simp only [Act.put, List.setIfInBounds_toArray, List.set_cons_zero, List.set_cons_succ]
          refine' wpT_det (o := ⟨some 12, Op.unOp UnOp.not 4 (Operand.tmp 11), 4, "l03_factors.go:523", #[{ on := 5, ground := Ground.data }, { on := 3, ground := Ground.guard }], some (3, false)⟩) rfl (by rfl) (by rfl) (fun w' hw' => ?_) ?_; rotate_left
          · go_simp <;> first | rfl | exact ⟨rfl, rfl⟩
          simp only [Act.put, List.setIfInBounds_toArray, List.set_cons_zero, List.set_cons_succ]
          refine' wpT_det (o := ⟨some 13, Op.pick (Operand.tmp 9) (Operand.const (Value.bool true)) (Operand.tmp 12), 4, "l03_factors.go:523", #[{ on := 3, ground := Ground.data }, { on := 6, ground := Ground.data }], none⟩) rfl (by rfl) (by rfl) (fun w' hw' => ?_) ?_; rotate_left
          · go_simp <;> first | rfl | exact ⟨rfl, rfl⟩
          simp only [Act.put, List.setIfInBounds_toArray, List.set_cons_zero, List.set_cons_succ]
          refine' wpT_det (o := ⟨some 14, Op.move (Operand.tmp 13), 4, "l03_factors.go:523", #[{ on := 7, ground := Ground.data }, { on := 5, ground := Ground.chain }], none⟩) rfl (by rfl) (by rfl) (fun w' hw' => ?_) ?_; rotate_left
          · go_simp <;> first | rfl | exact ⟨rfl, rfl⟩
          simp only [Act.put, List.setIfInBounds_toArray, List.set_cons_zero, List.set_cons_succ]
          refine' wpT_det (o := ⟨some 15, Op.move (Operand.tmp 1), 22, "l03_factors.go:523", #[{ on := 8, ground := Ground.guard }], some (8, false)⟩) rfl (by rfl) (by rfl) (fun w' hw' => ?_) ?_; rotate_left
          · go_simp <;> first | rfl | exact ⟨rfl, rfl⟩
          simp only [Act.put, List.setIfInBounds_toArray, List.set_cons_zero, List.set_cons_succ]
          refine wpT_nd (o := ⟨some 16, Op.call { callee := Callee.value (Operand.func 101), args := #[Operand.tmp 15], argTypes := #[22] }, 2, "l03_factors.go:523", #[{ on := 9, ground := Ground.data }, { on := 8, ground := Ground.chain }, { on := 8, ground := Ground.guard }], some (8, false)⟩) rfl (by rfl) (by rfl) (fun w' hw' hF R__ hGo => ?_) ⟨_, rfl⟩ ?_
          · go_simp
            refine gives_enter rfl ?_
            refine (lengthF_any _ _ _ hsm _).mono ?_
            rintro e w2 ⟨rfl, rfl⟩
            exact ⟨_, rfl, hGo _ _ (Ext.refl _) rfl trivial⟩
          intro v hv
          obtain rfl : v = (.int .i64 m) := hv
          simp only [Act.put, List.setIfInBounds_toArray, List.set_cons_zero, List.set_cons_succ]
          refine' wpT_det (o := ⟨some 17, Op.fieldAddr 35 (Operand.tmp 2) 0, 0, "l03_factors.go:523", #[{ on := 8, ground := Ground.guard }], some (8, false)⟩) rfl (by rfl) (by rfl) (fun w' hw' => ?_) ?_; rotate_left
          · go_simp <;> first | rfl | exact ⟨rfl, rfl⟩
          simp only [Act.put, List.setIfInBounds_toArray, List.set_cons_zero, List.set_cons_succ]
          refine' wpT_det (o := ⟨some 18, Op.load 2 (Operand.tmp 17), 2, "l03_factors.go:523", #[{ on := 11, ground := Ground.data }, { on := 8, ground := Ground.guard }], some (8, false)⟩) rfl (by rfl) (by rfl) (fun w' hw' => ?_) ?_; rotate_left
          · have c0_ := Ext.cell hw' c0; have c1_ := Ext.cell hw' c1; have c2_ := Ext.cell hw' c2; go_simp <;> first | rfl | exact ⟨rfl, rfl⟩
          simp only [Act.put, List.setIfInBounds_toArray, List.set_cons_zero, List.set_cons_succ]
          refine' wpT_det (o := ⟨some 19, Op.binOp BinOp.neq 2 (Operand.tmp 16) (Operand.tmp 18) 2, 4, "l03_factors.go:523", #[{ on := 10, ground := Ground.data }, { on := 12, ground := Ground.data }, { on := 8, ground := Ground.guard }], some (8, false)⟩) rfl (by rfl) (by rfl) (fun w' hw' => ?_) ?_; rotate_left
          · go_simp <;> first | rfl | exact ⟨rfl, rfl⟩
          simp only [Act.put, List.setIfInBounds_toArray, List.set_cons_zero, List.set_cons_succ]
          refine' wpT_det (o := ⟨some 20, Op.pick (Operand.tmp 14) (Operand.const (Value.bool true)) (Operand.tmp 19), 4, "l03_factors.go:523", #[{ on := 8, ground := Ground.data }, { on := 13, ground := Ground.data }], none⟩) rfl (by rfl) (by rfl) (fun w' hw' => ?_) ?_; rotate_left
          · go_simp <;> first | rfl | exact ⟨rfl, rfl⟩
          simp only [Act.put, List.setIfInBounds_toArray, List.set_cons_zero, List.set_cons_succ]
          refine' wpT_det (o := ⟨some 21, Op.move (Operand.tmp 20), 4, "l03_factors.go:523", #[{ on := 14, ground := Ground.data }, { on := 10, ground := Ground.chain }], none⟩) rfl (by rfl) (by rfl) (fun w' hw' => ?_) ?_; rotate_left
          · go_simp <;> first | rfl | exact ⟨rfl, rfl⟩
          simp only [Act.put, List.setIfInBounds_toArray, List.set_cons_zero, List.set_cons_succ]
          refine' wpT_det (o := ⟨some 22, Op.load 35 (Operand.tmp 2), 35, "l03_factors.go:523", #[{ on := 15, ground := Ground.guard }], some (15, false)⟩) rfl (by rfl) (by rfl) (fun w' hw' => ?_) ?_; rotate_left
          · have c0_ := Ext.cell hw' c0; have c1_ := Ext.cell hw' c1; have c2_ := Ext.cell hw' c2; go_simp <;> first | rfl | exact ⟨rfl, rfl⟩
          simp only [Act.put, List.setIfInBounds_toArray, List.set_cons_zero, List.set_cons_succ]
          refine wpT_nd (o := ⟨some 23, Op.call { callee := Callee.value (Operand.func 158), args := #[Operand.tmp 22], argTypes := #[35] }, 22, "l03_factors.go:523", #[{ on := 16, ground := Ground.data }, { on := 15, ground := Ground.chain }, { on := 15, ground := Ground.guard }], some (15, false)⟩) rfl (by rfl) (by rfl) (fun w' hw' hF R__ hGo => ?_) ⟨_, none, 0, rfl⟩ ?_
          · go_simp
            refine gives_enter rfl ?_
            refine (middle_any m n cap A xs _ p2 Hn.out (hr1.below hw'.undrew)).mono ?_
            rintro e w2 ⟨A3, k3, rfl, o3, hx⟩
            exact ⟨_, rfl, hGo _ _ hx ⟨_, _, rfl⟩ (OwnF.of (o3.base hw'.size) rfl)⟩
          rintro _ ⟨A3, k3, rfl⟩
          simp only [Act.put, List.setIfInBounds_toArray, List.set_cons_zero, List.set_cons_succ]
          refine wpT_nd (o := ⟨some 24, Op.call { callee := Callee.value (Operand.func 157), args := #[Operand.tmp 23, Operand.const (Value.float FloatKind.f32 0)], argTypes := #[22, 39] }, 4, "l03_factors.go:523", #[{ on := 17, ground := Ground.data }, { on := 17, ground := Ground.chain }, { on := 15, ground := Ground.guard }], some (15, false)⟩) rfl (by rfl) (by rfl) (fun w' hw' hF R__ hGo => ?_) ⟨_, rfl⟩ ?_
          · go_simp
            refine gives_enter rfl ?_
            refine (contains0_any A3 m k3 (midL xs m m) _ ((hF 17 (by simp [uses]) _ rfl) _ _ _ rfl).reads).mono ?_
            rintro e w2 ⟨rfl, hx⟩
            exact ⟨_, rfl, hGo _ _ hx (congrArg Value.bool hz) trivial⟩
          intro v hv
          obtain rfl : v = (.bool true) := hv
          simp only [Act.put, List.setIfInBounds_toArray, List.set_cons_zero, List.set_cons_succ]
          refine' wpT_det (o := ⟨some 25, Op.pick (Operand.tmp 21) (Operand.const (Value.bool true)) (Operand.tmp 24), 4, "l03_factors.go:523", #[{ on := 15, ground := Ground.data }, { on := 18, ground := Ground.data }], none⟩) rfl (by rfl) (by rfl) (fun w' hw' => ?_) ?_; rotate_left
          · go_simp <;> first | rfl | exact ⟨rfl, rfl⟩
          simp only [Act.put, List.setIfInBounds_toArray, List.set_cons_zero, List.set_cons_succ]
          refine wpT_nil (fun w1 hw' hF => ?_)
          refine wpList_nil ?_
          go_wp2_with fail
          go_ret2
          exact RetLDb.bad hd (hx0.trans hw'.undrew)
        | false =>
          obtain ⟨d, hd⟩ : ∃ d, d = uppD m m xs vs := ⟨_, rfl⟩
          have hd2 : giveL (lst m (UX (coef xs m) (entry vs) m m)) = d := by rw [hd, HD.out]; show _ = l03D xs vs m; unfold l03D; rw [hz]; rfl
          have HD2 := Lib.hid hd2
          rw [← hd]
          clear hd hd2 hb p5
          go_enter Try.func87, Try.ntmps87
          go_upto_region 1 with (fail)
          obtain ⟨w0, hw0⟩ : ∃ w0, w0 = (w.alloc (.cells #[.int .i64 m, .int .i64 m, .slice A n cap] 35)) := ⟨_, rfl⟩
          have hx0 : Ext w w0 := by subst hw0; exact (Ext.refl _).alloc _
          have ba : Blk w0 (w.heap.size) #[.int .i64 m, .int .i64 m, .slice A n cap] 35 := by subst hw0; exact (Blk.new w _ _)
          rw [← hw0]
          clear hw0
          obtain ⟨c0, c1, c2, hr1⟩ := MAt.blk ba (hr.below hx0)
          refine wp_region_T (cs := []) [0, 1, 2, 3, 4, 5, 6, 7, 8, 9, 10, 11, 12, 13, 14, 15, 16, 17, 18, 19] [] [1, 5, 10, 17, 18] [(18, [17])] (fun i__ v => match i__ with | 1 => v = (.bool true) | 5 => v = (.bool true) | 10 => v = (.int .i64 m) | 17 => ∃ (A : Option Addr) (k : Nat), v = (.slice A m k) | 18 => v = (.bool false) | _ => False) (fun i__ v w' => match i__ with | 17 => OwnF w' w0.heap.size 39 v [] (flts (midL xs m m)) | _ => True) (by kernel_rfl) (by kernel_rfl) (by intro i v w' w2 h hx; revert h; (try dsimp only); split <;> intro h <;> first | trivial | exact OwnF.ext h hx) ?_
          refine' wpT_det (o := ⟨some 6, Op.load 35 (Operand.tmp 2), 35, "l03_factors.go:523", #[], none⟩) rfl (by rfl) (by rfl) (fun w' hw' => ?_) ?_; rotate_left
          · have c0_ := Ext.cell hw' c0; have c1_ := Ext.cell hw' c1; have c2_ := Ext.cell hw' c2; go_simp <;> first | rfl | exact ⟨rfl, rfl⟩
          simp only [Act.put, List.setIfInBounds_toArray, List.set_cons_zero, List.set_cons_succ]
          refine wpT_nd (o := ⟨some 7, Op.call { callee := Callee.value (Operand.func 104), args := #[Operand.tmp 6], argTypes := #[35] }, 4, "l03_factors.go:523", #[{ on := 0, ground := Ground.data }], none⟩) rfl (by rfl) (by rfl) (fun w' hw' hF R__ hGo => ?_) ⟨_, rfl⟩ ?_
          · go_simp
            refine gives_enter rfl ?_
            refine (isSquare_any _ _ A n cap xs _ (hr1.below hw'.undrew)).mono ?_
            rintro e w2 ⟨rfl, hx⟩
            exact ⟨_, rfl, hGo _ _ hx (congrArg Value.bool hv) trivial⟩
          intro v hv
          obtain rfl : v = (.bool true) := hv
          simp only [Act.put, List.setIfInBounds_toArray, List.set_cons_zero, List.set_cons_succ]
          refine' wpT_det (o := ⟨some 8, Op.unOp UnOp.not 4 (Operand.tmp 7), 4, "l03_factors.go:523", #[{ on := 1, ground := Ground.data }], none⟩) rfl (by rfl) (by rfl) (fun w' hw' => ?_) ?_; rotate_left
          · go_simp <;> first | rfl | exact ⟨rfl, rfl⟩
          simp only [Act.put, List.setIfInBounds_toArray, List.set_cons_zero, List.set_cons_succ]
          refine' wpT_det (o := ⟨some 9, Op.move (Operand.tmp 8), 4, "l03_factors.go:523", #[{ on := 2, ground := Ground.data }, { on := 1, ground := Ground.chain }], none⟩) rfl (by rfl) (by rfl) (fun w' hw' => ?_) ?_; rotate_left
          · go_simp <;> first | rfl | exact ⟨rfl, rfl⟩
          simp only [Act.put, List.setIfInBounds_toArray, List.set_cons_zero, List.set_cons_succ]
          refine' wpT_det (o := ⟨some 10, Op.move (Operand.tmp 1), 22, "l03_factors.go:523", #[{ on := 3, ground := Ground.guard }], some (3, false)⟩) rfl (by rfl) (by rfl) (fun w' hw' => ?_) ?_; rotate_left
          · go_simp <;> first | rfl | exact ⟨rfl, rfl⟩
          simp only [Act.put, List.setIfInBounds_toArray, List.set_cons_zero, List.set_cons_succ]
          refine wpT_nd (o := ⟨some 11, Op.call { callee := Callee.value (Operand.func 129), args := #[Operand.tmp 10], argTypes := #[22] }, 4, "l03_factors.go:523", #[{ on := 4, ground := Ground.data }, { on := 3, ground := Ground.chain }, { on := 3, ground := Ground.guard }], some (3, false)⟩) rfl (by rfl) (by rfl) (fun w' hw' hF R__ hGo => ?_) ⟨_, rfl⟩ ?_
          · go_simp
            refine gives_enter rfl ?_
            refine (IsVector_any B m cap' vs _ ((hq.below hx0).below hw'.undrew)).mono ?_
            rintro e w2 ⟨rfl, hx⟩
            exact ⟨_, rfl, hGo _ _ hx (congrArg Value.bool hv') trivial⟩
          intro v hv
          obtain rfl : v = (.bool true) := hv
          simp only [Act.put, List.setIfInBounds_toArray, List.set_cons_zero, List.set_cons_succ]
          refine' wpT_det (o := ⟨some 12, Op.unOp UnOp.not 4 (Operand.tmp 11), 4, "l03_factors.go:523", #[{ on := 5, ground := Ground.data }, { on := 3, ground := Ground.guard }], some (3, false)⟩) rfl (by rfl) (by rfl) (fun w' hw' => ?_) ?_; rotate_left
          · go_simp <;> first | rfl | exact ⟨rfl, rfl⟩
          simp only [Act.put, List.setIfInBounds_toArray, List.set_cons_zero, List.set_cons_succ]
          refine' wpT_det (o := ⟨some 13, Op.pick (Operand.tmp 9) (Operand.const (Value.bool true)) (Operand.tmp 12), 4, "l03_factors.go:523", #[{ on := 3, ground := Ground.data }, { on := 6, ground := Ground.data }], none⟩) rfl (by rfl) (by rfl) (fun w' hw' => ?_) ?_; rotate_left
          · go_simp <;> first | rfl | exact ⟨rfl, rfl⟩
          simp only [Act.put, List.setIfInBounds_toArray, List.set_cons_zero, List.set_cons_succ]
          refine' wpT_det (o := ⟨some 14, Op.move (Operand.tmp 13), 4, "l03_factors.go:523", #[{ on := 7, ground := Ground.data }, { on := 5, ground := Ground.chain }], none⟩) rfl (by rfl) (by rfl) (fun w' hw' => ?_) ?_; rotate_left
          · go_simp <;> first | rfl | exact ⟨rfl, rfl⟩
          simp only [Act.put, List.setIfInBounds_toArray, List.set_cons_zero, List.set_cons_succ]
          refine' wpT_det (o := ⟨some 15, Op.move (Operand.tmp 1), 22, "l03_factors.go:523", #[{ on := 8, ground := Ground.guard }], some (8, false)⟩) rfl (by rfl) (by rfl) (fun w' hw' => ?_) ?_; rotate_left
          · go_simp <;> first | rfl | exact ⟨rfl, rfl⟩
          simp only [Act.put, List.setIfInBounds_toArray, List.set_cons_zero, List.set_cons_succ]
          refine wpT_nd (o := ⟨some 16, Op.call { callee := Callee.value (Operand.func 101), args := #[Operand.tmp 15], argTypes := #[22] }, 2, "l03_factors.go:523", #[{ on := 9, ground := Ground.data }, { on := 8, ground := Ground.chain }, { on := 8, ground := Ground.guard }], some (8, false)⟩) rfl (by rfl) (by rfl) (fun w' hw' hF R__ hGo => ?_) ⟨_, rfl⟩ ?_
          · go_simp
            refine gives_enter rfl ?_
            refine (lengthF_any _ _ _ hsm _).mono ?_
            rintro e w2 ⟨rfl, rfl⟩
            exact ⟨_, rfl, hGo _ _ (Ext.refl _) rfl trivial⟩
          intro v hv
          obtain rfl : v = (.int .i64 m) := hv
          simp only [Act.put, List.setIfInBounds_toArray, List.set_cons_zero, List.set_cons_succ]
          refine' wpT_det (o := ⟨some 17, Op.fieldAddr 35 (Operand.tmp 2) 0, 0, "l03_factors.go:523", #[{ on := 8, ground := Ground.guard }], some (8, false)⟩) rfl (by rfl) (by rfl) (fun w' hw' => ?_) ?_; rotate_left
          · go_simp <;> first | rfl | exact ⟨rfl, rfl⟩
          simp only [Act.put, List.setIfInBounds_toArray, List.set_cons_zero, List.set_cons_succ]
          refine' wpT_det (o := ⟨some 18, Op.load 2 (Operand.tmp 17), 2, "l03_factors.go:523", #[{ on := 11, ground := Ground.data }, { on := 8, ground := Ground.guard }], some (8, false)⟩) rfl (by rfl) (by rfl) (fun w' hw' => ?_) ?_; rotate_left
          · have c0_ := Ext.cell hw' c0; have c1_ := Ext.cell hw' c1; have c2_ := Ext.cell hw' c2; go_simp <;> first | rfl | exact ⟨rfl, rfl⟩
          simp only [Act.put, List.setIfInBounds_toArray, List.set_cons_zero, List.set_cons_succ]
          refine' wpT_det (o := ⟨some 19, Op.binOp BinOp.neq 2 (Operand.tmp 16) (Operand.tmp 18) 2, 4, "l03_factors.go:523", #[{ on := 10, ground := Ground.data }, { on := 12, ground := Ground.data }, { on := 8, ground := Ground.guard }], some (8, false)⟩) rfl (by rfl) (by rfl) (fun w' hw' => ?_) ?_; rotate_left
          · go_simp <;> first | rfl | exact ⟨rfl, rfl⟩
          simp only [Act.put, List.setIfInBounds_toArray, List.set_cons_zero, List.set_cons_succ]
          refine' wpT_det (o := ⟨some 20, Op.pick (Operand.tmp 14) (Operand.const (Value.bool true)) (Operand.tmp 19), 4, "l03_factors.go:523", #[{ on := 8, ground := Ground.data }, { on := 13, ground := Ground.data }], none⟩) rfl (by rfl) (by rfl) (fun w' hw' => ?_) ?_; rotate_left
          · go_simp <;> first | rfl | exact ⟨rfl, rfl⟩
          simp only [Act.put, List.setIfInBounds_toArray, List.set_cons_zero, List.set_cons_succ]
          refine' wpT_det (o := ⟨some 21, Op.move (Operand.tmp 20), 4, "l03_factors.go:523", #[{ on := 14, ground := Ground.data }, { on := 10, ground := Ground.chain }], none⟩) rfl (by rfl) (by rfl) (fun w' hw' => ?_) ?_; rotate_left
          · go_simp <;> first | rfl | exact ⟨rfl, rfl⟩
          simp only [Act.put, List.setIfInBounds_toArray, List.set_cons_zero, List.set_cons_succ]
          refine' wpT_det (o := ⟨some 22, Op.load 35 (Operand.tmp 2), 35, "l03_factors.go:523", #[{ on := 15, ground := Ground.guard }], some (15, false)⟩) rfl (by rfl) (by rfl) (fun w' hw' => ?_) ?_; rotate_left
          · have c0_ := Ext.cell hw' c0; have c1_ := Ext.cell hw' c1; have c2_ := Ext.cell hw' c2; go_simp <;> first | rfl | exact ⟨rfl, rfl⟩
          simp only [Act.put, List.setIfInBounds_toArray, List.set_cons_zero, List.set_cons_succ]
          refine wpT_nd (o := ⟨some 23, Op.call { callee := Callee.value (Operand.func 158), args := #[Operand.tmp 22], argTypes := #[35] }, 22, "l03_factors.go:523", #[{ on := 16, ground := Ground.data }, { on := 15, ground := Ground.chain }, { on := 15, ground := Ground.guard }], some (15, false)⟩) rfl (by rfl) (by rfl) (fun w' hw' hF R__ hGo => ?_) ⟨_, none, 0, rfl⟩ ?_
          · go_simp
            refine gives_enter rfl ?_
            refine (middle_any m n cap A xs _ p2 Hn.out (hr1.below hw'.undrew)).mono ?_
            rintro e w2 ⟨A3, k3, rfl, o3, hx⟩
            exact ⟨_, rfl, hGo _ _ hx ⟨_, _, rfl⟩ (OwnF.of (o3.base hw'.size) rfl)⟩
          rintro _ ⟨A3, k3, rfl⟩
          simp only [Act.put, List.setIfInBounds_toArray, List.set_cons_zero, List.set_cons_succ]
          refine wpT_nd (o := ⟨some 24, Op.call { callee := Callee.value (Operand.func 157), args := #[Operand.tmp 23, Operand.const (Value.float FloatKind.f32 0)], argTypes := #[22, 39] }, 4, "l03_factors.go:523", #[{ on := 17, ground := Ground.data }, { on := 17, ground := Ground.chain }, { on := 15, ground := Ground.guard }], some (15, false)⟩) rfl (by rfl) (by rfl) (fun w' hw' hF R__ hGo => ?_) ⟨_, rfl⟩ ?_
          · go_simp
            refine gives_enter rfl ?_
            refine (contains0_any A3 m k3 (midL xs m m) _ ((hF 17 (by simp [uses]) _ rfl) _ _ _ rfl).reads).mono ?_
            rintro e w2 ⟨rfl, hx⟩
            exact ⟨_, rfl, hGo _ _ hx (congrArg Value.bool hz) trivial⟩
          intro v hv
          obtain rfl : v = (.bool false) := hv
          simp only [Act.put, List.setIfInBounds_toArray, List.set_cons_zero, List.set_cons_succ]
          refine' wpT_det (o := ⟨some 25, Op.pick (Operand.tmp 21) (Operand.const (Value.bool true)) (Operand.tmp 24), 4, "l03_factors.go:523", #[{ on := 15, ground := Ground.data }, { on := 18, ground := Ground.data }], none⟩) rfl (by rfl) (by rfl) (fun w' hw' => ?_) ?_; rotate_left
          · go_simp <;> first | rfl | exact ⟨rfl, rfl⟩
          simp only [Act.put, List.setIfInBounds_toArray, List.set_cons_zero, List.set_cons_succ]
          refine wpT_nil (fun w1 hw' hF => ?_)
          refine wpList_nil ?_
          replace ba := ba.ext hw'.undrew
          replace hx0 := hx0.trans hw'.undrew
          clear c0 c1 c2 hr1 hF hw'
          obtain ⟨c0, c1, c2, hr1⟩ := MAt.blk ba (hr.below hx0)
          go_wp2_with fail
          refine (upperSolve_any m n cap cap' A B xs vs _ p1 p2 Hn.out hr1 (hq.below hx0)).mono ?_
          rintro e w3 ⟨A1, k1, zs, hzs, rfl, ho, hx⟩
          have ho' := ho.base hx0.size
          replace hx0 := hx0.trans hx
          clear ho hx c0 c1 c2 hr1
          go_wp2_with fail
          refine (allFinite_any w.heap.size A1 m k1 zs _ ho' hx0.size).mono ?_
          rw [hzs, HD2.out]
          rintro e w4 ⟨A2, k2, rfl, ho, hx⟩
          go_wp2_with fail
          go_ret2
          exact ⟨A2, k2, rfl, ho, hx0.trans hx⟩
      · have hc' : ((m : Int) != (R : Int)) = true := by simp; omega
        have hd := upp_bad (r := R) (c := R) (xs := xs) (vs := vs) (by unfold uppB; rw [hv, hv', HL'.out, decide_eq_false (by omega)]; rfl)
        clear p5
        go_enter Try.func87, Try.ntmps87
        go_upto_region 1 with (fail)
        obtain ⟨w0, hw0⟩ : ∃ w0, w0 = (w.alloc (.cells #[.int .i64 R, .int .i64 R, .slice A n cap] 35)) := ⟨_, rfl⟩
        have hx0 : Ext w w0 := by subst hw0; exact (Ext.refl _).alloc _
        have ba : Blk w0 (w.heap.size) #[.int .i64 R, .int .i64 R, .slice A n cap] 35 := by subst hw0; exact (Blk.new w _ _)
        rw [← hw0]
        clear hw0
        obtain ⟨c0, c1, c2, hr1⟩ := MAt.blk ba (hr.below hx0)
        refine wp_region_T (cs := []) [0, 1, 2, 3, 4, 5, 6, 7, 8, 9, 10, 11, 12, 13, 14, 15, 16, 17, 18, 19] [] [1, 5, 10] [] (fun i__ v => match i__ with | 1 => v = (.bool true) | 5 => v = (.bool true) | 10 => v = (.int .i64 m) | _ => False) (fun _ _ _ => True) (by kernel_rfl) (by kernel_rfl) (fun _ _ _ _ _ _ => trivial) ?_
        refine' wpT_det (o := ⟨some 6, Op.load 35 (Operand.tmp 2), 35, "l03_factors.go:523", #[], none⟩) rfl (by rfl) (by rfl) (fun w' hw' => ?_) ?_; rotate_left
        · have c0_ := Ext.cell hw' c0; have c1_ := Ext.cell hw' c1; have c2_ := Ext.cell hw' c2; go_simp <;> first | rfl | exact ⟨rfl, rfl⟩
        simp only [Act.put, List.setIfInBounds_toArray, List.set_cons_zero, List.set_cons_succ]
        refine wpT_nd (o := ⟨some 7, Op.call { callee := Callee.value (Operand.func 104), args := #[Operand.tmp 6], argTypes := #[35] }, 4, "l03_factors.go:523", #[{ on := 0, ground := Ground.data }], none⟩) rfl (by rfl) (by rfl) (fun w' hw' hF R__ hGo => ?_) ⟨_, rfl⟩ ?_
        · go_simp
          refine gives_enter rfl ?_
          refine (isSquare_any _ _ A n cap xs _ (hr1.below hw'.undrew)).mono ?_
          rintro e w2 ⟨rfl, hx⟩
          exact ⟨_, rfl, hGo _ _ hx (congrArg Value.bool hv) trivial⟩
        intro v hv
        obtain rfl : v = (.bool true) := hv
        simp only [Act.put, List.setIfInBounds_toArray, List.set_cons_zero, List.set_cons_succ]
        refine' wpT_det (o := ⟨some 8, Op.unOp UnOp.not 4 (Operand.tmp 7), 4, "l03_factors.go:523", #[{ on := 1, ground := Ground.data }], none⟩) rfl (by rfl) (by rfl) (fun w' hw' => ?_) ?_; rotate_left
        · go_simp <;> first | rfl | exact ⟨rfl, rfl⟩
        simp only [Act.put, List.setIfInBounds_toArray, List.set_cons_zero, List.set_cons_succ]
        refine' wpT_det (o := ⟨some 9, Op.move (Operand.tmp 8), 4, "l03_factors.go:523", #[{ on := 2, ground := Ground.data }, { on := 1, ground := Ground.chain }], none⟩) rfl (by rfl) (by rfl) (fun w' hw' => ?_) ?_; rotate_left
        · go_simp <;> first | rfl | exact ⟨rfl, rfl⟩
        simp only [Act.put, List.setIfInBounds_toArray, List.set_cons_zero, List.set_cons_succ]
        refine' wpT_det (o := ⟨some 10, Op.move (Operand.tmp 1), 22, "l03_factors.go:523", #[{ on := 3, ground := Ground.guard }], some (3, false)⟩) rfl (by rfl) (by rfl) (fun w' hw' => ?_) ?_; rotate_left
        · go_simp <;> first | rfl | exact ⟨rfl, rfl⟩
        simp only [Act.put, List.setIfInBounds_toArray, List.set_cons_zero, List.set_cons_succ]
        refine wpT_nd (o := ⟨some 11, Op.call { callee := Callee.value (Operand.func 129), args := #[Operand.tmp 10], argTypes := #[22] }, 4, "l03_factors.go:523", #[{ on := 4, ground := Ground.data }, { on := 3, ground := Ground.chain }, { on := 3, ground := Ground.guard }], some (3, false)⟩) rfl (by rfl) (by rfl) (fun w' hw' hF R__ hGo => ?_) ⟨_, rfl⟩ ?_
        · go_simp
          refine gives_enter rfl ?_
          refine (IsVector_any B m cap' vs _ ((hq.below hx0).below hw'.undrew)).mono ?_
          rintro e w2 ⟨rfl, hx⟩
          exact ⟨_, rfl, hGo _ _ hx (congrArg Value.bool hv') trivial⟩
        intro v hv
        obtain rfl : v = (.bool true) := hv
        simp only [Act.put, List.setIfInBounds_toArray, List.set_cons_zero, List.set_cons_succ]
        refine' wpT_det (o := ⟨some 12, Op.unOp UnOp.not 4 (Operand.tmp 11), 4, "l03_factors.go:523", #[{ on := 5, ground := Ground.data }, { on := 3, ground := Ground.guard }], some (3, false)⟩) rfl (by rfl) (by rfl) (fun w' hw' => ?_) ?_; rotate_left
        · go_simp <;> first | rfl | exact ⟨rfl, rfl⟩
        simp only [Act.put, List.setIfInBounds_toArray, List.set_cons_zero, List.set_cons_succ]
        refine' wpT_det (o := ⟨some 13, Op.pick (Operand.tmp 9) (Operand.const (Value.bool true)) (Operand.tmp 12), 4, "l03_factors.go:523", #[{ on := 3, ground := Ground.data }, { on := 6, ground := Ground.data }], none⟩) rfl (by rfl) (by rfl) (fun w' hw' => ?_) ?_; rotate_left
        · go_simp <;> first | rfl | exact ⟨rfl, rfl⟩
        simp only [Act.put, List.setIfInBounds_toArray, List.set_cons_zero, List.set_cons_succ]
        refine' wpT_det (o := ⟨some 14, Op.move (Operand.tmp 13), 4, "l03_factors.go:523", #[{ on := 7, ground := Ground.data }, { on := 5, ground := Ground.chain }], none⟩) rfl (by rfl) (by rfl) (fun w' hw' => ?_) ?_; rotate_left
        · go_simp <;> first | rfl | exact ⟨rfl, rfl⟩
        simp only [Act.put, List.setIfInBounds_toArray, List.set_cons_zero, List.set_cons_succ]
        refine' wpT_det (o := ⟨some 15, Op.move (Operand.tmp 1), 22, "l03_factors.go:523", #[{ on := 8, ground := Ground.guard }], some (8, false)⟩) rfl (by rfl) (by rfl) (fun w' hw' => ?_) ?_; rotate_left
        · go_simp <;> first | rfl | exact ⟨rfl, rfl⟩
        simp only [Act.put, List.setIfInBounds_toArray, List.set_cons_zero, List.set_cons_succ]
        refine wpT_nd (o := ⟨some 16, Op.call { callee := Callee.value (Operand.func 101), args := #[Operand.tmp 15], argTypes := #[22] }, 2, "l03_factors.go:523", #[{ on := 9, ground := Ground.data }, { on := 8, ground := Ground.chain }, { on := 8, ground := Ground.guard }], some (8, false)⟩) rfl (by rfl) (by rfl) (fun w' hw' hF R__ hGo => ?_) ⟨_, rfl⟩ ?_
        · go_simp
          refine gives_enter rfl ?_
          refine (lengthF_any _ _ _ hsm _).mono ?_
          rintro e w2 ⟨rfl, rfl⟩
          exact ⟨_, rfl, hGo _ _ (Ext.refl _) rfl trivial⟩
        intro v hv
        obtain rfl : v = (.int .i64 m) := hv
        simp only [Act.put, List.setIfInBounds_toArray, List.set_cons_zero, List.set_cons_succ]
        refine' wpT_det (o := ⟨some 17, Op.fieldAddr 35 (Operand.tmp 2) 0, 0, "l03_factors.go:523", #[{ on := 8, ground := Ground.guard }], some (8, false)⟩) rfl (by rfl) (by rfl) (fun w' hw' => ?_) ?_; rotate_left
        · go_simp <;> first | rfl | exact ⟨rfl, rfl⟩
        simp only [Act.put, List.setIfInBounds_toArray, List.set_cons_zero, List.set_cons_succ]
        refine' wpT_det (o := ⟨some 18, Op.load 2 (Operand.tmp 17), 2, "l03_factors.go:523", #[{ on := 11, ground := Ground.data }, { on := 8, ground := Ground.guard }], some (8, false)⟩) rfl (by rfl) (by rfl) (fun w' hw' => ?_) ?_; rotate_left
        · have c0_ := Ext.cell hw' c0; have c1_ := Ext.cell hw' c1; have c2_ := Ext.cell hw' c2; go_simp <;> first | rfl | exact ⟨rfl, rfl⟩
        simp only [Act.put, List.setIfInBounds_toArray, List.set_cons_zero, List.set_cons_succ]
        refine' wpT_det (o := ⟨some 19, Op.binOp BinOp.neq 2 (Operand.tmp 16) (Operand.tmp 18) 2, 4, "l03_factors.go:523", #[{ on := 10, ground := Ground.data }, { on := 12, ground := Ground.data }, { on := 8, ground := Ground.guard }], some (8, false)⟩) rfl (by rfl) (by rfl) (fun w' hw' => ?_) ?_; rotate_left
        · go_simp <;> first | rfl | exact ⟨rfl, rfl⟩
        simp only [Act.put, List.setIfInBounds_toArray, List.set_cons_zero, List.set_cons_succ]
        refine' wpT_det (o := ⟨some 20, Op.pick (Operand.tmp 14) (Operand.const (Value.bool true)) (Operand.tmp 19), 4, "l03_factors.go:523", #[{ on := 8, ground := Ground.data }, { on := 13, ground := Ground.data }], none⟩) rfl (by rfl) (by rfl) (fun w' hw' => ?_) ?_; rotate_left
        · go_simp <;> first | rfl | exact ⟨rfl, rfl⟩
        simp only [Act.put, List.setIfInBounds_toArray, List.set_cons_zero, List.set_cons_succ]
        refine' wpT_det (o := ⟨some 21, Op.move (Operand.tmp 20), 4, "l03_factors.go:523", #[{ on := 14, ground := Ground.data }, { on := 10, ground := Ground.chain }], none⟩) rfl (by rfl) (by rfl) (fun w' hw' => ?_) ?_; rotate_left
        · go_simp <;> first | rfl | exact ⟨rfl, rfl⟩
        simp only [Act.put, List.setIfInBounds_toArray, List.set_cons_zero, List.set_cons_succ]
        refine wpT_skip (o := ⟨some 22, Op.load 35 (Operand.tmp 2), 35, "l03_factors.go:523", #[{ on := 15, ground := Ground.guard }], some (15, false)⟩) rfl (by rfl) ?_
        simp only [Act.put, List.setIfInBounds_toArray, List.set_cons_zero, List.set_cons_succ]
        refine wpT_skip (o := ⟨some 23, Op.call { callee := Callee.value (Operand.func 158), args := #[Operand.tmp 22], argTypes := #[35] }, 22, "l03_factors.go:523", #[{ on := 16, ground := Ground.data }, { on := 15, ground := Ground.chain }, { on := 15, ground := Ground.guard }], some (15, false)⟩) rfl (by rfl) ?_
        simp only [Act.put, List.setIfInBounds_toArray, List.set_cons_zero, List.set_cons_succ]
        refine wpT_skip (o := ⟨some 24, Op.call { callee := Callee.value (Operand.func 157), args := #[Operand.tmp 23, Operand.const (Value.float FloatKind.f32 0)], argTypes := #[22, 39] }, 4, "l03_factors.go:523", #[{ on := 17, ground := Ground.data }, { on := 17, ground := Ground.chain }, { on := 15, ground := Ground.guard }], some (15, false)⟩) rfl (by rfl) ?_
        simp only [Act.put, List.setIfInBounds_toArray, List.set_cons_zero, List.set_cons_succ]
        refine' wpT_det (o := ⟨some 25, Op.pick (Operand.tmp 21) (Operand.const (Value.bool true)) (Operand.tmp 24), 4, "l03_factors.go:523", #[{ on := 15, ground := Ground.data }, { on := 18, ground := Ground.data }], none⟩) rfl (by rfl) (by rfl) (fun w' hw' => ?_) ?_; rotate_left
        · go_simp <;> first | rfl | exact ⟨rfl, rfl⟩
        simp only [Act.put, List.setIfInBounds_toArray, List.set_cons_zero, List.set_cons_succ]
        refine wpT_nil (fun w1 hw' hF => ?_)
        refine wpList_nil ?_
        go_wp2_with fail
        go_ret2
        exact RetLDb.bad hd (hx0.trans hw'.undrew)

end Go.Proofs.Ytgjfdfmbknmpaaa
