
/- SparseOrder, the program. -/

import Derived.Test.YtkifpligpobiaaaO4

import Derived.Test.YtkifpligpobiaaaO2

import Derived.Test.YtkifpligpobiaaaK6

import Derived.Test.YtkifpligpobiaaaK7
set_option linter.unusedVariables false
set_option linter.unusedSimpArgs false

namespace Go.Proofs.Ytkifpligpobiaaa

open Go.RowKit


set_option maxRecDepth 20000 in
set_option maxHeartbeats 8000000 in
theorem implSparseOrder_any (sd : Int) (A : Option Addr) (n ca : Nat) (B : Option Addr) (m cb : Nat) (V : Option Addr) (p cv : Nat) (S : Option Addr) (k0 cS : Nat) (st co : List Int) (va : List Nat) (xs : List Int) (w : World) (hr : Rds w A n (ints st)) (hq : Rds w B m (ints co)) (hv : Rds w V p (flts va)) (hS : Rds w S k0 (ints xs)) :
    Calls Try.prog 29 #[.agg #[.int .i64 sd, .slice A n ca, .slice B m cb, .slice V p cv], .slice S k0 cS] w (RetSqB w (orderD sd st co va xs)) := by
  have HM := Lib.hid hq.ilen
  have hks := hS.small
  cases hs : isSp sd st co va with
  | false =>
    have hd : orderD sd st co va xs = SD.bad := by unfold orderD; rw [hs]; rfl
    go_enter Try.func29, Try.ntmps29
    go_upto_region 1 with (fail)
    obtain ⟨w0, hw0⟩ : ∃ w0, w0 = ((w.alloc (.cells #[.int .i64 sd, .slice A n ca, .slice B m cb, .slice V p cv] 27)).alloc (.cells #[.int .i64 0, .slice none 0 0, .slice none 0 0, .slice none 0 0] 27)) := ⟨_, rfl⟩
    have hx0 : Ext w w0 := by subst hw0; exact ((Ext.refl _).alloc _).alloc _
    have ba : Blk w0 (w.heap.size) #[.int .i64 sd, .slice A n ca, .slice B m cb, .slice V p cv] 27 := by subst hw0; exact (Blk.new w _ _).ext ((Ext.refl _).alloc _)
    have b1 : Blk w0 (w.heap.size + 1) #[.int .i64 0, .slice none 0 0, .slice none 0 0, .slice none 0 0] 27 := by subst hw0; simpa using (Blk.new (w.alloc (.cells #[.int .i64 sd, .slice A n ca, .slice B m cb, .slice V p cv] 27)) _ _)
    rw [← hw0]
    clear hw0
    have c0 := ba.cell 0 rfl
    have c1 := ba.cell 1 rfl
    have c2 := ba.cell 2 rfl
    have c3 := ba.cell 3 rfl
    go_wp2_with fail
    refine wp_region_T (cs := []) [0, 1, 2, 3, 4, 5, 6, 7, 8, 9, 10, 11, 12, 13, 14] [] [1] [] (fun i__ v => match i__ with | 1 => v = (.bool false) | _ => False) (fun _ _ _ => True) (by kernel_rfl) (by kernel_rfl) (fun _ _ _ _ _ _ => trivial) ?_
    refine' wpT_det (o := ⟨some 14, Op.load 27 (Operand.tmp 2), 27, "l05_sparse.go:281", #[], none⟩) rfl (by rfl) (by rfl) (fun w' hw' => ?_) ?_; rotate_left
    · have c0_ := Ext.cell hw' c0; have c1_ := Ext.cell hw' c1; have c2_ := Ext.cell hw' c2; have c3_ := Ext.cell hw' c3; go_simp <;> first | rfl | exact ⟨rfl, rfl⟩
    simp only [Act.put, List.setIfInBounds_toArray, List.set_cons_zero, List.set_cons_succ]
    refine wpT_nd (o := ⟨some 15, Op.call { callee := Callee.value (Operand.func 38), args := #[Operand.tmp 14], argTypes := #[27] }, 4, "l05_sparse.go:281", #[{ on := 0, ground := Ground.data }], none⟩) rfl (by rfl) (by rfl) (fun w' hw' hF R__ hGo => ?_) ⟨_, rfl⟩ ?_
    · go_simp
      refine gives_enter rfl ?_
      refine (implValidSparse_any sd A n ca B m cb V p cv st co va _ (hr.below (hx0.trans hw'.undrew)) (hq.below (hx0.trans hw'.undrew)) (hv.below (hx0.trans hw'.undrew))).mono ?_
      rintro e w2 ⟨rfl, hx⟩
      exact ⟨_, rfl, hGo _ _ hx (congrArg Value.bool hs) trivial⟩
    intro v hv
    obtain rfl : v = (.bool false) := hv
    simp only [Act.put, List.setIfInBounds_toArray, List.set_cons_zero, List.set_cons_succ]
    refine' wpT_det (o := ⟨some 16, Op.unOp UnOp.not 4 (Operand.tmp 15), 4, "l05_sparse.go:281", #[{ on := 1, ground := Ground.data }], none⟩) rfl (by rfl) (by rfl) (fun w' hw' => ?_) ?_; rotate_left
    · go_simp <;> first | rfl | exact ⟨rfl, rfl⟩
    simp only [Act.put, List.setIfInBounds_toArray, List.set_cons_zero, List.set_cons_succ]
    refine' wpT_det (o := ⟨some 17, Op.move (Operand.tmp 16), 4, "l05_sparse.go:281", #[{ on := 2, ground := Ground.data }, { on := 1, ground := Ground.chain }], none⟩) rfl (by rfl) (by rfl) (fun w' hw' => ?_) ?_; rotate_left
    · go_simp <;> first | rfl | exact ⟨rfl, rfl⟩
    simp only [Act.put, List.setIfInBounds_toArray, List.set_cons_zero, List.set_cons_succ]
    refine wpT_skip (o := ⟨some 18, Op.move (Operand.tmp 1), 22, "l05_sparse.go:281", #[{ on := 3, ground := Ground.guard }], some (3, false)⟩) rfl (by rfl) ?_
    simp only [Act.put, List.setIfInBounds_toArray, List.set_cons_zero, List.set_cons_succ]
    refine wpT_skip (o := ⟨some 19, Op.call { callee := Callee.value (Operand.func 87), args := #[Operand.tmp 18], argTypes := #[22] }, 2, "l05_sparse.go:281", #[{ on := 4, ground := Ground.data }, { on := 3, ground := Ground.chain }, { on := 3, ground := Ground.guard }], some (3, false)⟩) rfl (by rfl) ?_
    simp only [Act.put, List.setIfInBounds_toArray, List.set_cons_zero, List.set_cons_succ]
    refine wpT_skip (o := ⟨some 20, Op.fieldAddr 27 (Operand.tmp 2) 0, 0, "l05_sparse.go:281", #[{ on := 3, ground := Ground.guard }], some (3, false)⟩) rfl (by rfl) ?_
    simp only [Act.put, List.setIfInBounds_toArray, List.set_cons_zero, List.set_cons_succ]
    refine wpT_skip (o := ⟨some 21, Op.load 2 (Operand.tmp 20), 2, "l05_sparse.go:281", #[{ on := 6, ground := Ground.data }, { on := 3, ground := Ground.guard }], some (3, false)⟩) rfl (by rfl) ?_
    simp only [Act.put, List.setIfInBounds_toArray, List.set_cons_zero, List.set_cons_succ]
    refine wpT_skip (o := ⟨some 22, Op.binOp BinOp.neq 2 (Operand.tmp 19) (Operand.tmp 21) 2, 4, "l05_sparse.go:281", #[{ on := 5, ground := Ground.data }, { on := 7, ground := Ground.data }, { on := 3, ground := Ground.guard }], some (3, false)⟩) rfl (by rfl) ?_
    simp only [Act.put, List.setIfInBounds_toArray, List.set_cons_zero, List.set_cons_succ]
    refine' wpT_det (o := ⟨some 23, Op.pick (Operand.tmp 17) (Operand.const (Value.bool true)) (Operand.tmp 22), 4, "l05_sparse.go:281", #[{ on := 3, ground := Ground.data }, { on := 8, ground := Ground.data }], none⟩) rfl (by rfl) (by rfl) (fun w' hw' => ?_) ?_; rotate_left
    · go_simp <;> first | rfl | exact ⟨rfl, rfl⟩
    simp only [Act.put, List.setIfInBounds_toArray, List.set_cons_zero, List.set_cons_succ]
    refine' wpT_det (o := ⟨some 24, Op.move (Operand.tmp 23), 4, "l05_sparse.go:281", #[{ on := 9, ground := Ground.data }, { on := 5, ground := Ground.chain }], none⟩) rfl (by rfl) (by rfl) (fun w' hw' => ?_) ?_; rotate_left
    · go_simp <;> first | rfl | exact ⟨rfl, rfl⟩
    simp only [Act.put, List.setIfInBounds_toArray, List.set_cons_zero, List.set_cons_succ]
    refine wpT_skip (o := ⟨some 25, Op.move (Operand.tmp 1), 22, "l05_sparse.go:281", #[{ on := 10, ground := Ground.guard }], some (10, false)⟩) rfl (by rfl) ?_
    simp only [Act.put, List.setIfInBounds_toArray, List.set_cons_zero, List.set_cons_succ]
    refine wpT_skip (o := ⟨some 26, Op.call { callee := Callee.value (Operand.func 88), args := #[Operand.tmp 25], argTypes := #[22] }, 4, "l05_sparse.go:281", #[{ on := 11, ground := Ground.data }, { on := 10, ground := Ground.chain }, { on := 10, ground := Ground.guard }], some (10, false)⟩) rfl (by rfl) ?_
    simp only [Act.put, List.setIfInBounds_toArray, List.set_cons_zero, List.set_cons_succ]
    refine wpT_skip (o := ⟨some 27, Op.unOp UnOp.not 4 (Operand.tmp 26), 4, "l05_sparse.go:281", #[{ on := 12, ground := Ground.data }, { on := 10, ground := Ground.guard }], some (10, false)⟩) rfl (by rfl) ?_
    simp only [Act.put, List.setIfInBounds_toArray, List.set_cons_zero, List.set_cons_succ]
    refine' wpT_det (o := ⟨some 28, Op.pick (Operand.tmp 24) (Operand.const (Value.bool true)) (Operand.tmp 27), 4, "l05_sparse.go:281", #[{ on := 10, ground := Ground.data }, { on := 13, ground := Ground.data }], none⟩) rfl (by rfl) (by rfl) (fun w' hw' => ?_) ?_; rotate_left
    · go_simp <;> first | rfl | exact ⟨rfl, rfl⟩
    simp only [Act.put, List.setIfInBounds_toArray, List.set_cons_zero, List.set_cons_succ]
    refine wpT_nil (fun w2 hw' hF => ?_)
    refine wpList_nil ?_
    have hx := hw'.undrew
    clear c0 c1 c2 c3 hF hw'
    replace ba := ba.ext hx
    replace b1 := b1.ext hx
    replace hx0 := hx0.trans hx
    clear hx
    have y0 := b1.cell 0 rfl
    have y1 := b1.cell 1 rfl
    have y2 := b1.cell 2 rfl
    have y3 := b1.cell 3 rfl
    have f0 := b1.free 0
    have f1 := b1.free 1
    have f2 := b1.free 2
    have f3 := b1.free 3
    have hq0 := b1.lt
    go_wp2_with fail
    have d0 := b1.set 0 (.int .i64 0)
    have d1 := d0.set 1 (.slice none 0 0)
    have d2 := d1.set 2 (.slice none 0 0)
    have d3 := d2.set 3 (.slice none 0 0)
    have x2 := ((((hx0.set (p := ⟨w.heap.size + 1, 0, none⟩) (by simp; try omega) (.int .i64 0)).set (p := ⟨w.heap.size + 1, 1, none⟩) (by simp; try omega) (.slice none 0 0)).set (p := ⟨w.heap.size + 1, 2, none⟩) (by simp; try omega) (.slice none 0 0)).set (p := ⟨w.heap.size + 1, 3, none⟩) (by simp; try omega) (.slice none 0 0))
    have r0 := d3.cell 0 rfl
    have r1 := d3.cell 1 rfl
    have r2 := d3.cell 2 rfl
    have r3 := d3.cell 3 rfl
    refine bodyPost_ret (v := .tuple #[.agg #[.int .i64 0, .slice none 0 0, .slice none 0 0, .slice none 0 0], .bool false]) (by simp only [results, Try.results29]; simp [go_sem, r0, r1, r2, r3]) rfl (RetSqB.bad hd rfl x2)
  | true =>
    have hsp := isSp_iff.1 hs
    obtain ⟨N, rfl⟩ : ∃ N : Nat, sd = N := ⟨sd.toNat, by have := hsp.s1; omega⟩
    have hn1 : 1 ≤ N := by have := hsp.s1; omega
    have hn32 : N ≤ 32 := by have := hsp.s1; omega
    have HSP := Lib.hid hsp
    clear hsp
    by_cases hk : k0 = N
    rotate_left
    · have hne : ((k0 : Int) != N) = true := by simp; omega
      have hd : orderD N st co va xs = SD.bad := by unfold orderD; rw [hs, Int.toNat_natCast, prmB_len (by rw [hS.ilen]; exact hk)]; rfl
      go_enter Try.func29, Try.ntmps29
      go_upto_region 1 with (fail)
      obtain ⟨w0, hw0⟩ : ∃ w0, w0 = ((w.alloc (.cells #[.int .i64 N, .slice A n ca, .slice B m cb, .slice V p cv] 27)).alloc (.cells #[.int .i64 0, .slice none 0 0, .slice none 0 0, .slice none 0 0] 27)) := ⟨_, rfl⟩
      have hx0 : Ext w w0 := by subst hw0; exact ((Ext.refl _).alloc _).alloc _
      have ba : Blk w0 (w.heap.size) #[.int .i64 N, .slice A n ca, .slice B m cb, .slice V p cv] 27 := by subst hw0; exact (Blk.new w _ _).ext ((Ext.refl _).alloc _)
      have b1 : Blk w0 (w.heap.size + 1) #[.int .i64 0, .slice none 0 0, .slice none 0 0, .slice none 0 0] 27 := by subst hw0; simpa using (Blk.new (w.alloc (.cells #[.int .i64 N, .slice A n ca, .slice B m cb, .slice V p cv] 27)) _ _)
      rw [← hw0]
      clear hw0
      have c0 := ba.cell 0 rfl
      have c1 := ba.cell 1 rfl
      have c2 := ba.cell 2 rfl
      have c3 := ba.cell 3 rfl
      go_wp2_with fail
      refine wp_region_T (cs := []) [0, 1, 2, 3, 4, 5, 6, 7, 8, 9, 10, 11, 12, 13, 14] [] [1, 5] [] (fun i__ v => match i__ with | 1 => v = (.bool true) | 5 => v = (.int .i64 k0) | _ => False) (fun _ _ _ => True) (by kernel_rfl) (by kernel_rfl) (fun _ _ _ _ _ _ => trivial) ?_
      refine' wpT_det (o := ⟨some 14, Op.load 27 (Operand.tmp 2), 27, "l05_sparse.go:281", #[], none⟩) rfl (by rfl) (by rfl) (fun w' hw' => ?_) ?_; rotate_left
      · have c0_ := Ext.cell hw' c0; have c1_ := Ext.cell hw' c1; have c2_ := Ext.cell hw' c2; have c3_ := Ext.cell hw' c3; go_simp <;> first | rfl | exact ⟨rfl, rfl⟩
      simp only [Act.put, List.setIfInBounds_toArray, List.set_cons_zero, List.set_cons_succ]
      refine wpT_nd (o := ⟨some 15, Op.call { callee := Callee.value (Operand.func 38), args := #[Operand.tmp 14], argTypes := #[27] }, 4, "l05_sparse.go:281", #[{ on := 0, ground := Ground.data }], none⟩) rfl (by rfl) (by rfl) (fun w' hw' hF R__ hGo => ?_) ⟨_, rfl⟩ ?_
      · go_simp
        refine gives_enter rfl ?_
        refine (implValidSparse_any N A n ca B m cb V p cv st co va _ (hr.below (hx0.trans hw'.undrew)) (hq.below (hx0.trans hw'.undrew)) (hv.below (hx0.trans hw'.undrew))).mono ?_
        rintro e w2 ⟨rfl, hx⟩
        exact ⟨_, rfl, hGo _ _ hx (congrArg Value.bool hs) trivial⟩
      intro v hv
      obtain rfl : v = (.bool true) := hv
      simp only [Act.put, List.setIfInBounds_toArray, List.set_cons_zero, List.set_cons_succ]
      refine' wpT_det (o := ⟨some 16, Op.unOp UnOp.not 4 (Operand.tmp 15), 4, "l05_sparse.go:281", #[{ on := 1, ground := Ground.data }], none⟩) rfl (by rfl) (by rfl) (fun w' hw' => ?_) ?_; rotate_left
      · go_simp <;> first | rfl | exact ⟨rfl, rfl⟩
      simp only [Act.put, List.setIfInBounds_toArray, List.set_cons_zero, List.set_cons_succ]
      refine' wpT_det (o := ⟨some 17, Op.move (Operand.tmp 16), 4, "l05_sparse.go:281", #[{ on := 2, ground := Ground.data }, { on := 1, ground := Ground.chain }], none⟩) rfl (by rfl) (by rfl) (fun w' hw' => ?_) ?_; rotate_left
      · go_simp <;> first | rfl | exact ⟨rfl, rfl⟩
      simp only [Act.put, List.setIfInBounds_toArray, List.set_cons_zero, List.set_cons_succ]
      refine' wpT_det (o := ⟨some 18, Op.move (Operand.tmp 1), 22, "l05_sparse.go:281", #[{ on := 3, ground := Ground.guard }], some (3, false)⟩) rfl (by rfl) (by rfl) (fun w' hw' => ?_) ?_; rotate_left
      · go_simp <;> first | rfl | exact ⟨rfl, rfl⟩
      simp only [Act.put, List.setIfInBounds_toArray, List.set_cons_zero, List.set_cons_succ]
      refine wpT_nd (o := ⟨some 19, Op.call { callee := Callee.value (Operand.func 87), args := #[Operand.tmp 18], argTypes := #[22] }, 2, "l05_sparse.go:281", #[{ on := 4, ground := Ground.data }, { on := 3, ground := Ground.chain }, { on := 3, ground := Ground.guard }], some (3, false)⟩) rfl (by rfl) (by rfl) (fun w' hw' hF R__ hGo => ?_) ⟨_, rfl⟩ ?_
      · go_simp
        refine gives_enter rfl ?_
        refine (length_any _ _ _ hks _).mono ?_
        rintro e w2 ⟨rfl, rfl⟩
        exact ⟨_, rfl, hGo _ _ (Ext.refl _) rfl trivial⟩
      intro v hv
      obtain rfl : v = (.int .i64 k0) := hv
      simp only [Act.put, List.setIfInBounds_toArray, List.set_cons_zero, List.set_cons_succ]
      refine' wpT_det (o := ⟨some 20, Op.fieldAddr 27 (Operand.tmp 2) 0, 0, "l05_sparse.go:281", #[{ on := 3, ground := Ground.guard }], some (3, false)⟩) rfl (by rfl) (by rfl) (fun w' hw' => ?_) ?_; rotate_left
      · go_simp <;> first | rfl | exact ⟨rfl, rfl⟩
      simp only [Act.put, List.setIfInBounds_toArray, List.set_cons_zero, List.set_cons_succ]
      refine' wpT_det (o := ⟨some 21, Op.load 2 (Operand.tmp 20), 2, "l05_sparse.go:281", #[{ on := 6, ground := Ground.data }, { on := 3, ground := Ground.guard }], some (3, false)⟩) rfl (by rfl) (by rfl) (fun w' hw' => ?_) ?_; rotate_left
      · have c0_ := Ext.cell hw' c0; have c1_ := Ext.cell hw' c1; have c2_ := Ext.cell hw' c2; have c3_ := Ext.cell hw' c3; go_simp <;> first | rfl | exact ⟨rfl, rfl⟩
      simp only [Act.put, List.setIfInBounds_toArray, List.set_cons_zero, List.set_cons_succ]
      refine' wpT_det (o := ⟨some 22, Op.binOp BinOp.neq 2 (Operand.tmp 19) (Operand.tmp 21) 2, 4, "l05_sparse.go:281", #[{ on := 5, ground := Ground.data }, { on := 7, ground := Ground.data }, { on := 3, ground := Ground.guard }], some (3, false)⟩) rfl (by rfl) (by rfl) (fun w' hw' => ?_) ?_; rotate_left
      · go_simp <;> first | rfl | exact ⟨rfl, rfl⟩
      simp only [Act.put, List.setIfInBounds_toArray, List.set_cons_zero, List.set_cons_succ]
      refine' wpT_det (o := ⟨some 23, Op.pick (Operand.tmp 17) (Operand.const (Value.bool true)) (Operand.tmp 22), 4, "l05_sparse.go:281", #[{ on := 3, ground := Ground.data }, { on := 8, ground := Ground.data }], none⟩) rfl (by rfl) (by rfl) (fun w' hw' => ?_) ?_; rotate_left
      · go_simp <;> first | rfl | exact ⟨rfl, rfl⟩
      simp only [Act.put, List.setIfInBounds_toArray, List.set_cons_zero, List.set_cons_succ]
      refine' wpT_det (o := ⟨some 24, Op.move (Operand.tmp 23), 4, "l05_sparse.go:281", #[{ on := 9, ground := Ground.data }, { on := 5, ground := Ground.chain }], none⟩) rfl (by rfl) (by rfl) (fun w' hw' => ?_) ?_; rotate_left
      · go_simp <;> first | rfl | exact ⟨rfl, rfl⟩
      simp only [Act.put, List.setIfInBounds_toArray, List.set_cons_zero, List.set_cons_succ]
      refine wpT_skip (o := ⟨some 25, Op.move (Operand.tmp 1), 22, "l05_sparse.go:281", #[{ on := 10, ground := Ground.guard }], some (10, false)⟩) rfl (by rfl) ?_
      simp only [Act.put, List.setIfInBounds_toArray, List.set_cons_zero, List.set_cons_succ]
      refine wpT_skip (o := ⟨some 26, Op.call { callee := Callee.value (Operand.func 88), args := #[Operand.tmp 25], argTypes := #[22] }, 4, "l05_sparse.go:281", #[{ on := 11, ground := Ground.data }, { on := 10, ground := Ground.chain }, { on := 10, ground := Ground.guard }], some (10, false)⟩) rfl (by rfl) ?_
      simp only [Act.put, List.setIfInBounds_toArray, List.set_cons_zero, List.set_cons_succ]
      refine wpT_skip (o := ⟨some 27, Op.unOp UnOp.not 4 (Operand.tmp 26), 4, "l05_sparse.go:281", #[{ on := 12, ground := Ground.data }, { on := 10, ground := Ground.guard }], some (10, false)⟩) rfl (by rfl) ?_
      simp only [Act.put, List.setIfInBounds_toArray, List.set_cons_zero, List.set_cons_succ]
      refine' wpT_det (o := ⟨some 28, Op.pick (Operand.tmp 24) (Operand.const (Value.bool true)) (Operand.tmp 27), 4, "l05_sparse.go:281", #[{ on := 10, ground := Ground.data }, { on := 13, ground := Ground.data }], none⟩) rfl (by rfl) (by rfl) (fun w' hw' => ?_) ?_; rotate_left
      · go_simp <;> first | rfl | exact ⟨rfl, rfl⟩
      simp only [Act.put, List.setIfInBounds_toArray, List.set_cons_zero, List.set_cons_succ]
      refine wpT_nil (fun w2 hw' hF => ?_)
      refine wpList_nil ?_
      have hx := hw'.undrew
      clear c0 c1 c2 c3 hF hw'
      replace ba := ba.ext hx
      replace b1 := b1.ext hx
      replace hx0 := hx0.trans hx
      clear hx
      have y0 := b1.cell 0 rfl
      have y1 := b1.cell 1 rfl
      have y2 := b1.cell 2 rfl
      have y3 := b1.cell 3 rfl
      have f0 := b1.free 0
      have f1 := b1.free 1
      have f2 := b1.free 2
      have f3 := b1.free 3
      have hq0 := b1.lt
      go_wp2_with fail
      have d0 := b1.set 0 (.int .i64 0)
      have d1 := d0.set 1 (.slice none 0 0)
      have d2 := d1.set 2 (.slice none 0 0)
      have d3 := d2.set 3 (.slice none 0 0)
      have x2 := ((((hx0.set (p := ⟨w.heap.size + 1, 0, none⟩) (by simp; try omega) (.int .i64 0)).set (p := ⟨w.heap.size + 1, 1, none⟩) (by simp; try omega) (.slice none 0 0)).set (p := ⟨w.heap.size + 1, 2, none⟩) (by simp; try omega) (.slice none 0 0)).set (p := ⟨w.heap.size + 1, 3, none⟩) (by simp; try omega) (.slice none 0 0))
      have r0 := d3.cell 0 rfl
      have r1 := d3.cell 1 rfl
      have r2 := d3.cell 2 rfl
      have r3 := d3.cell 3 rfl
      refine bodyPost_ret (v := .tuple #[.agg #[.int .i64 0, .slice none 0 0, .slice none 0 0, .slice none 0 0], .bool false]) (by simp only [results, Try.results29]; simp [go_sem, r0, r1, r2, r3]) rfl (RetSqB.bad hd rfl x2)
    · obtain rfl : N = k0 := hk.symm
      clear hk
      have hne : ((N : Int) != N) = false := by simp
      cases hp : prmB N xs with
      | false =>
        have hd : orderD N st co va xs = SD.bad := by unfold orderD; rw [hs, Int.toNat_natCast, hp]; rfl
        go_enter Try.func29, Try.ntmps29
        go_upto_region 1 with (fail)
        obtain ⟨w0, hw0⟩ : ∃ w0, w0 = ((w.alloc (.cells #[.int .i64 N, .slice A n ca, .slice B m cb, .slice V p cv] 27)).alloc (.cells #[.int .i64 0, .slice none 0 0, .slice none 0 0, .slice none 0 0] 27)) := ⟨_, rfl⟩
        have hx0 : Ext w w0 := by subst hw0; exact ((Ext.refl _).alloc _).alloc _
        have ba : Blk w0 (w.heap.size) #[.int .i64 N, .slice A n ca, .slice B m cb, .slice V p cv] 27 := by subst hw0; exact (Blk.new w _ _).ext ((Ext.refl _).alloc _)
        have b1 : Blk w0 (w.heap.size + 1) #[.int .i64 0, .slice none 0 0, .slice none 0 0, .slice none 0 0] 27 := by subst hw0; simpa using (Blk.new (w.alloc (.cells #[.int .i64 N, .slice A n ca, .slice B m cb, .slice V p cv] 27)) _ _)
        rw [← hw0]
        clear hw0
        have c0 := ba.cell 0 rfl
        have c1 := ba.cell 1 rfl
        have c2 := ba.cell 2 rfl
        have c3 := ba.cell 3 rfl
        go_wp2_with fail
        refine wp_region_T (cs := []) [0, 1, 2, 3, 4, 5, 6, 7, 8, 9, 10, 11, 12, 13, 14] [] [1, 5, 12] [] (fun i__ v => match i__ with | 1 => v = (.bool true) | 5 => v = (.int .i64 N) | 12 => v = (.bool false) | _ => False) (fun _ _ _ => True) (by kernel_rfl) (by kernel_rfl) (fun _ _ _ _ _ _ => trivial) ?_
        refine' wpT_det (o := ⟨some 14, Op.load 27 (Operand.tmp 2), 27, "l05_sparse.go:281", #[], none⟩) rfl (by rfl) (by rfl) (fun w' hw' => ?_) ?_; rotate_left
        · have c0_ := Ext.cell hw' c0; have c1_ := Ext.cell hw' c1; have c2_ := Ext.cell hw' c2; have c3_ := Ext.cell hw' c3; go_simp <;> first | rfl | exact ⟨rfl, rfl⟩
        simp only [Act.put, List.setIfInBounds_toArray, List.set_cons_zero, List.set_cons_succ]
        refine wpT_nd (o := ⟨some 15, Op.call { callee := Callee.value (Operand.func 38), args := #[Operand.tmp 14], argTypes := #[27] }, 4, "l05_sparse.go:281", #[{ on := 0, ground := Ground.data }], none⟩) rfl (by rfl) (by rfl) (fun w' hw' hF R__ hGo => ?_) ⟨_, rfl⟩ ?_
        · go_simp
          refine gives_enter rfl ?_
          refine (implValidSparse_any N A n ca B m cb V p cv st co va _ (hr.below (hx0.trans hw'.undrew)) (hq.below (hx0.trans hw'.undrew)) (hv.below (hx0.trans hw'.undrew))).mono ?_
          rintro e w2 ⟨rfl, hx⟩
          exact ⟨_, rfl, hGo _ _ hx (congrArg Value.bool hs) trivial⟩
        intro v hv
        obtain rfl : v = (.bool true) := hv
        simp only [Act.put, List.setIfInBounds_toArray, List.set_cons_zero, List.set_cons_succ]
        refine' wpT_det (o := ⟨some 16, Op.unOp UnOp.not 4 (Operand.tmp 15), 4, "l05_sparse.go:281", #[{ on := 1, ground := Ground.data }], none⟩) rfl (by rfl) (by rfl) (fun w' hw' => ?_) ?_; rotate_left
        · go_simp <;> first | rfl | exact ⟨rfl, rfl⟩
        simp only [Act.put, List.setIfInBounds_toArray, List.set_cons_zero, List.set_cons_succ]
        refine' wpT_det (o := ⟨some 17, Op.move (Operand.tmp 16), 4, "l05_sparse.go:281", #[{ on := 2, ground := Ground.data }, { on := 1, ground := Ground.chain }], none⟩) rfl (by rfl) (by rfl) (fun w' hw' => ?_) ?_; rotate_left
        · go_simp <;> first | rfl | exact ⟨rfl, rfl⟩
        simp only [Act.put, List.setIfInBounds_toArray, List.set_cons_zero, List.set_cons_succ]
        refine' wpT_det (o := ⟨some 18, Op.move (Operand.tmp 1), 22, "l05_sparse.go:281", #[{ on := 3, ground := Ground.guard }], some (3, false)⟩) rfl (by rfl) (by rfl) (fun w' hw' => ?_) ?_; rotate_left
        · go_simp <;> first | rfl | exact ⟨rfl, rfl⟩
        simp only [Act.put, List.setIfInBounds_toArray, List.set_cons_zero, List.set_cons_succ]
        refine wpT_nd (o := ⟨some 19, Op.call { callee := Callee.value (Operand.func 87), args := #[Operand.tmp 18], argTypes := #[22] }, 2, "l05_sparse.go:281", #[{ on := 4, ground := Ground.data }, { on := 3, ground := Ground.chain }, { on := 3, ground := Ground.guard }], some (3, false)⟩) rfl (by rfl) (by rfl) (fun w' hw' hF R__ hGo => ?_) ⟨_, rfl⟩ ?_
        · go_simp
          refine gives_enter rfl ?_
          refine (length_any _ _ _ hks _).mono ?_
          rintro e w2 ⟨rfl, rfl⟩
          exact ⟨_, rfl, hGo _ _ (Ext.refl _) rfl trivial⟩
        intro v hv
        obtain rfl : v = (.int .i64 N) := hv
        simp only [Act.put, List.setIfInBounds_toArray, List.set_cons_zero, List.set_cons_succ]
        refine' wpT_det (o := ⟨some 20, Op.fieldAddr 27 (Operand.tmp 2) 0, 0, "l05_sparse.go:281", #[{ on := 3, ground := Ground.guard }], some (3, false)⟩) rfl (by rfl) (by rfl) (fun w' hw' => ?_) ?_; rotate_left
        · go_simp <;> first | rfl | exact ⟨rfl, rfl⟩
        simp only [Act.put, List.setIfInBounds_toArray, List.set_cons_zero, List.set_cons_succ]
        refine' wpT_det (o := ⟨some 21, Op.load 2 (Operand.tmp 20), 2, "l05_sparse.go:281", #[{ on := 6, ground := Ground.data }, { on := 3, ground := Ground.guard }], some (3, false)⟩) rfl (by rfl) (by rfl) (fun w' hw' => ?_) ?_; rotate_left
        · have c0_ := Ext.cell hw' c0; have c1_ := Ext.cell hw' c1; have c2_ := Ext.cell hw' c2; have c3_ := Ext.cell hw' c3; go_simp <;> first | rfl | exact ⟨rfl, rfl⟩
        simp only [Act.put, List.setIfInBounds_toArray, List.set_cons_zero, List.set_cons_succ]
        refine' wpT_det (o := ⟨some 22, Op.binOp BinOp.neq 2 (Operand.tmp 19) (Operand.tmp 21) 2, 4, "l05_sparse.go:281", #[{ on := 5, ground := Ground.data }, { on := 7, ground := Ground.data }, { on := 3, ground := Ground.guard }], some (3, false)⟩) rfl (by rfl) (by rfl) (fun w' hw' => ?_) ?_; rotate_left
        · go_simp <;> first | rfl | exact ⟨rfl, rfl⟩
        simp only [Act.put, List.setIfInBounds_toArray, List.set_cons_zero, List.set_cons_succ]
        refine' wpT_det (o := ⟨some 23, Op.pick (Operand.tmp 17) (Operand.const (Value.bool true)) (Operand.tmp 22), 4, "l05_sparse.go:281", #[{ on := 3, ground := Ground.data }, { on := 8, ground := Ground.data }], none⟩) rfl (by rfl) (by rfl) (fun w' hw' => ?_) ?_; rotate_left
        · go_simp <;> first | rfl | exact ⟨rfl, rfl⟩
        simp only [Act.put, List.setIfInBounds_toArray, List.set_cons_zero, List.set_cons_succ]
        refine' wpT_det (o := ⟨some 24, Op.move (Operand.tmp 23), 4, "l05_sparse.go:281", #[{ on := 9, ground := Ground.data }, { on := 5, ground := Ground.chain }], none⟩) rfl (by rfl) (by rfl) (fun w' hw' => ?_) ?_; rotate_left
        · go_simp <;> first | rfl | exact ⟨rfl, rfl⟩
        simp only [Act.put, List.setIfInBounds_toArray, List.set_cons_zero, List.set_cons_succ]
        refine' wpT_det (o := ⟨some 25, Op.move (Operand.tmp 1), 22, "l05_sparse.go:281", #[{ on := 10, ground := Ground.guard }], some (10, false)⟩) rfl (by rfl) (by rfl) (fun w' hw' => ?_) ?_; rotate_left
        · go_simp <;> first | rfl | exact ⟨rfl, rfl⟩
        simp only [Act.put, List.setIfInBounds_toArray, List.set_cons_zero, List.set_cons_succ]
        refine wpT_nd (o := ⟨some 26, Op.call { callee := Callee.value (Operand.func 88), args := #[Operand.tmp 25], argTypes := #[22] }, 4, "l05_sparse.go:281", #[{ on := 11, ground := Ground.data }, { on := 10, ground := Ground.chain }, { on := 10, ground := Ground.guard }], some (10, false)⟩) rfl (by rfl) (by rfl) (fun w' hw' hF R__ hGo => ?_) ⟨_, rfl⟩ ?_
        · go_simp
          refine gives_enter rfl ?_
          refine (isPermutation_any N S cS xs hn1 hn32 _ (hS.below (hx0.trans hw'.undrew))).mono ?_
          rintro e w2 ⟨rfl, hx⟩
          exact ⟨_, rfl, hGo _ _ hx (congrArg Value.bool hp) trivial⟩
        intro v hv
        obtain rfl : v = (.bool false) := hv
        simp only [Act.put, List.setIfInBounds_toArray, List.set_cons_zero, List.set_cons_succ]
        refine' wpT_det (o := ⟨some 27, Op.unOp UnOp.not 4 (Operand.tmp 26), 4, "l05_sparse.go:281", #[{ on := 12, ground := Ground.data }, { on := 10, ground := Ground.guard }], some (10, false)⟩) rfl (by rfl) (by rfl) (fun w' hw' => ?_) ?_; rotate_left
        · go_simp <;> first | rfl | exact ⟨rfl, rfl⟩
        simp only [Act.put, List.setIfInBounds_toArray, List.set_cons_zero, List.set_cons_succ]
        refine' wpT_det (o := ⟨some 28, Op.pick (Operand.tmp 24) (Operand.const (Value.bool true)) (Operand.tmp 27), 4, "l05_sparse.go:281", #[{ on := 10, ground := Ground.data }, { on := 13, ground := Ground.data }], none⟩) rfl (by rfl) (by rfl) (fun w' hw' => ?_) ?_; rotate_left
        · go_simp <;> first | rfl | exact ⟨rfl, rfl⟩
        simp only [Act.put, List.setIfInBounds_toArray, List.set_cons_zero, List.set_cons_succ]
        refine wpT_nil (fun w2 hw' hF => ?_)
        refine wpList_nil ?_
        have hx := hw'.undrew
        clear c0 c1 c2 c3 hF hw'
        replace ba := ba.ext hx
        replace b1 := b1.ext hx
        replace hx0 := hx0.trans hx
        clear hx
        have y0 := b1.cell 0 rfl
        have y1 := b1.cell 1 rfl
        have y2 := b1.cell 2 rfl
        have y3 := b1.cell 3 rfl
        have f0 := b1.free 0
        have f1 := b1.free 1
        have f2 := b1.free 2
        have f3 := b1.free 3
        have hq0 := b1.lt
        go_wp2_with fail
        have d0 := b1.set 0 (.int .i64 0)
        have d1 := d0.set 1 (.slice none 0 0)
        have d2 := d1.set 2 (.slice none 0 0)
        have d3 := d2.set 3 (.slice none 0 0)
        have x2 := ((((hx0.set (p := ⟨w.heap.size + 1, 0, none⟩) (by simp; try omega) (.int .i64 0)).set (p := ⟨w.heap.size + 1, 1, none⟩) (by simp; try omega) (.slice none 0 0)).set (p := ⟨w.heap.size + 1, 2, none⟩) (by simp; try omega) (.slice none 0 0)).set (p := ⟨w.heap.size + 1, 3, none⟩) (by simp; try omega) (.slice none 0 0))
        have r0 := d3.cell 0 rfl
        have r1 := d3.cell 1 rfl
        have r2 := d3.cell 2 rfl
        have r3 := d3.cell 3 rfl
        refine bodyPost_ret (v := .tuple #[.agg #[.int .i64 0, .slice none 0 0, .slice none 0 0, .slice none 0 0], .bool false]) (by simp only [results, Try.results29]; simp [go_sem, r0, r1, r2, r3]) rfl (RetSqB.bad hd rfl x2)
      | true =>
        have HP := Lib.hid (prmB_iff.1 hp).2
        obtain ⟨M, hM⟩ : ∃ M, M = vw st co va m := ⟨_, rfl⟩
        have HV := Lib.hid hM
        have hd : orderD N st co va xs = giveSp N (orM M xs) := by unfold orderD; rw [hs, Int.toNat_natCast, hp, HM.out, hM]; rfl
        obtain ⟨D, hD⟩ : ∃ D, D = orderD N st co va xs := ⟨_, rfl⟩
        rw [← hD]
        rw [← hD] at hd
        have HD := Lib.hid hd
        clear hd hD hM
        have hmk := make_map_run
        go_enter Try.func29, Try.ntmps29
        go_upto_region 1 with (fail)
        obtain ⟨w0, hw0⟩ : ∃ w0, w0 = ((w.alloc (.cells #[.int .i64 N, .slice A n ca, .slice B m cb, .slice V p cv] 27)).alloc (.cells #[.int .i64 0, .slice none 0 0, .slice none 0 0, .slice none 0 0] 27)) := ⟨_, rfl⟩
        have hx0 : Ext w w0 := by subst hw0; exact ((Ext.refl _).alloc _).alloc _
        have ba : Blk w0 (w.heap.size) #[.int .i64 N, .slice A n ca, .slice B m cb, .slice V p cv] 27 := by subst hw0; exact (Blk.new w _ _).ext ((Ext.refl _).alloc _)
        have b1 : Blk w0 (w.heap.size + 1) #[.int .i64 0, .slice none 0 0, .slice none 0 0, .slice none 0 0] 27 := by subst hw0; simpa using (Blk.new (w.alloc (.cells #[.int .i64 N, .slice A n ca, .slice B m cb, .slice V p cv] 27)) _ _)
        rw [← hw0]
        clear hw0
        have c0 := ba.cell 0 rfl
        have c1 := ba.cell 1 rfl
        have c2 := ba.cell 2 rfl
        have c3 := ba.cell 3 rfl
        go_wp2_with fail
        refine wp_region_T (cs := []) [0, 1, 2, 3, 4, 5, 6, 7, 8, 9, 10, 11, 12, 13, 14] [] [1, 5, 12] [] (fun i__ v => match i__ with | 1 => v = (.bool true) | 5 => v = (.int .i64 N) | 12 => v = (.bool true) | _ => False) (fun _ _ _ => True) (by kernel_rfl) (by kernel_rfl) (fun _ _ _ _ _ _ => trivial) ?_
        refine' wpT_det (o := ⟨some 14, Op.load 27 (Operand.tmp 2), 27, "l05_sparse.go:281", #[], none⟩) rfl (by rfl) (by rfl) (fun w' hw' => ?_) ?_; rotate_left
        · have c0_ := Ext.cell hw' c0; have c1_ := Ext.cell hw' c1; have c2_ := Ext.cell hw' c2; have c3_ := Ext.cell hw' c3; go_simp <;> first | rfl | exact ⟨rfl, rfl⟩
        simp only [Act.put, List.setIfInBounds_toArray, List.set_cons_zero, List.set_cons_succ]
        refine wpT_nd (o := ⟨some 15, Op.call { callee := Callee.value (Operand.func 38), args := #[Operand.tmp 14], argTypes := #[27] }, 4, "l05_sparse.go:281", #[{ on := 0, ground := Ground.data }], none⟩) rfl (by rfl) (by rfl) (fun w' hw' hF R__ hGo => ?_) ⟨_, rfl⟩ ?_
        · go_simp
          refine gives_enter rfl ?_
          refine (implValidSparse_any N A n ca B m cb V p cv st co va _ (hr.below (hx0.trans hw'.undrew)) (hq.below (hx0.trans hw'.undrew)) (hv.below (hx0.trans hw'.undrew))).mono ?_
          rintro e w2 ⟨rfl, hx⟩
          exact ⟨_, rfl, hGo _ _ hx (congrArg Value.bool hs) trivial⟩
        intro v hv
        obtain rfl : v = (.bool true) := hv
        simp only [Act.put, List.setIfInBounds_toArray, List.set_cons_zero, List.set_cons_succ]
        refine' wpT_det (o := ⟨some 16, Op.unOp UnOp.not 4 (Operand.tmp 15), 4, "l05_sparse.go:281", #[{ on := 1, ground := Ground.data }], none⟩) rfl (by rfl) (by rfl) (fun w' hw' => ?_) ?_; rotate_left
        · go_simp <;> first | rfl | exact ⟨rfl, rfl⟩
        simp only [Act.put, List.setIfInBounds_toArray, List.set_cons_zero, List.set_cons_succ]
        refine' wpT_det (o := ⟨some 17, Op.move (Operand.tmp 16), 4, "l05_sparse.go:281", #[{ on := 2, ground := Ground.data }, { on := 1, ground := Ground.chain }], none⟩) rfl (by rfl) (by rfl) (fun w' hw' => ?_) ?_; rotate_left
        · go_simp <;> first | rfl | exact ⟨rfl, rfl⟩
        simp only [Act.put, List.setIfInBounds_toArray, List.set_cons_zero, List.set_cons_succ]
        refine' wpT_det (o := ⟨some 18, Op.move (Operand.tmp 1), 22, "l05_sparse.go:281", #[{ on := 3, ground := Ground.guard }], some (3, false)⟩) rfl (by rfl) (by rfl) (fun w' hw' => ?_) ?_; rotate_left
        · go_simp <;> first | rfl | exact ⟨rfl, rfl⟩
        simp only [Act.put, List.setIfInBounds_toArray, List.set_cons_zero, List.set_cons_succ]
        refine wpT_nd (o := ⟨some 19, Op.call { callee := Callee.value (Operand.func 87), args := #[Operand.tmp 18], argTypes := #[22] }, 2, "l05_sparse.go:281", #[{ on := 4, ground := Ground.data }, { on := 3, ground := Ground.chain }, { on := 3, ground := Ground.guard }], some (3, false)⟩) rfl (by rfl) (by rfl) (fun w' hw' hF R__ hGo => ?_) ⟨_, rfl⟩ ?_
        · go_simp
          refine gives_enter rfl ?_
          refine (length_any _ _ _ hks _).mono ?_
          rintro e w2 ⟨rfl, rfl⟩
          exact ⟨_, rfl, hGo _ _ (Ext.refl _) rfl trivial⟩
        intro v hv
        obtain rfl : v = (.int .i64 N) := hv
        simp only [Act.put, List.setIfInBounds_toArray, List.set_cons_zero, List.set_cons_succ]
        refine' wpT_det (o := ⟨some 20, Op.fieldAddr 27 (Operand.tmp 2) 0, 0, "l05_sparse.go:281", #[{ on := 3, ground := Ground.guard }], some (3, false)⟩) rfl (by rfl) (by rfl) (fun w' hw' => ?_) ?_; rotate_left
        · go_simp <;> first | rfl | exact ⟨rfl, rfl⟩
        simp only [Act.put, List.setIfInBounds_toArray, List.set_cons_zero, List.set_cons_succ]
        refine' wpT_det (o := ⟨some 21, Op.load 2 (Operand.tmp 20), 2, "l05_sparse.go:281", #[{ on := 6, ground := Ground.data }, { on := 3, ground := Ground.guard }], some (3, false)⟩) rfl (by rfl) (by rfl) (fun w' hw' => ?_) ?_; rotate_left
        · have c0_ := Ext.cell hw' c0; have c1_ := Ext.cell hw' c1; have c2_ := Ext.cell hw' c2; have c3_ := Ext.cell hw' c3; go_simp <;> first | rfl | exact ⟨rfl, rfl⟩
        simp only [Act.put, List.setIfInBounds_toArray, List.set_cons_zero, List.set_cons_succ]
        refine' wpT_det (o := ⟨some 22, Op.binOp BinOp.neq 2 (Operand.tmp 19) (Operand.tmp 21) 2, 4, "l05_sparse.go:281", #[{ on := 5, ground := Ground.data }, { on := 7, ground := Ground.data }, { on := 3, ground := Ground.guard }], some (3, false)⟩) rfl (by rfl) (by rfl) (fun w' hw' => ?_) ?_; rotate_left
        · go_simp <;> first | rfl | exact ⟨rfl, rfl⟩
        simp only [Act.put, List.setIfInBounds_toArray, List.set_cons_zero, List.set_cons_succ]
        refine' wpT_det (o := ⟨some 23, Op.pick (Operand.tmp 17) (Operand.const (Value.bool true)) (Operand.tmp 22), 4, "l05_sparse.go:281", #[{ on := 3, ground := Ground.data }, { on := 8, ground := Ground.data }], none⟩) rfl (by rfl) (by rfl) (fun w' hw' => ?_) ?_; rotate_left
        · go_simp <;> first | rfl | exact ⟨rfl, rfl⟩
        simp only [Act.put, List.setIfInBounds_toArray, List.set_cons_zero, List.set_cons_succ]
        refine' wpT_det (o := ⟨some 24, Op.move (Operand.tmp 23), 4, "l05_sparse.go:281", #[{ on := 9, ground := Ground.data }, { on := 5, ground := Ground.chain }], none⟩) rfl (by rfl) (by rfl) (fun w' hw' => ?_) ?_; rotate_left
        · go_simp <;> first | rfl | exact ⟨rfl, rfl⟩
        simp only [Act.put, List.setIfInBounds_toArray, List.set_cons_zero, List.set_cons_succ]
        refine' wpT_det (o := ⟨some 25, Op.move (Operand.tmp 1), 22, "l05_sparse.go:281", #[{ on := 10, ground := Ground.guard }], some (10, false)⟩) rfl (by rfl) (by rfl) (fun w' hw' => ?_) ?_; rotate_left
        · go_simp <;> first | rfl | exact ⟨rfl, rfl⟩
        simp only [Act.put, List.setIfInBounds_toArray, List.set_cons_zero, List.set_cons_succ]
        refine wpT_nd (o := ⟨some 26, Op.call { callee := Callee.value (Operand.func 88), args := #[Operand.tmp 25], argTypes := #[22] }, 4, "l05_sparse.go:281", #[{ on := 11, ground := Ground.data }, { on := 10, ground := Ground.chain }, { on := 10, ground := Ground.guard }], some (10, false)⟩) rfl (by rfl) (by rfl) (fun w' hw' hF R__ hGo => ?_) ⟨_, rfl⟩ ?_
        · go_simp
          refine gives_enter rfl ?_
          refine (isPermutation_any N S cS xs hn1 hn32 _ (hS.below (hx0.trans hw'.undrew))).mono ?_
          rintro e w2 ⟨rfl, hx⟩
          exact ⟨_, rfl, hGo _ _ hx (congrArg Value.bool hp) trivial⟩
        intro v hv
        obtain rfl : v = (.bool true) := hv
        simp only [Act.put, List.setIfInBounds_toArray, List.set_cons_zero, List.set_cons_succ]
        refine' wpT_det (o := ⟨some 27, Op.unOp UnOp.not 4 (Operand.tmp 26), 4, "l05_sparse.go:281", #[{ on := 12, ground := Ground.data }, { on := 10, ground := Ground.guard }], some (10, false)⟩) rfl (by rfl) (by rfl) (fun w' hw' => ?_) ?_; rotate_left
        · go_simp <;> first | rfl | exact ⟨rfl, rfl⟩
        simp only [Act.put, List.setIfInBounds_toArray, List.set_cons_zero, List.set_cons_succ]
        refine' wpT_det (o := ⟨some 28, Op.pick (Operand.tmp 24) (Operand.const (Value.bool true)) (Operand.tmp 27), 4, "l05_sparse.go:281", #[{ on := 10, ground := Ground.data }, { on := 13, ground := Ground.data }], none⟩) rfl (by rfl) (by rfl) (fun w' hw' => ?_) ?_; rotate_left
        · go_simp <;> first | rfl | exact ⟨rfl, rfl⟩
        simp only [Act.put, List.setIfInBounds_toArray, List.set_cons_zero, List.set_cons_succ]
        refine wpT_nil (fun w2 hw' hF => ?_)
        refine wpList_nil ?_
        have hx := hw'.undrew
        clear c0 c1 c2 c3 hF hw'
        replace ba := ba.ext hx
        replace b1 := b1.ext hx
        replace hx0 := hx0.trans hx
        clear hx
        have c0 := ba.cell 0 rfl
        have c1 := ba.cell 1 rfl
        have c2 := ba.cell 2 rfl
        have c3 := ba.cell 3 rfl
        go_wp2_with fail
        refine (numbers_any N A n ca B m cb V p cv st co va HSP.out _ (hr.below hx0) (hq.below hx0) (hv.below hx0)).mono ?_
        rw [← HV.out]
        rintro e w3 ⟨b2, rfl, hm2, _, hx⟩
        replace ba := ba.ext hx
        replace b1 := b1.ext hx
        replace hx0 := hx0.trans hx
        clear hx c0 c1 c2 c3
        go_upto_region 4 with (fail)
        have hm4 : MapV (w3.alloc (.map #[] 0)) w3.heap.size (N * N) N (orS N M xs 0 0) := by rw [orS_zero]; exact (MapV.empty w3 N).tight
        have hxx : Ext w3 (w3.alloc (.map #[] 0)) := (Ext.refl _).alloc _
        obtain ⟨w4, hw4⟩ : ∃ v : World, v = w3.alloc (.map #[] 0) := ⟨_, rfl⟩
        obtain ⟨b4, hb⟩ : ∃ b, b = w3.heap.size := ⟨_, rfl⟩
        have hb4 : w3.heap.size ≤ b4 := by omega
        have hb24 : b2 ≠ b4 := by have := hm2.lt; omega
        rw [← hw4, ← hb] at hm4
        rw [← hw4] at hxx
        rw [← hw4, ← hb]
        clear hw4 hb hmk
        go_wp2_with fail
        go_loopw [35] (fun u wr => ∃ i : Nat, i ≤ N ∧ u = .int .i64 i ∧ MapV wr b4 (N * N) N (orS N M xs i 0) ∧ Ext w3 wr) (fun u _ => N - (intOf u).toNat)
        case atStart => exact ⟨0, Nat.zero_le _, rfl, hm4, hxx⟩
        case round =>
          rename World => wA
          clear hm4 hxx
          obtain ⟨i, hi, rfl, hm4, hx⟩ := hrel
          by_cases hlt : i < N
          · have hg1 : IntKind.i64.wrap ((i : Int) + 1) = (i : Int) + 1 := IntWalk.i64_in _ (by omega)
            obtain ⟨ad, rfl, hci⟩ := (hS.below (hx0.trans hx)).intN i hlt
            obtain ⟨u, hu⟩ : ∃ u : Nat, rd xs i = u := ⟨(rd xs i).toNat, by have := HP.out.1 i hlt; omega⟩
            have hun : u < N := by have := HP.out.1 i hlt; omega
            rw [hu] at hci
            have HU := Lib.hid hu
            clear hu
            go_wp2_with fail
            clear hci
            go_loopw [42] (fun u wr => ∃ j : Nat, j ≤ N ∧ u = .int .i64 j ∧ MapV wr b4 (N * N) N (orS N M xs i j) ∧ Ext w3 wr) (fun u _ => N - (intOf u).toNat)
            case atStart => exact ⟨0, Nat.zero_le _, rfl, hm4, hx⟩
            case round =>
              rename World => wB
              clear hm4 hx
              obtain ⟨j, hj, rfl, hm4, hx⟩ := hrel
              by_cases hjn : j < N
              · have hg2 : IntKind.i64.wrap ((j : Int) + 1) = (j : Int) + 1 := IntWalk.i64_in _ (by omega)
                obtain ⟨ad', had, hcj⟩ := (hS.below (hx0.trans hx)).intN j hjn
                obtain rfl := Option.some.inj had
                clear had
                obtain ⟨v, hv_⟩ : ∃ v : Nat, rd xs j = v := ⟨(rd xs j).toNat, by have := HP.out.1 j hjn; omega⟩
                have hvn : v < N := by have := HP.out.1 j hjn; omega
                rw [hv_] at hcj
                have HW := Lib.hid hv_
                clear hv_
                have hm2' := hm2.ext hx
                obtain ⟨x, hl, hcx⟩ := hm2'.look hn32 hun hvn
                simp only [placeV] at hl
                have HC := Lib.hid hcx
                clear hcx
                cases ht : (M u v).isSome with
                | true =>
                  rw [ht] at hl
                  have HOM : Hid (orM M xs i j = some (c32 x)) := by
                    show _ = _
                    unfold orM
                    rw [HU.out, HW.out, Int.toNat_natCast, Int.toNat_natCast, HC.out]
                    cases hz : M u v with
                    | none => rw [hz] at ht; cases ht
                    | some z => rfl
                  clear ht
                  obtain ⟨w10, hrun, hm5, hg⟩ := hm4.update hn32 hlt hjn x
                  simp only [placeV] at hrun
                  replace hm5 := hm5.congr (M' := orS N M xs i (j + 1)) (fun a b ha hb => by
                    unfold updM
                    by_cases e : a = i ∧ b = j
                    · rw [if_pos e, e.1, e.2, orS_here, HOM.out]
                    · rw [if_neg e, orS_other _ _ _ e])
                  have hx10 := MapV.ge hg hx hb4
                  clear hx hm4 hm2'
                  go_wp2_with fail
                  go_roundw
                  case rel => exact ⟨j + 1, by omega, by go_num, hm5, hx10⟩
                  case measure => simp [intOf]; omega
                | false =>
                  rw [ht] at hl
                  replace hm4 := hm4.congr (M' := orS N M xs i (j + 1)) (fun a b ha hb => by
                    by_cases e : a = i ∧ b = j
                    · rw [e.1, e.2, orS_here]
                      unfold orM orS
                      rw [HU.out, HW.out, Int.toNat_natCast, Int.toNat_natCast, if_neg (by omega)]
                      cases hz : M u v with
                      | none => rfl
                      | some z => rw [hz] at ht; cases ht
                    · rw [orS_other _ _ _ e])
                  clear ht hm2'
                  go_wp2_with fail
                  go_roundw
                  case rel => exact ⟨j + 1, by omega, by go_num, hm4, hx⟩
                  case measure => simp [intOf]; omega
              · obtain rfl : j = N := by omega
                rw [orS_row] at hm4
                go_wp2_with fail
                go_roundw
                case rel => exact ⟨i + 1, by omega, by go_num, hm4, hx⟩
                case measure => simp [intOf]; omega
          · obtain rfl : i = N := by omega
            replace ba := ba.ext hx
            replace b1 := b1.ext hx
            replace hx0 := hx0.trans hx
            clear hx
            have c0 := ba.cell 0 rfl
            have HDD : Hid (giveSp i (orS i M xs i 0) = D) := by show _ = _; rw [HD.out]; exact giveSp_congr hn1 (orS_end M xs)
            go_wp2_with fail
            refine (told_any b4 _ i _ hn1 hn32 _ hm4).mono ?_
            rw [HDD.out]
            rintro e w6 ⟨A', kA, B', kB, V', kV, rfl, p1, p2, p3, n12, n13, n23, hx⟩
            clear c0 hm2 ba hm4
            replace p1 := p1.base hx0.size
            replace p2 := p2.base hx0.size
            replace p3 := p3.base hx0.size
            replace b1 := b1.ext hx
            replace hx0 := hx0.trans hx
            clear hx
            have y0 := b1.cell 0 rfl
            have y1 := b1.cell 1 rfl
            have y2 := b1.cell 2 rfl
            have y3 := b1.cell 3 rfl
            have f0 := b1.free 0
            have f1 := b1.free 1
            have f2 := b1.free 2
            have f3 := b1.free 3
            have hq0 := b1.lt
            go_wp2_with fail
            have d0 := b1.set 0 (.int .i64 D.sd)
            have d1 := d0.set 1 (.slice A' D.st.length kA)
            have d2 := d1.set 2 (.slice B' D.co.length kB)
            have d3 := d2.set 3 (.slice V' D.va.length kV)
            have q1 := ((((p1.setBlk b1 (by decide) 0 (.int .i64 D.sd)).setBlk d0 (by decide) 1 (.slice A' D.st.length kA)).setBlk d1 (by decide) 2 (.slice B' D.co.length kB)).setBlk d2 (by decide) 3 (.slice V' D.va.length kV))
            have q2 := ((((p2.setBlk b1 (by decide) 0 (.int .i64 D.sd)).setBlk d0 (by decide) 1 (.slice A' D.st.length kA)).setBlk d1 (by decide) 2 (.slice B' D.co.length kB)).setBlk d2 (by decide) 3 (.slice V' D.va.length kV))
            have q3 := ((((p3.setBlk b1 (by decide) 0 (.int .i64 D.sd)).setBlk d0 (by decide) 1 (.slice A' D.st.length kA)).setBlk d1 (by decide) 2 (.slice B' D.co.length kB)).setBlk d2 (by decide) 3 (.slice V' D.va.length kV))
            have x2 := ((((hx0.set (p := ⟨w.heap.size + 1, 0, none⟩) (by simp; try omega) (.int .i64 D.sd)).set (p := ⟨w.heap.size + 1, 1, none⟩) (by simp; try omega) (.slice A' D.st.length kA)).set (p := ⟨w.heap.size + 1, 2, none⟩) (by simp; try omega) (.slice B' D.co.length kB)).set (p := ⟨w.heap.size + 1, 3, none⟩) (by simp; try omega) (.slice V' D.va.length kV))
            have r0 := d3.cell 0 rfl
            have r1 := d3.cell 1 rfl
            have r2 := d3.cell 2 rfl
            have r3 := d3.cell 3 rfl
            refine bodyPost_ret (v := .tuple #[.agg #[.int .i64 D.sd, .slice A' D.st.length kA, .slice B' D.co.length kB, .slice V' D.va.length kV], .bool D.ok]) (by simp only [results, Try.results29]; simp [go_sem, r0, r1, r2, r3]) rfl ?_
            exact ⟨A', kA, B', kB, V', kV, rfl, q1, q2, q3, n12, n13, n23, x2⟩

end Go.Proofs.Ytkifpligpobiaaa
