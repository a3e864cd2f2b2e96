
import Derived.Test.YtkifpligpobiaaaV5
set_option linter.unusedVariables false
set_option linter.unusedSimpArgs false

namespace Go.Proofs.Ytkifpligpobiaaa

open Go.RowKit


set_option maxRecDepth 20000 in
set_option maxHeartbeats 1000000 in
theorem slicesEqual_any (A B : Option Addr) (n m cap cap' : Nat) (xs ys : List Int) (w : World) (hr : Rds w A n (ints xs)) (hq : Rds w B m (ints ys)) :
    Calls Try.prog 93 #[.slice A n cap, .slice B m cap'] w fun e w' => e = .returned (.bool (decide (xs = ys))) ∧ Ext w w' := by
  have hl := hr.ilen
  have hl' := hq.ilen
  have hs := hr.small
  have hs' := hq.small
  by_cases hnm : n = m
  · subst hnm
    go_enter Try.func93, Try.ntmps93
    go_upto_region 1 with (fail)
    go_wp2_with fail
    go_loopw [13] (fun i wr => ∃ k : Nat, k ≤ n ∧ i = .int .i64 k ∧ Hid (∀ j, j < k → rd xs j = rd ys j) ∧ Ext w wr) (fun i _ => n - (intOf i).toNat)
    case atStart => exact ⟨0, Nat.zero_le _, rfl, fun j hj => by omega, Ext.refl _⟩
    case round =>
      obtain ⟨k, hk, rfl, hsame, hx⟩ := hrel
      by_cases hlt : k < n
      · obtain ⟨ad, rfl, hc⟩ := (hr.below hx).intN k hlt
        obtain ⟨ad', rfl, hc'⟩ := (hq.below hx).intN k hlt
        by_cases he : rd xs k = rd ys k
        · have he' : (rd xs k != rd ys k) = false := by simp [he]
          have HE := Lib.hid he
          clear he
          go_wp2_with fail
          refine wp_region_T (cs := []) [0, 1, 2, 3, 4, 5, 6, 7, 8] [] [] [] (fun _ _ => False) (fun _ _ _ => True) (by kernel_rfl) (by kernel_rfl) (fun _ _ _ _ _ _ => trivial) ?_
          refine' wpT_det (o := ⟨some 16, Op.move (Operand.tmp 0), 22, "slices.go:25", #[], none⟩) rfl (by rfl) (by rfl) (fun w' hw' => ?_) ?_; rotate_left
          · go_simp <;> first | rfl | exact ⟨rfl, rfl⟩
          simp only [Act.put, List.setIfInBounds_toArray, List.set_cons_zero, List.set_cons_succ]
          refine' wpT_det (o := ⟨some 17, Op.move (Operand.tmp 5), 3, "slices.go:25", #[], none⟩) rfl (by rfl) (by rfl) (fun w' hw' => ?_) ?_; rotate_left
          · go_simp <;> first | rfl | exact ⟨rfl, rfl⟩
          simp only [Act.put, List.setIfInBounds_toArray, List.set_cons_zero, List.set_cons_succ]
          refine' wpT_det (o := ⟨some 18, Op.indexAddr 22 (Operand.tmp 16) (Operand.tmp 17), 0, "slices.go:25", #[{ on := 0, ground := Ground.data }, { on := 1, ground := Ground.data }], none⟩) rfl (by rfl) (by rfl) (fun w' hw' => ?_) ?_; rotate_left
          · go_simp <;> first | rfl | exact ⟨rfl, rfl⟩
          simp only [Act.put, List.setIfInBounds_toArray, List.set_cons_zero, List.set_cons_succ]
          refine' wpT_det (o := ⟨some 19, Op.load 2 (Operand.tmp 18), 2, "slices.go:25", #[{ on := 2, ground := Ground.data }], none⟩) rfl (by rfl) (by rfl) (fun w' hw' => ?_) ?_; rotate_left
          · have hc_ := Ext.cell hw' hc; have hc'_ := Ext.cell hw' hc'; go_simp <;> first | rfl | exact ⟨rfl, rfl⟩
          simp only [Act.put, List.setIfInBounds_toArray, List.set_cons_zero, List.set_cons_succ]
          refine' wpT_det (o := ⟨some 20, Op.move (Operand.tmp 1), 22, "slices.go:25", #[], none⟩) rfl (by rfl) (by rfl) (fun w' hw' => ?_) ?_; rotate_left
          · go_simp <;> first | rfl | exact ⟨rfl, rfl⟩
          simp only [Act.put, List.setIfInBounds_toArray, List.set_cons_zero, List.set_cons_succ]
          refine' wpT_det (o := ⟨some 21, Op.move (Operand.tmp 5), 3, "slices.go:25", #[], none⟩) rfl (by rfl) (by rfl) (fun w' hw' => ?_) ?_; rotate_left
          · go_simp <;> first | rfl | exact ⟨rfl, rfl⟩
          simp only [Act.put, List.setIfInBounds_toArray, List.set_cons_zero, List.set_cons_succ]
          refine' wpT_det (o := ⟨some 22, Op.indexAddr 22 (Operand.tmp 20) (Operand.tmp 21), 0, "slices.go:25", #[{ on := 4, ground := Ground.data }, { on := 5, ground := Ground.data }], none⟩) rfl (by rfl) (by rfl) (fun w' hw' => ?_) ?_; rotate_left
          · go_simp <;> first | rfl | exact ⟨rfl, rfl⟩
          simp only [Act.put, List.setIfInBounds_toArray, List.set_cons_zero, List.set_cons_succ]
          refine' wpT_det (o := ⟨some 23, Op.load 2 (Operand.tmp 22), 2, "slices.go:25", #[{ on := 6, ground := Ground.data }], none⟩) rfl (by rfl) (by rfl) (fun w' hw' => ?_) ?_; rotate_left
          · have hc_ := Ext.cell hw' hc; have hc'_ := Ext.cell hw' hc'; go_simp <;> first | rfl | exact ⟨rfl, rfl⟩
          simp only [Act.put, List.setIfInBounds_toArray, List.set_cons_zero, List.set_cons_succ]
          refine' wpT_det (o := ⟨some 24, Op.binOp BinOp.neq 2 (Operand.tmp 19) (Operand.tmp 23) 2, 4, "slices.go:25", #[{ on := 3, ground := Ground.data }, { on := 7, ground := Ground.data }], none⟩) rfl (by rfl) (by rfl) (fun w' hw' => ?_) ?_; rotate_left
          · go_simp <;> first | rfl | exact ⟨rfl, rfl⟩
          simp only [Act.put, List.setIfInBounds_toArray, List.set_cons_zero, List.set_cons_succ]
          refine wpT_nil (fun w' hw' hF => ?_)
          refine wpList_nil ?_
          go_wp2_with fail
          go_roundw
          case rel => exact ⟨k + 1, by omega, by go_num, fun j hj => if e : j = k then (by subst e; exact HE.out) else hsame.out j (by omega), hx.trans hw'.undrew⟩
          case measure => simp [intOf]; omega
        · have he' : (rd xs k != rd ys k) = true := by simp [he]
          go_wp2_with fail
          refine wp_region_T (cs := []) [0, 1, 2, 3, 4, 5, 6, 7, 8] [] [] [] (fun _ _ => False) (fun _ _ _ => True) (by kernel_rfl) (by kernel_rfl) (fun _ _ _ _ _ _ => trivial) ?_
          refine' wpT_det (o := ⟨some 16, Op.move (Operand.tmp 0), 22, "slices.go:25", #[], none⟩) rfl (by rfl) (by rfl) (fun w' hw' => ?_) ?_; rotate_left
          · go_simp <;> first | rfl | exact ⟨rfl, rfl⟩
          simp only [Act.put, List.setIfInBounds_toArray, List.set_cons_zero, List.set_cons_succ]
          refine' wpT_det (o := ⟨some 17, Op.move (Operand.tmp 5), 3, "slices.go:25", #[], none⟩) rfl (by rfl) (by rfl) (fun w' hw' => ?_) ?_; rotate_left
          · go_simp <;> first | rfl | exact ⟨rfl, rfl⟩
          simp only [Act.put, List.setIfInBounds_toArray, List.set_cons_zero, List.set_cons_succ]
          refine' wpT_det (o := ⟨some 18, Op.indexAddr 22 (Operand.tmp 16) (Operand.tmp 17), 0, "slices.go:25", #[{ on := 0, ground := Ground.data }, { on := 1, ground := Ground.data }], none⟩) rfl (by rfl) (by rfl) (fun w' hw' => ?_) ?_; rotate_left
          · go_simp <;> first | rfl | exact ⟨rfl, rfl⟩
          simp only [Act.put, List.setIfInBounds_toArray, List.set_cons_zero, List.set_cons_succ]
          refine' wpT_det (o := ⟨some 19, Op.load 2 (Operand.tmp 18), 2, "slices.go:25", #[{ on := 2, ground := Ground.data }], none⟩) rfl (by rfl) (by rfl) (fun w' hw' => ?_) ?_; rotate_left
          · have hc_ := Ext.cell hw' hc; have hc'_ := Ext.cell hw' hc'; go_simp <;> first | rfl | exact ⟨rfl, rfl⟩
          simp only [Act.put, List.setIfInBounds_toArray, List.set_cons_zero, List.set_cons_succ]
          refine' wpT_det (o := ⟨some 20, Op.move (Operand.tmp 1), 22, "slices.go:25", #[], none⟩) rfl (by rfl) (by rfl) (fun w' hw' => ?_) ?_; rotate_left
          · go_simp <;> first | rfl | exact ⟨rfl, rfl⟩
          simp only [Act.put, List.setIfInBounds_toArray, List.set_cons_zero, List.set_cons_succ]
          refine' wpT_det (o := ⟨some 21, Op.move (Operand.tmp 5), 3, "slices.go:25", #[], none⟩) rfl (by rfl) (by rfl) (fun w' hw' => ?_) ?_; rotate_left
          · go_simp <;> first | rfl | exact ⟨rfl, rfl⟩
          simp only [Act.put, List.setIfInBounds_toArray, List.set_cons_zero, List.set_cons_succ]
          refine' wpT_det (o := ⟨some 22, Op.indexAddr 22 (Operand.tmp 20) (Operand.tmp 21), 0, "slices.go:25", #[{ on := 4, ground := Ground.data }, { on := 5, ground := Ground.data }], none⟩) rfl (by rfl) (by rfl) (fun w' hw' => ?_) ?_; rotate_left
          · go_simp <;> first | rfl | exact ⟨rfl, rfl⟩
          simp only [Act.put, List.setIfInBounds_toArray, List.set_cons_zero, List.set_cons_succ]
          refine' wpT_det (o := ⟨some 23, Op.load 2 (Operand.tmp 22), 2, "slices.go:25", #[{ on := 6, ground := Ground.data }], none⟩) rfl (by rfl) (by rfl) (fun w' hw' => ?_) ?_; rotate_left
          · have hc_ := Ext.cell hw' hc; have hc'_ := Ext.cell hw' hc'; go_simp <;> first | rfl | exact ⟨rfl, rfl⟩
          simp only [Act.put, List.setIfInBounds_toArray, List.set_cons_zero, List.set_cons_succ]
          refine' wpT_det (o := ⟨some 24, Op.binOp BinOp.neq 2 (Operand.tmp 19) (Operand.tmp 23) 2, 4, "slices.go:25", #[{ on := 3, ground := Ground.data }, { on := 7, ground := Ground.data }], none⟩) rfl (by rfl) (by rfl) (fun w' hw' => ?_) ?_; rotate_left
          · go_simp <;> first | rfl | exact ⟨rfl, rfl⟩
          simp only [Act.put, List.setIfInBounds_toArray, List.set_cons_zero, List.set_cons_succ]
          refine wpT_nil (fun w' hw' hF => ?_)
          refine wpList_nil ?_
          go_wp2_with fail
          go_ret
          exact ⟨ret_bool (by rw [decide_eq_false]; intro e; exact he (by rw [e])), hx.trans hw'.undrew⟩
      · go_wp2_with fail
        go_ret
        refine ⟨ret_bool (Eq.symm (decide_eq_true ?_)), hx⟩
        apply List.ext_getElem (by omega)
        intro j h1 h2
        have := hsame.out j (by omega)
        rwa [rd_get h1, rd_get h2] at this
  · have hd : ((n : Int) != (m : Int)) = true := by simp; omega
    go_enter Try.func93, Try.ntmps93
    go_upto_region 1 with (fail)
    go_wp2_with fail
    go_ret
    exact ⟨ret_bool (by rw [decide_eq_false]; intro e; exact hnm (by rw [← hl, ← hl', e])), Ext.refl _⟩

set_option maxRecDepth 20000 in
set_option maxHeartbeats 1000000 in
theorem l00Same_any (A B : Option Addr) (n m cap cap' : Nat) (xs ys : List Int) (w : World) (hr : Rds w A n (ints xs)) (hq : Rds w B m (ints ys)) :
    Calls Try.prog 91 #[.slice A n cap, .slice B m cap'] w fun e w' => e = .returned (.bool (decide (xs = ys))) ∧ Ext w w' := by
  have hl := hr.ilen
  have hl' := hq.ilen
  have hs := hr.small
  have hs' := hq.small
  by_cases hnm : n = m
  · subst hnm
    go_enter Try.func91, Try.ntmps91
    go_upto_region 1 with (fail)
    go_wp2_with fail
    go_loopw [5] (fun i wr => ∃ k : Nat, k ≤ n ∧ i = .int .i64 k ∧ Hid (∀ j, j < k → rd xs j = rd ys j) ∧ Ext w wr) (fun i _ => n - (intOf i).toNat)
    case atStart => exact ⟨0, Nat.zero_le _, rfl, fun j hj => by omega, Ext.refl _⟩
    case round =>
      obtain ⟨k, hk, rfl, hsame, hx⟩ := hrel
      by_cases hlt : k < n
      · obtain ⟨ad, rfl, hc⟩ := (hr.below hx).intN k hlt
        obtain ⟨ad', rfl, hc'⟩ := (hq.below hx).intN k hlt
        by_cases he : rd xs k = rd ys k
        · have he' : (rd xs k != rd ys k) = false := by simp [he]
          have HE := Lib.hid he
          clear he
          go_wp2_with fail
          refine wp_region_T (cs := []) [0, 1, 2, 3, 4, 5, 6, 7, 8] [] [] [] (fun _ _ => False) (fun _ _ _ => True) (by kernel_rfl) (by kernel_rfl) (fun _ _ _ _ _ _ => trivial) ?_
          refine' wpT_det (o := ⟨some 17, Op.move (Operand.tmp 0), 22, "l00_source.go:116", #[], none⟩) rfl (by rfl) (by rfl) (fun w' hw' => ?_) ?_; rotate_left
          · go_simp <;> first | rfl | exact ⟨rfl, rfl⟩
          simp only [Act.put, List.setIfInBounds_toArray, List.set_cons_zero, List.set_cons_succ]
          refine' wpT_det (o := ⟨some 18, Op.move (Operand.tmp 5), 3, "l00_source.go:116", #[], none⟩) rfl (by rfl) (by rfl) (fun w' hw' => ?_) ?_; rotate_left
          · go_simp <;> first | rfl | exact ⟨rfl, rfl⟩
          simp only [Act.put, List.setIfInBounds_toArray, List.set_cons_zero, List.set_cons_succ]
          refine' wpT_det (o := ⟨some 19, Op.indexAddr 22 (Operand.tmp 17) (Operand.tmp 18), 0, "l00_source.go:116", #[{ on := 0, ground := Ground.data }, { on := 1, ground := Ground.data }], none⟩) rfl (by rfl) (by rfl) (fun w' hw' => ?_) ?_; rotate_left
          · go_simp <;> first | rfl | exact ⟨rfl, rfl⟩
          simp only [Act.put, List.setIfInBounds_toArray, List.set_cons_zero, List.set_cons_succ]
          refine' wpT_det (o := ⟨some 20, Op.load 2 (Operand.tmp 19), 2, "l00_source.go:116", #[{ on := 2, ground := Ground.data }], none⟩) rfl (by rfl) (by rfl) (fun w' hw' => ?_) ?_; rotate_left
          · have hc_ := Ext.cell hw' hc; have hc'_ := Ext.cell hw' hc'; go_simp <;> first | rfl | exact ⟨rfl, rfl⟩
          simp only [Act.put, List.setIfInBounds_toArray, List.set_cons_zero, List.set_cons_succ]
          refine' wpT_det (o := ⟨some 21, Op.move (Operand.tmp 1), 22, "l00_source.go:116", #[], none⟩) rfl (by rfl) (by rfl) (fun w' hw' => ?_) ?_; rotate_left
          · go_simp <;> first | rfl | exact ⟨rfl, rfl⟩
          simp only [Act.put, List.setIfInBounds_toArray, List.set_cons_zero, List.set_cons_succ]
          refine' wpT_det (o := ⟨some 22, Op.move (Operand.tmp 5), 3, "l00_source.go:116", #[], none⟩) rfl (by rfl) (by rfl) (fun w' hw' => ?_) ?_; rotate_left
          · go_simp <;> first | rfl | exact ⟨rfl, rfl⟩
          simp only [Act.put, List.setIfInBounds_toArray, List.set_cons_zero, List.set_cons_succ]
          refine' wpT_det (o := ⟨some 23, Op.indexAddr 22 (Operand.tmp 21) (Operand.tmp 22), 0, "l00_source.go:116", #[{ on := 4, ground := Ground.data }, { on := 5, ground := Ground.data }], none⟩) rfl (by rfl) (by rfl) (fun w' hw' => ?_) ?_; rotate_left
          · go_simp <;> first | rfl | exact ⟨rfl, rfl⟩
          simp only [Act.put, List.setIfInBounds_toArray, List.set_cons_zero, List.set_cons_succ]
          refine' wpT_det (o := ⟨some 24, Op.load 2 (Operand.tmp 23), 2, "l00_source.go:116", #[{ on := 6, ground := Ground.data }], none⟩) rfl (by rfl) (by rfl) (fun w' hw' => ?_) ?_; rotate_left
          · have hc_ := Ext.cell hw' hc; have hc'_ := Ext.cell hw' hc'; go_simp <;> first | rfl | exact ⟨rfl, rfl⟩
          simp only [Act.put, List.setIfInBounds_toArray, List.set_cons_zero, List.set_cons_succ]
          refine' wpT_det (o := ⟨some 25, Op.binOp BinOp.neq 2 (Operand.tmp 20) (Operand.tmp 24) 2, 4, "l00_source.go:116", #[{ on := 3, ground := Ground.data }, { on := 7, ground := Ground.data }], none⟩) rfl (by rfl) (by rfl) (fun w' hw' => ?_) ?_; rotate_left
          · go_simp <;> first | rfl | exact ⟨rfl, rfl⟩
          simp only [Act.put, List.setIfInBounds_toArray, List.set_cons_zero, List.set_cons_succ]
          refine wpT_nil (fun w' hw' hF => ?_)
          refine wpList_nil ?_
          go_wp2_with fail
          go_roundw
          case rel => exact ⟨k + 1, by omega, by go_num, fun j hj => if e : j = k then (by subst e; exact HE.out) else hsame.out j (by omega), hx.trans hw'.undrew⟩
          case measure => simp [intOf]; omega
        · have he' : (rd xs k != rd ys k) = true := by simp [he]
          go_wp2_with fail
          refine wp_region_T (cs := []) [0, 1, 2, 3, 4, 5, 6, 7, 8] [] [] [] (fun _ _ => False) (fun _ _ _ => True) (by kernel_rfl) (by kernel_rfl) (fun _ _ _ _ _ _ => trivial) ?_
          refine' wpT_det (o := ⟨some 17, Op.move (Operand.tmp 0), 22, "l00_source.go:116", #[], none⟩) rfl (by rfl) (by rfl) (fun w' hw' => ?_) ?_; rotate_left
          · go_simp <;> first | rfl | exact ⟨rfl, rfl⟩
          simp only [Act.put, List.setIfInBounds_toArray, List.set_cons_zero, List.set_cons_succ]
          refine' wpT_det (o := ⟨some 18, Op.move (Operand.tmp 5), 3, "l00_source.go:116", #[], none⟩) rfl (by rfl) (by rfl) (fun w' hw' => ?_) ?_; rotate_left
          · go_simp <;> first | rfl | exact ⟨rfl, rfl⟩
          simp only [Act.put, List.setIfInBounds_toArray, List.set_cons_zero, List.set_cons_succ]
          refine' wpT_det (o := ⟨some 19, Op.indexAddr 22 (Operand.tmp 17) (Operand.tmp 18), 0, "l00_source.go:116", #[{ on := 0, ground := Ground.data }, { on := 1, ground := Ground.data }], none⟩) rfl (by rfl) (by rfl) (fun w' hw' => ?_) ?_; rotate_left
          · go_simp <;> first | rfl | exact ⟨rfl, rfl⟩
          simp only [Act.put, List.setIfInBounds_toArray, List.set_cons_zero, List.set_cons_succ]
          refine' wpT_det (o := ⟨some 20, Op.load 2 (Operand.tmp 19), 2, "l00_source.go:116", #[{ on := 2, ground := Ground.data }], none⟩) rfl (by rfl) (by rfl) (fun w' hw' => ?_) ?_; rotate_left
          · have hc_ := Ext.cell hw' hc; have hc'_ := Ext.cell hw' hc'; go_simp <;> first | rfl | exact ⟨rfl, rfl⟩
          simp only [Act.put, List.setIfInBounds_toArray, List.set_cons_zero, List.set_cons_succ]
          refine' wpT_det (o := ⟨some 21, Op.move (Operand.tmp 1), 22, "l00_source.go:116", #[], none⟩) rfl (by rfl) (by rfl) (fun w' hw' => ?_) ?_; rotate_left
          · go_simp <;> first | rfl | exact ⟨rfl, rfl⟩
          simp only [Act.put, List.setIfInBounds_toArray, List.set_cons_zero, List.set_cons_succ]
          refine' wpT_det (o := ⟨some 22, Op.move (Operand.tmp 5), 3, "l00_source.go:116", #[], none⟩) rfl (by rfl) (by rfl) (fun w' hw' => ?_) ?_; rotate_left
          · go_simp <;> first | rfl | exact ⟨rfl, rfl⟩
          simp only [Act.put, List.setIfInBounds_toArray, List.set_cons_zero, List.set_cons_succ]
          refine' wpT_det (o := ⟨some 23, Op.indexAddr 22 (Operand.tmp 21) (Operand.tmp 22), 0, "l00_source.go:116", #[{ on := 4, ground := Ground.data }, { on := 5, ground := Ground.data }], none⟩) rfl (by rfl) (by rfl) (fun w' hw' => ?_) ?_; rotate_left
          · go_simp <;> first | rfl | exact ⟨rfl, rfl⟩
          simp only [Act.put, List.setIfInBounds_toArray, List.set_cons_zero, List.set_cons_succ]
          refine' wpT_det (o := ⟨some 24, Op.load 2 (Operand.tmp 23), 2, "l00_source.go:116", #[{ on := 6, ground := Ground.data }], none⟩) rfl (by rfl) (by rfl) (fun w' hw' => ?_) ?_; rotate_left
          · have hc_ := Ext.cell hw' hc; have hc'_ := Ext.cell hw' hc'; go_simp <;> first | rfl | exact ⟨rfl, rfl⟩
          simp only [Act.put, List.setIfInBounds_toArray, List.set_cons_zero, List.set_cons_succ]
          refine' wpT_det (o := ⟨some 25, Op.binOp BinOp.neq 2 (Operand.tmp 20) (Operand.tmp 24) 2, 4, "l00_source.go:116", #[{ on := 3, ground := Ground.data }, { on := 7, ground := Ground.data }], none⟩) rfl (by rfl) (by rfl) (fun w' hw' => ?_) ?_; rotate_left
          · go_simp <;> first | rfl | exact ⟨rfl, rfl⟩
          simp only [Act.put, List.setIfInBounds_toArray, List.set_cons_zero, List.set_cons_succ]
          refine wpT_nil (fun w' hw' hF => ?_)
          refine wpList_nil ?_
          go_wp2_with fail
          go_ret
          exact ⟨ret_bool (by rw [decide_eq_false]; intro e; exact he (by rw [e])), hx.trans hw'.undrew⟩
      · go_wp2_with fail
        go_ret
        refine ⟨ret_bool (Eq.symm (decide_eq_true ?_)), hx⟩
        apply List.ext_getElem (by omega)
        intro j h1 h2
        have := hsame.out j (by omega)
        rwa [rd_get h1, rd_get h2] at this
  · have hd : ((n : Int) != (m : Int)) = true := by simp; omega
    go_enter Try.func91, Try.ntmps91
    go_upto_region 1 with (fail)
    go_wp2_with fail
    go_ret
    exact ⟨ret_bool (by rw [decide_eq_false]; intro e; exact hnm (by rw [← hl, ← hl', e])), Ext.refl _⟩

theorem cfs_ext {xs ys : List Nat} (hl : xs.length = ys.length) (h : ∀ j : Nat, j < xs.length → c32 (rdf xs j) = c32 (rdf ys j)) : cfs xs = cfs ys := by
  unfold cfs
  apply List.ext_getElem (by simpa using hl)
  intro j h1 h2
  rw [List.length_map] at h1 h2
  have := h j h1
  rw [rdf_get h1, rdf_get h2] at this
  simpa using this
theorem cfs_at {xs ys : List Nat} (h : cfs xs = cfs ys) {j : Nat} (h1 : j < xs.length) (h2 : j < ys.length) : c32 (rdf xs j) = c32 (rdf ys j) := by
  rw [← rdo_cfs h1, ← rdo_cfs h2, h]
theorem cfs_len {xs ys : List Nat} (h : cfs xs = cfs ys) : xs.length = ys.length := by rw [← cfs_length xs, h, cfs_length]

set_option maxRecDepth 20000 in
set_option maxHeartbeats 1000000 in
theorem equalFunc_any (A B : Option Addr) (n m cap cap' : Nat) (xs ys : List Nat) (w : World) (hx : ∀ x ∈ xs, x < 4294967296) (hy : ∀ x ∈ ys, x < 4294967296) (hr : Rds w A n (flts xs)) (hq : Rds w B m (flts ys)) :
    Calls Try.prog 135 #[.slice A n cap, .slice B m cap', .func (.func 136) #[] #[]] w fun e w' => e = .returned (.bool (decide (cfs xs = cfs ys))) ∧ Ext w w' := by
  have eg := enters_of Try.func136 (by kernel_rfl) rfl
  have HX := Lib.hid hx
  have HY := Lib.hid hy
  clear hx hy
  have hl := hr.flen
  have hl' := hq.flen
  have hs := hr.small
  have hs' := hq.small
  by_cases hnm : n = m
  · subst hnm
    go_enter Try.func135, Try.ntmps135
    go_upto_region 1 with (fail)
    go_wp2_with fail
    go_loopw [17] (fun i wr => ∃ k : Nat, k ≤ n ∧ i = .int .i64 k ∧ Hid (∀ j : Nat, j < k → c32 (rdf xs j) = c32 (rdf ys j)) ∧ Ext w wr) (fun i _ => n - (intOf i).toNat)
    case atStart => exact ⟨0, Nat.zero_le _, rfl, fun j hj => by omega, Ext.refl _⟩
    case round =>
      obtain ⟨k, hk, rfl, hsame, hx⟩ := hrel
      by_cases hlt : k < n
      · have bx : rdf xs k < 4294967296 := by rw [rdf_get (by omega)]; exact HX.out _ (List.getElem_mem _)
        have by_ : rdf ys k < 4294967296 := by rw [rdf_get (by omega)]; exact HY.out _ (List.getElem_mem _)
        obtain ⟨ad, rfl, hc⟩ := (hr.below hx).fltN k hlt
        obtain ⟨ad', rfl, hc'⟩ := (hq.below hx).fltN k hlt
        go_wp2_with fail
        refine (SameNumber_any (rdf xs k) (rdf ys k) bx by_ _).mono ?_
        rintro e w1 ⟨rfl, hx1⟩
        by_cases he : c32 (rdf xs k) = c32 (rdf ys k)
        · rw [decide_eq_true he]
          have HE := Lib.hid he
          clear he
          go_wp2_with fail
          go_roundw
          case rel => exact ⟨k + 1, by omega, by go_num, fun j hj => if e : j = k then (by subst e; exact HE.out) else hsame.out j (by omega), hx.trans hx1⟩
          case measure => simp [intOf]; omega
        · rw [decide_eq_false he]
          have HE := Lib.hid he
          clear he
          go_wp2_with fail
          go_ret
          exact ⟨ret_bool (by rw [decide_eq_false]; intro e; exact HE.out (cfs_at e (by omega) (by omega))), hx.trans hx1⟩
      · go_wp2_with fail
        go_ret
        exact ⟨ret_bool (Eq.symm (decide_eq_true (cfs_ext (by omega) fun j hj => hsame.out j (by omega)))), hx⟩
  · have hd : ((n : Int) != (m : Int)) = true := by simp; omega
    go_enter Try.func135, Try.ntmps135
    go_upto_region 1 with (fail)
    go_wp2_with fail
    go_ret
    exact ⟨ret_bool (by rw [decide_eq_false]; intro e; exact hnm (by rw [← hl, ← hl', cfs_len e])), Ext.refl _⟩

set_option maxRecDepth 20000 in
set_option maxHeartbeats 400000 in
theorem sameNumbers_any (A B : Option Addr) (n m cap cap' : Nat) (xs ys : List Nat) (w : World) (hx : ∀ x ∈ xs, x < 4294967296) (hy : ∀ x ∈ ys, x < 4294967296) (hr : Rds w A n (flts xs)) (hq : Rds w B m (flts ys)) :
    Calls Try.prog 94 #[.slice A n cap, .slice B m cap'] w fun e w' => e = .returned (.bool (decide (cfs xs = cfs ys))) ∧ Ext w w' := by
  go_enter Try.func94, Try.ntmps94
  go_upto_region 1 with (fail)
  go_wp2_with fail
  refine (equalFunc_any A B n m cap cap' xs ys _ hx hy hr hq).mono ?_
  rintro e w1 ⟨rfl, h⟩
  go_wp2_with fail
  go_ret
  exact ⟨rfl, h⟩

set_option maxRecDepth 20000 in
set_option maxHeartbeats 1000000 in
theorem l01SameAll_any (A B : Option Addr) (n m cap cap' : Nat) (xs ys : List Nat) (w : World) (hx : ∀ x ∈ xs, x < 4294967296) (hy : ∀ x ∈ ys, x < 4294967296) (hr : Rds w A n (flts xs)) (hq : Rds w B m (flts ys)) :
    Calls Try.prog 92 #[.slice A n cap, .slice B m cap'] w fun e w' => e = .returned (.bool (decide (cfs xs = cfs ys))) ∧ Ext w w' := by
  have HX := Lib.hid hx
  have HY := Lib.hid hy
  clear hx hy
  have hl := hr.flen
  have hl' := hq.flen
  have hs := hr.small
  have hs' := hq.small
  by_cases hnm : n = m
  · subst hnm
    go_enter Try.func92, Try.ntmps92
    go_upto_region 1 with (fail)
    go_wp2_with fail
    go_loopw [5] (fun i wr => ∃ k : Nat, k ≤ n ∧ i = .int .i64 k ∧ Hid (∀ j : Nat, j < k → c32 (rdf xs j) = c32 (rdf ys j)) ∧ Ext w wr) (fun i _ => n - (intOf i).toNat)
    case atStart => exact ⟨0, Nat.zero_le _, rfl, fun j hj => by omega, Ext.refl _⟩
    case round =>
      obtain ⟨k, hk, rfl, hsame, hx⟩ := hrel
      by_cases hlt : k < n
      · have bx : rdf xs k < 4294967296 := by rw [rdf_get (by omega)]; exact HX.out _ (List.getElem_mem _)
        have by_ : rdf ys k < 4294967296 := by rw [rdf_get (by omega)]; exact HY.out _ (List.getElem_mem _)
        obtain ⟨ad, rfl, hc⟩ := (hr.below hx).fltN k hlt
        obtain ⟨ad', rfl, hc'⟩ := (hq.below hx).fltN k hlt
        by_cases he : c32 (rdf xs k) = c32 (rdf ys k)
        · have hde := decide_eq_true he
          have HE := Lib.hid he
          clear he
          go_wp2_with fail
          refine wp_region_T (cs := []) [0, 1, 2, 3, 4, 5, 6, 7, 8, 9] [] [8] [] (fun i__ v => match i__ with | 8 => v = (.bool true) | _ => False) (fun _ _ _ => True) (by kernel_rfl) (by kernel_rfl) (fun _ _ _ _ _ _ => trivial) ?_
          refine' wpT_det (o := ⟨some 17, Op.move (Operand.tmp 0), 23, "l01_numbers.go:29", #[], none⟩) rfl (by rfl) (by rfl) (fun w' hw' => ?_) ?_; rotate_left
          · go_simp <;> first | rfl | exact ⟨rfl, rfl⟩
          simp only [Act.put, List.setIfInBounds_toArray, List.set_cons_zero, List.set_cons_succ]
          refine' wpT_det (o := ⟨some 18, Op.move (Operand.tmp 5), 3, "l01_numbers.go:29", #[], none⟩) rfl (by rfl) (by rfl) (fun w' hw' => ?_) ?_; rotate_left
          · go_simp <;> first | rfl | exact ⟨rfl, rfl⟩
          simp only [Act.put, List.setIfInBounds_toArray, List.set_cons_zero, List.set_cons_succ]
          refine' wpT_det (o := ⟨some 19, Op.indexAddr 23 (Operand.tmp 17) (Operand.tmp 18), 0, "l01_numbers.go:29", #[{ on := 0, ground := Ground.data }, { on := 1, ground := Ground.data }], none⟩) rfl (by rfl) (by rfl) (fun w' hw' => ?_) ?_; rotate_left
          · go_simp <;> first | rfl | exact ⟨rfl, rfl⟩
          simp only [Act.put, List.setIfInBounds_toArray, List.set_cons_zero, List.set_cons_succ]
          refine' wpT_det (o := ⟨some 20, Op.load 43 (Operand.tmp 19), 43, "l01_numbers.go:29", #[{ on := 2, ground := Ground.data }], none⟩) rfl (by rfl) (by rfl) (fun w' hw' => ?_) ?_; rotate_left
          · have hc_ := Ext.cell hw' hc; have hc'_ := Ext.cell hw' hc'; go_simp <;> first | rfl | exact ⟨rfl, rfl⟩
          simp only [Act.put, List.setIfInBounds_toArray, List.set_cons_zero, List.set_cons_succ]
          refine' wpT_det (o := ⟨some 21, Op.move (Operand.tmp 1), 23, "l01_numbers.go:29", #[], none⟩) rfl (by rfl) (by rfl) (fun w' hw' => ?_) ?_; rotate_left
          · go_simp <;> first | rfl | exact ⟨rfl, rfl⟩
          simp only [Act.put, List.setIfInBounds_toArray, List.set_cons_zero, List.set_cons_succ]
          refine' wpT_det (o := ⟨some 22, Op.move (Operand.tmp 5), 3, "l01_numbers.go:29", #[], none⟩) rfl (by rfl) (by rfl) (fun w' hw' => ?_) ?_; rotate_left
          · go_simp <;> first | rfl | exact ⟨rfl, rfl⟩
          simp only [Act.put, List.setIfInBounds_toArray, List.set_cons_zero, List.set_cons_succ]
          refine' wpT_det (o := ⟨some 23, Op.indexAddr 23 (Operand.tmp 21) (Operand.tmp 22), 0, "l01_numbers.go:29", #[{ on := 4, ground := Ground.data }, { on := 5, ground := Ground.data }], none⟩) rfl (by rfl) (by rfl) (fun w' hw' => ?_) ?_; rotate_left
          · go_simp <;> first | rfl | exact ⟨rfl, rfl⟩
          simp only [Act.put, List.setIfInBounds_toArray, List.set_cons_zero, List.set_cons_succ]
          refine' wpT_det (o := ⟨some 24, Op.load 43 (Operand.tmp 23), 43, "l01_numbers.go:29", #[{ on := 6, ground := Ground.data }], none⟩) rfl (by rfl) (by rfl) (fun w' hw' => ?_) ?_; rotate_left
          · have hc_ := Ext.cell hw' hc; have hc'_ := Ext.cell hw' hc'; go_simp <;> first | rfl | exact ⟨rfl, rfl⟩
          simp only [Act.put, List.setIfInBounds_toArray, List.set_cons_zero, List.set_cons_succ]
          refine wpT_nd (o := ⟨some 25, Op.call { callee := Callee.value (Operand.func 134), args := #[Operand.tmp 20, Operand.tmp 24], argTypes := #[43, 43] }, 4, "l01_numbers.go:29", #[{ on := 3, ground := Ground.data }, { on := 7, ground := Ground.data }], none⟩) rfl (by rfl) (by rfl) (fun w' hw' hF R__ hGo => ?_) ⟨_, rfl⟩ ?_
          · go_simp
            refine gives_enter rfl ?_
            refine (l01Same_any _ _ bx by_ _).mono ?_
            rintro e w2 ⟨rfl, rfl⟩
            exact ⟨_, rfl, hGo _ _ (Ext.refl _) (congrArg Value.bool hde) trivial⟩
          intro v hv
          obtain rfl : v = (.bool true) := hv
          simp only [Act.put, List.setIfInBounds_toArray, List.set_cons_zero, List.set_cons_succ]
          refine' wpT_det (o := ⟨some 26, Op.unOp UnOp.not 4 (Operand.tmp 25), 4, "l01_numbers.go:29", #[{ on := 8, ground := Ground.data }], none⟩) rfl (by rfl) (by rfl) (fun w' hw' => ?_) ?_; rotate_left
          · go_simp <;> first | rfl | exact ⟨rfl, rfl⟩
          simp only [Act.put, List.setIfInBounds_toArray, List.set_cons_zero, List.set_cons_succ]
          refine wpT_nil (fun w' hw' hF => ?_)
          refine wpList_nil ?_
          go_wp2_with fail
          go_roundw
          case rel => exact ⟨k + 1, by omega, by go_num, fun j hj => if e : j = k then (by subst e; exact HE.out) else hsame.out j (by omega), hx.trans hw'.undrew⟩
          case measure => simp [intOf]; omega
        · have hde := decide_eq_false he
          have HE := Lib.hid he
          clear he
          go_wp2_with fail
          refine wp_region_T (cs := []) [0, 1, 2, 3, 4, 5, 6, 7, 8, 9] [] [8] [] (fun i__ v => match i__ with | 8 => v = (.bool false) | _ => False) (fun _ _ _ => True) (by kernel_rfl) (by kernel_rfl) (fun _ _ _ _ _ _ => trivial) ?_
          refine' wpT_det (o := ⟨some 17, Op.move (Operand.tmp 0), 23, "l01_numbers.go:29", #[], none⟩) rfl (by rfl) (by rfl) (fun w' hw' => ?_) ?_; rotate_left
          · go_simp <;> first | rfl | exact ⟨rfl, rfl⟩
          simp only [Act.put, List.setIfInBounds_toArray, List.set_cons_zero, List.set_cons_succ]
          refine' wpT_det (o := ⟨some 18, Op.move (Operand.tmp 5), 3, "l01_numbers.go:29", #[], none⟩) rfl (by rfl) (by rfl) (fun w' hw' => ?_) ?_; rotate_left
          · go_simp <;> first | rfl | exact ⟨rfl, rfl⟩
          simp only [Act.put, List.setIfInBounds_toArray, List.set_cons_zero, List.set_cons_succ]
          refine' wpT_det (o := ⟨some 19, Op.indexAddr 23 (Operand.tmp 17) (Operand.tmp 18), 0, "l01_numbers.go:29", #[{ on := 0, ground := Ground.data }, { on := 1, ground := Ground.data }], none⟩) rfl (by rfl) (by rfl) (fun w' hw' => ?_) ?_; rotate_left
          · go_simp <;> first | rfl | exact ⟨rfl, rfl⟩
          simp only [Act.put, List.setIfInBounds_toArray, List.set_cons_zero, List.set_cons_succ]
          refine' wpT_det (o := ⟨some 20, Op.load 43 (Operand.tmp 19), 43, "l01_numbers.go:29", #[{ on := 2, ground := Ground.data }], none⟩) rfl (by rfl) (by rfl) (fun w' hw' => ?_) ?_; rotate_left
          · have hc_ := Ext.cell hw' hc; have hc'_ := Ext.cell hw' hc'; go_simp <;> first | rfl | exact ⟨rfl, rfl⟩
          simp only [Act.put, List.setIfInBounds_toArray, List.set_cons_zero, List.set_cons_succ]
          refine' wpT_det (o := ⟨some 21, Op.move (Operand.tmp 1), 23, "l01_numbers.go:29", #[], none⟩) rfl (by rfl) (by rfl) (fun w' hw' => ?_) ?_; rotate_left
          · go_simp <;> first | rfl | exact ⟨rfl, rfl⟩
          simp only [Act.put, List.setIfInBounds_toArray, List.set_cons_zero, List.set_cons_succ]
          refine' wpT_det (o := ⟨some 22, Op.move (Operand.tmp 5), 3, "l01_numbers.go:29", #[], none⟩) rfl (by rfl) (by rfl) (fun w' hw' => ?_) ?_; rotate_left
          · go_simp <;> first | rfl | exact ⟨rfl, rfl⟩
          simp only [Act.put, List.setIfInBounds_toArray, List.set_cons_zero, List.set_cons_succ]
          refine' wpT_det (o := ⟨some 23, Op.indexAddr 23 (Operand.tmp 21) (Operand.tmp 22), 0, "l01_numbers.go:29", #[{ on := 4, ground := Ground.data }, { on := 5, ground := Ground.data }], none⟩) rfl (by rfl) (by rfl) (fun w' hw' => ?_) ?_; rotate_left
          · go_simp <;> first | rfl | exact ⟨rfl, rfl⟩
          simp only [Act.put, List.setIfInBounds_toArray, List.set_cons_zero, List.set_cons_succ]
          refine' wpT_det (o := ⟨some 24, Op.load 43 (Operand.tmp 23), 43, "l01_numbers.go:29", #[{ on := 6, ground := Ground.data }], none⟩) rfl (by rfl) (by rfl) (fun w' hw' => ?_) ?_; rotate_left
          · have hc_ := Ext.cell hw' hc; have hc'_ := Ext.cell hw' hc'; go_simp <;> first | rfl | exact ⟨rfl, rfl⟩
          simp only [Act.put, List.setIfInBounds_toArray, List.set_cons_zero, List.set_cons_succ]
          refine wpT_nd (o := ⟨some 25, Op.call { callee := Callee.value (Operand.func 134), args := #[Operand.tmp 20, Operand.tmp 24], argTypes := #[43, 43] }, 4, "l01_numbers.go:29", #[{ on := 3, ground := Ground.data }, { on := 7, ground := Ground.data }], none⟩) rfl (by rfl) (by rfl) (fun w' hw' hF R__ hGo => ?_) ⟨_, rfl⟩ ?_
          · go_simp
            refine gives_enter rfl ?_
            refine (l01Same_any _ _ bx by_ _).mono ?_
            rintro e w2 ⟨rfl, rfl⟩
            exact ⟨_, rfl, hGo _ _ (Ext.refl _) (congrArg Value.bool hde) trivial⟩
          intro v hv
          obtain rfl : v = (.bool false) := hv
          simp only [Act.put, List.setIfInBounds_toArray, List.set_cons_zero, List.set_cons_succ]
          refine' wpT_det (o := ⟨some 26, Op.unOp UnOp.not 4 (Operand.tmp 25), 4, "l01_numbers.go:29", #[{ on := 8, ground := Ground.data }], none⟩) rfl (by rfl) (by rfl) (fun w' hw' => ?_) ?_; rotate_left
          · go_simp <;> first | rfl | exact ⟨rfl, rfl⟩
          simp only [Act.put, List.setIfInBounds_toArray, List.set_cons_zero, List.set_cons_succ]
          refine wpT_nil (fun w' hw' hF => ?_)
          refine wpList_nil ?_
          go_wp2_with fail
          go_ret
          exact ⟨ret_bool (by rw [decide_eq_false]; intro e; exact HE.out (cfs_at e (by omega) (by omega))), hx.trans hw'.undrew⟩
      · go_wp2_with fail
        go_ret
        exact ⟨ret_bool (Eq.symm (decide_eq_true (cfs_ext (by omega) fun j hj => hsame.out j (by omega)))), hx⟩
  · have hd : ((n : Int) != (m : Int)) = true := by simp; omega
    go_enter Try.func92, Try.ntmps92
    go_upto_region 1 with (fail)
    go_wp2_with fail
    go_ret
    exact ⟨ret_bool (by rw [decide_eq_false]; intro e; exact hnm (by rw [← hl, ← hl', cfs_len e])), Ext.refl _⟩

/-- The answer of SameSparse. -/
def sameSp (sd sd' : Int) (st co : List Int) (va : List Nat) (st' co' : List Int) (va' : List Nat) : Bool := decide (sd = sd') && decide (st = st') && decide (co = co') && decide (cfs va = cfs va')

set_option maxRecDepth 20000 in
set_option maxHeartbeats 4000000 in
theorem implSameSparse_any (sd : Int) (A : Option Addr) (n ca : Nat) (B : Option Addr) (m cb : Nat) (V : Option Addr) (p cv : Nat) (sd' : Int) (A' : Option Addr) (n' ca' : Nat) (B' : Option Addr) (m' cb' : Nat) (V' : Option Addr) (p' cv' : Nat) (st co : List Int) (va : List Nat) (st' co' : List Int) (va' : List Nat) (w : World) (hwf : ∀ x ∈ va, x < 4294967296) (hwf' : ∀ x ∈ va', x < 4294967296) (hr : Rds w A n (ints st)) (hq : Rds w B m (ints co)) (hv : Rds w V p (flts va)) (hr' : Rds w A' n' (ints st')) (hq' : Rds w B' m' (ints co')) (hv' : Rds w V' p' (flts va')) :
    Calls Try.prog 33 #[.agg #[.int .i64 sd, .slice A n ca, .slice B m cb, .slice V p cv], .agg #[.int .i64 sd', .slice A' n' ca', .slice B' m' cb', .slice V' p' cv']] w fun e w' => e = .returned (.bool (sameSp sd sd' st co va st' co' va')) ∧ Ext w w' := by
  obtain ⟨res, hres⟩ : ∃ res, res = sameSp sd sd' st co va st' co' va' := ⟨_, rfl⟩
  rw [← hres]
  unfold sameSp at hres
  have Hres := Lib.hid hres
  clear hres
  have HW := Lib.hid hwf
  have HW' := Lib.hid hwf'
  clear hwf hwf'
  by_cases h1 : sd = sd'
  rotate_left
  · have d1 : (sd == sd') = false := by simpa using h1
    have E1 := Lib.hid h1
    clear h1
    go_enter Try.func33, Try.ntmps33
    go_upto_region 1 with (fail)
    obtain ⟨w0, hw0⟩ : ∃ w0, w0 = ((w.alloc (.cells #[.int .i64 sd, .slice A n ca, .slice B m cb, .slice V p cv] 27)).alloc (.cells #[.int .i64 sd', .slice A' n' ca', .slice B' m' cb', .slice V' p' cv'] 27)) := ⟨_, rfl⟩
    have hx0 : Ext w w0 := by subst hw0; exact ((Ext.refl _).alloc _).alloc _
    have ba : Blk w0 (w.heap.size) #[.int .i64 sd, .slice A n ca, .slice B m cb, .slice V p cv] 27 := by subst hw0; exact (Blk.new w _ _).ext ((Ext.refl _).alloc _)
    have bb : Blk w0 (w.heap.size + 1) #[.int .i64 sd', .slice A' n' ca', .slice B' m' cb', .slice V' p' cv'] 27 := by subst hw0; simpa using (Blk.new (w.alloc (.cells #[.int .i64 sd, .slice A n ca, .slice B m cb, .slice V p cv] 27)) _ _)
    rw [← hw0]
    clear hw0
    have a0 := ba.cell 0 rfl
    have b0 := bb.cell 0 rfl
    go_wp2_with fail
    go_ret
    exact ⟨ret_bool (by rw [Hres.out, decide_eq_false E1.out]; simp), hx0⟩
  have d1 : (sd == sd') = true := by simpa using h1
  have E1 := Lib.hid h1
  clear h1
  by_cases h2 : st = st'
  rotate_left
  · have d2 := decide_eq_false h2
    have E2 := Lib.hid h2
    clear h2
    go_enter Try.func33, Try.ntmps33
    go_upto_region 1 with (fail)
    obtain ⟨w0, hw0⟩ : ∃ w0, w0 = ((w.alloc (.cells #[.int .i64 sd, .slice A n ca, .slice B m cb, .slice V p cv] 27)).alloc (.cells #[.int .i64 sd', .slice A' n' ca', .slice B' m' cb', .slice V' p' cv'] 27)) := ⟨_, rfl⟩
    have hx0 : Ext w w0 := by subst hw0; exact ((Ext.refl _).alloc _).alloc _
    have ba : Blk w0 (w.heap.size) #[.int .i64 sd, .slice A n ca, .slice B m cb, .slice V p cv] 27 := by subst hw0; exact (Blk.new w _ _).ext ((Ext.refl _).alloc _)
    have bb : Blk w0 (w.heap.size + 1) #[.int .i64 sd', .slice A' n' ca', .slice B' m' cb', .slice V' p' cv'] 27 := by subst hw0; simpa using (Blk.new (w.alloc (.cells #[.int .i64 sd, .slice A n ca, .slice B m cb, .slice V p cv] 27)) _ _)
    rw [← hw0]
    clear hw0
    have a0 := ba.cell 0 rfl
    have b0 := bb.cell 0 rfl
    have a1 := ba.cell 1 rfl
    have b1 := bb.cell 1 rfl
    go_wp2_with fail
    refine (slicesEqual_any A A' n n' ca ca' st st' _ (hr.below hx0) (hr'.below hx0)).mono ?_
    rintro e w1 ⟨rfl, hx⟩
    replace ba := ba.ext hx
    replace bb := bb.ext hx
    replace hx0 := hx0.trans hx
    clear hx a0 b0 a1 b1
    rw [d2]
    go_wp2_with fail
    go_ret
    exact ⟨ret_bool (by rw [Hres.out, decide_eq_false E2.out]; simp), hx0⟩
  have d2 := decide_eq_true h2
  have E2 := Lib.hid h2
  clear h2
  by_cases h3 : co = co'
  rotate_left
  · have d3 := decide_eq_false h3
    have E3 := Lib.hid h3
    clear h3
    go_enter Try.func33, Try.ntmps33
    go_upto_region 1 with (fail)
    obtain ⟨w0, hw0⟩ : ∃ w0, w0 = ((w.alloc (.cells #[.int .i64 sd, .slice A n ca, .slice B m cb, .slice V p cv] 27)).alloc (.cells #[.int .i64 sd', .slice A' n' ca', .slice B' m' cb', .slice V' p' cv'] 27)) := ⟨_, rfl⟩
    have hx0 : Ext w w0 := by subst hw0; exact ((Ext.refl _).alloc _).alloc _
    have ba : Blk w0 (w.heap.size) #[.int .i64 sd, .slice A n ca, .slice B m cb, .slice V p cv] 27 := by subst hw0; exact (Blk.new w _ _).ext ((Ext.refl _).alloc _)
    have bb : Blk w0 (w.heap.size + 1) #[.int .i64 sd', .slice A' n' ca', .slice B' m' cb', .slice V' p' cv'] 27 := by subst hw0; simpa using (Blk.new (w.alloc (.cells #[.int .i64 sd, .slice A n ca, .slice B m cb, .slice V p cv] 27)) _ _)
    rw [← hw0]
    clear hw0
    have a0 := ba.cell 0 rfl
    have b0 := bb.cell 0 rfl
    have a1 := ba.cell 1 rfl
    have b1 := bb.cell 1 rfl
    go_wp2_with fail
    refine (slicesEqual_any A A' n n' ca ca' st st' _ (hr.below hx0) (hr'.below hx0)).mono ?_
    rintro e w1 ⟨rfl, hx⟩
    replace ba := ba.ext hx
    replace bb := bb.ext hx
    replace hx0 := hx0.trans hx
    clear hx a0 b0 a1 b1
    rw [d2]
    have a2 := ba.cell 2 rfl
    have b2 := bb.cell 2 rfl
    go_wp2_with fail
    refine (slicesEqual_any B B' m m' cb cb' co co' _ (hq.below hx0) (hq'.below hx0)).mono ?_
    rintro e w2 ⟨rfl, hx⟩
    replace ba := ba.ext hx
    replace bb := bb.ext hx
    replace hx0 := hx0.trans hx
    clear hx a2 b2
    rw [d3]
    go_wp2_with fail
    go_ret
    exact ⟨ret_bool (by rw [Hres.out, decide_eq_false E3.out]; simp), hx0⟩
  have d3 := decide_eq_true h3
  have E3 := Lib.hid h3
  clear h3
  by_cases h4 : cfs va = cfs va'
  all_goals
    have d4 := h4
    first | replace d4 := decide_eq_false d4 | replace d4 := decide_eq_true d4
    have E4 := Lib.hid h4
    clear h4
    go_enter Try.func33, Try.ntmps33
    go_upto_region 1 with (fail)
    obtain ⟨w0, hw0⟩ : ∃ w0, w0 = ((w.alloc (.cells #[.int .i64 sd, .slice A n ca, .slice B m cb, .slice V p cv] 27)).alloc (.cells #[.int .i64 sd', .slice A' n' ca', .slice B' m' cb', .slice V' p' cv'] 27)) := ⟨_, rfl⟩
    have hx0 : Ext w w0 := by subst hw0; exact ((Ext.refl _).alloc _).alloc _
    have ba : Blk w0 (w.heap.size) #[.int .i64 sd, .slice A n ca, .slice B m cb, .slice V p cv] 27 := by subst hw0; exact (Blk.new w _ _).ext ((Ext.refl _).alloc _)
    have bb : Blk w0 (w.heap.size + 1) #[.int .i64 sd', .slice A' n' ca', .slice B' m' cb', .slice V' p' cv'] 27 := by subst hw0; simpa using (Blk.new (w.alloc (.cells #[.int .i64 sd, .slice A n ca, .slice B m cb, .slice V p cv] 27)) _ _)
    rw [← hw0]
    clear hw0
    have a0 := ba.cell 0 rfl
    have b0 := bb.cell 0 rfl
    have a1 := ba.cell 1 rfl
    have b1 := bb.cell 1 rfl
    go_wp2_with fail
    refine (slicesEqual_any A A' n n' ca ca' st st' _ (hr.below hx0) (hr'.below hx0)).mono ?_
    rintro e w1 ⟨rfl, hx⟩
    replace ba := ba.ext hx
    replace bb := bb.ext hx
    replace hx0 := hx0.trans hx
    clear hx a0 b0 a1 b1
    rw [d2]
    have a2 := ba.cell 2 rfl
    have b2 := bb.cell 2 rfl
    go_wp2_with fail
    refine (slicesEqual_any B B' m m' cb cb' co co' _ (hq.below hx0) (hq'.below hx0)).mono ?_
    rintro e w2 ⟨rfl, hx⟩
    replace ba := ba.ext hx
    replace bb := bb.ext hx
    replace hx0 := hx0.trans hx
    clear hx a2 b2
    rw [d3]
    have a3 := ba.cell 3 rfl
    have b3 := bb.cell 3 rfl
    go_wp2_with fail
    refine (sameNumbers_any V V' p p' cv cv' va va' _ HW.out HW'.out (hv.below hx0) (hv'.below hx0)).mono ?_
    rintro e w3 ⟨rfl, hx⟩
    rw [d4]
    go_wp2_with fail
    go_ret
    refine ⟨ret_bool ?_, hx0.trans hx⟩
    rw [Hres.out, decide_eq_true E1.out, decide_eq_true E2.out, decide_eq_true E3.out]
    first | (rw [decide_eq_false E4.out]; rfl) | (rw [decide_eq_true E4.out]; rfl)

set_option maxRecDepth 20000 in
set_option maxHeartbeats 4000000 in
theorem specSameSparse_any (sd : Int) (A : Option Addr) (n ca : Nat) (B : Option Addr) (m cb : Nat) (V : Option Addr) (p cv : Nat) (sd' : Int) (A' : Option Addr) (n' ca' : Nat) (B' : Option Addr) (m' cb' : Nat) (V' : Option Addr) (p' cv' : Nat) (st co : List Int) (va : List Nat) (st' co' : List Int) (va' : List Nat) (w : World) (hwf : ∀ x ∈ va, x < 4294967296) (hwf' : ∀ x ∈ va', x < 4294967296) (hr : Rds w A n (ints st)) (hq : Rds w B m (ints co)) (hv : Rds w V p (flts va)) (hr' : Rds w A' n' (ints st')) (hq' : Rds w B' m' (ints co')) (hv' : Rds w V' p' (flts va')) :
    Calls Try.prog 32 #[.agg #[.int .i64 sd, .slice A n ca, .slice B m cb, .slice V p cv], .agg #[.int .i64 sd', .slice A' n' ca', .slice B' m' cb', .slice V' p' cv']] w fun e w' => e = .returned (.bool (sameSp sd sd' st co va st' co' va')) ∧ Ext w w' := by
  obtain ⟨res, hres⟩ : ∃ res, res = sameSp sd sd' st co va st' co' va' := ⟨_, rfl⟩
  rw [← hres]
  unfold sameSp at hres
  have Hres := Lib.hid hres
  clear hres
  have HW := Lib.hid hwf
  have HW' := Lib.hid hwf'
  clear hwf hwf'
  by_cases h1 : sd = sd'
  rotate_left
  · have d1 : (sd == sd') = false := by simpa using h1
    have E1 := Lib.hid h1
    clear h1
    go_enter Try.func32, Try.ntmps32
    go_upto_region 1 with (fail)
    obtain ⟨w0, hw0⟩ : ∃ w0, w0 = ((w.alloc (.cells #[.int .i64 sd, .slice A n ca, .slice B m cb, .slice V p cv] 27)).alloc (.cells #[.int .i64 sd', .slice A' n' ca', .slice B' m' cb', .slice V' p' cv'] 27)) := ⟨_, rfl⟩
    have hx0 : Ext w w0 := by subst hw0; exact ((Ext.refl _).alloc _).alloc _
    have ba : Blk w0 (w.heap.size) #[.int .i64 sd, .slice A n ca, .slice B m cb, .slice V p cv] 27 := by subst hw0; exact (Blk.new w _ _).ext ((Ext.refl _).alloc _)
    have bb : Blk w0 (w.heap.size + 1) #[.int .i64 sd', .slice A' n' ca', .slice B' m' cb', .slice V' p' cv'] 27 := by subst hw0; simpa using (Blk.new (w.alloc (.cells #[.int .i64 sd, .slice A n ca, .slice B m cb, .slice V p cv] 27)) _ _)
    rw [← hw0]
    clear hw0
    have a0 := ba.cell 0 rfl
    have b0 := bb.cell 0 rfl
    go_wp2_with fail
    go_ret
    exact ⟨ret_bool (by rw [Hres.out, decide_eq_false E1.out]; simp), hx0⟩
  have d1 : (sd == sd') = true := by simpa using h1
  have E1 := Lib.hid h1
  clear h1
  by_cases h2 : st = st'
  rotate_left
  · have d2 := decide_eq_false h2
    have E2 := Lib.hid h2
    clear h2
    go_enter Try.func32, Try.ntmps32
    go_upto_region 1 with (fail)
    obtain ⟨w0, hw0⟩ : ∃ w0, w0 = ((w.alloc (.cells #[.int .i64 sd, .slice A n ca, .slice B m cb, .slice V p cv] 27)).alloc (.cells #[.int .i64 sd', .slice A' n' ca', .slice B' m' cb', .slice V' p' cv'] 27)) := ⟨_, rfl⟩
    have hx0 : Ext w w0 := by subst hw0; exact ((Ext.refl _).alloc _).alloc _
    have ba : Blk w0 (w.heap.size) #[.int .i64 sd, .slice A n ca, .slice B m cb, .slice V p cv] 27 := by subst hw0; exact (Blk.new w _ _).ext ((Ext.refl _).alloc _)
    have bb : Blk w0 (w.heap.size + 1) #[.int .i64 sd', .slice A' n' ca', .slice B' m' cb', .slice V' p' cv'] 27 := by subst hw0; simpa using (Blk.new (w.alloc (.cells #[.int .i64 sd, .slice A n ca, .slice B m cb, .slice V p cv] 27)) _ _)
    rw [← hw0]
    clear hw0
    have a0 := ba.cell 0 rfl
    have b0 := bb.cell 0 rfl
    have a1 := ba.cell 1 rfl
    have b1 := bb.cell 1 rfl
    go_wp2_with fail
    refine (l00Same_any A A' n n' ca ca' st st' _ (hr.below hx0) (hr'.below hx0)).mono ?_
    rintro e w1 ⟨rfl, hx⟩
    replace ba := ba.ext hx
    replace bb := bb.ext hx
    replace hx0 := hx0.trans hx
    clear hx a0 b0 a1 b1
    rw [d2]
    go_wp2_with fail
    go_ret
    exact ⟨ret_bool (by rw [Hres.out, decide_eq_false E2.out]; simp), hx0⟩
  have d2 := decide_eq_true h2
  have E2 := Lib.hid h2
  clear h2
  by_cases h3 : co = co'
  rotate_left
  · have d3 := decide_eq_false h3
    have E3 := Lib.hid h3
    clear h3
    go_enter Try.func32, Try.ntmps32
    go_upto_region 1 with (fail)
    obtain ⟨w0, hw0⟩ : ∃ w0, w0 = ((w.alloc (.cells #[.int .i64 sd, .slice A n ca, .slice B m cb, .slice V p cv] 27)).alloc (.cells #[.int .i64 sd', .slice A' n' ca', .slice B' m' cb', .slice V' p' cv'] 27)) := ⟨_, rfl⟩
    have hx0 : Ext w w0 := by subst hw0; exact ((Ext.refl _).alloc _).alloc _
    have ba : Blk w0 (w.heap.size) #[.int .i64 sd, .slice A n ca, .slice B m cb, .slice V p cv] 27 := by subst hw0; exact (Blk.new w _ _).ext ((Ext.refl _).alloc _)
    have bb : Blk w0 (w.heap.size + 1) #[.int .i64 sd', .slice A' n' ca', .slice B' m' cb', .slice V' p' cv'] 27 := by subst hw0; simpa using (Blk.new (w.alloc (.cells #[.int .i64 sd, .slice A n ca, .slice B m cb, .slice V p cv] 27)) _ _)
    rw [← hw0]
    clear hw0
    have a0 := ba.cell 0 rfl
    have b0 := bb.cell 0 rfl
    have a1 := ba.cell 1 rfl
    have b1 := bb.cell 1 rfl
    go_wp2_with fail
    refine (l00Same_any A A' n n' ca ca' st st' _ (hr.below hx0) (hr'.below hx0)).mono ?_
    rintro e w1 ⟨rfl, hx⟩
    replace ba := ba.ext hx
    replace bb := bb.ext hx
    replace hx0 := hx0.trans hx
    clear hx a0 b0 a1 b1
    rw [d2]
    have a2 := ba.cell 2 rfl
    have b2 := bb.cell 2 rfl
    go_wp2_with fail
    refine (l00Same_any B B' m m' cb cb' co co' _ (hq.below hx0) (hq'.below hx0)).mono ?_
    rintro e w2 ⟨rfl, hx⟩
    replace ba := ba.ext hx
    replace bb := bb.ext hx
    replace hx0 := hx0.trans hx
    clear hx a2 b2
    rw [d3]
    go_wp2_with fail
    go_ret
    exact ⟨ret_bool (by rw [Hres.out, decide_eq_false E3.out]; simp), hx0⟩
  have d3 := decide_eq_true h3
  have E3 := Lib.hid h3
  clear h3
  by_cases h4 : cfs va = cfs va'
  all_goals
    have d4 := h4
    first | replace d4 := decide_eq_false d4 | replace d4 := decide_eq_true d4
    have E4 := Lib.hid h4
    clear h4
    go_enter Try.func32, Try.ntmps32
    go_upto_region 1 with (fail)
    obtain ⟨w0, hw0⟩ : ∃ w0, w0 = ((w.alloc (.cells #[.int .i64 sd, .slice A n ca, .slice B m cb, .slice V p cv] 27)).alloc (.cells #[.int .i64 sd', .slice A' n' ca', .slice B' m' cb', .slice V' p' cv'] 27)) := ⟨_, rfl⟩
    have hx0 : Ext w w0 := by subst hw0; exact ((Ext.refl _).alloc _).alloc _
    have ba : Blk w0 (w.heap.size) #[.int .i64 sd, .slice A n ca, .slice B m cb, .slice V p cv] 27 := by subst hw0; exact (Blk.new w _ _).ext ((Ext.refl _).alloc _)
    have bb : Blk w0 (w.heap.size + 1) #[.int .i64 sd', .slice A' n' ca', .slice B' m' cb', .slice V' p' cv'] 27 := by subst hw0; simpa using (Blk.new (w.alloc (.cells #[.int .i64 sd, .slice A n ca, .slice B m cb, .slice V p cv] 27)) _ _)
    rw [← hw0]
    clear hw0
    have a0 := ba.cell 0 rfl
    have b0 := bb.cell 0 rfl
    have a1 := ba.cell 1 rfl
    have b1 := bb.cell 1 rfl
    go_wp2_with fail
    refine (l00Same_any A A' n n' ca ca' st st' _ (hr.below hx0) (hr'.below hx0)).mono ?_
    rintro e w1 ⟨rfl, hx⟩
    replace ba := ba.ext hx
    replace bb := bb.ext hx
    replace hx0 := hx0.trans hx
    clear hx a0 b0 a1 b1
    rw [d2]
    have a2 := ba.cell 2 rfl
    have b2 := bb.cell 2 rfl
    go_wp2_with fail
    refine (l00Same_any B B' m m' cb cb' co co' _ (hq.below hx0) (hq'.below hx0)).mono ?_
    rintro e w2 ⟨rfl, hx⟩
    replace ba := ba.ext hx
    replace bb := bb.ext hx
    replace hx0 := hx0.trans hx
    clear hx a2 b2
    rw [d3]
    have a3 := ba.cell 3 rfl
    have b3 := bb.cell 3 rfl
    go_wp2_with fail
    refine (l01SameAll_any V V' p p' cv cv' va va' _ HW.out HW'.out (hv.below hx0) (hv'.below hx0)).mono ?_
    rintro e w3 ⟨rfl, hx⟩
    rw [d4]
    go_wp2_with fail
    go_ret
    refine ⟨ret_bool ?_, hx0.trans hx⟩
    rw [Hres.out, decide_eq_true E1.out, decide_eq_true E2.out, decide_eq_true E3.out]
    first | (rw [decide_eq_false E4.out]; rfl) | (rw [decide_eq_true E4.out]; rfl)

end Go.Proofs.Ytkifpligpobiaaa
