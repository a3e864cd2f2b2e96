import Derived.Test.YtcfimkjkolgboaaB3
set_option linter.unusedVariables false
set_option linter.unusedSimpArgs false
namespace Go.Proofs.Ytcfimkjkolgboaa
open Go.RowKit

set_option maxHeartbeats 1000000 in
theorem slicesEqual_any (A B : Option Addr) (n m cap cap' : Nat) (xs ys : List Int) (w : World) (hr : Rds w A n (ints xs)) (hq : Rds w B m (ints ys)) :
    Calls Try.prog 70 #[.slice A n cap, .slice B m cap'] w fun e w' => e = .returned (.bool (decide (xs = ys))) ∧ Ext w w' := by
  have hl := hr.ilen
  have hl' := hq.ilen
  have hs := hr.small
  have hs' := hq.small
  by_cases hnm : n = m
  · subst hnm
    go_enter Try.func70, Try.ntmps70
    go_wp2_with fail
    go_loopw [13] (fun i wr => ∃ k : Nat, k ≤ n ∧ i = .int .i64 k ∧ Hid (∀ j, j < k → rd xs j = rd ys j) ∧ Ext w wr) (fun i _ => n - (intOf i).toNat)
    case atStart => exact ⟨0, Nat.zero_le _, rfl, fun j hj => by omega, Ext.refl _⟩
    case round =>
      obtain ⟨k, hk, rfl, hsame, hx⟩ := hrel
      by_cases hlt : k < n
      · obtain ⟨ad, rfl, hc⟩ := (hr.below hx).intN k hlt
        obtain ⟨ad', rfl, hc'⟩ := (hq.below hx).intN k hlt
        by_cases he : rd xs k = rd ys k
        · have he' : (rd xs k != rd ys k) = false := by simp [he]
          have HE := Lib.hid he
          clear he
          go_wp2_with fail
          refine wp_region_T [0, 1, 2, 3, 4, 5, 6, 7, 8] [] [] [] (fun _ _ => False) (fun _ _ _ => True) (by kernel_rfl) (by kernel_rfl) (fun _ _ _ _ _ _ => trivial) ?_
          refine' wpT_det (o := ⟨some 16, Op.move (Operand.tmp 0), 26, "slices.go:25", #[], none⟩) rfl (by rfl) (by rfl) (fun w' hw' => ?_) ?_; rotate_left
          · go_simp <;> first | rfl | exact ⟨rfl, rfl⟩
          simp only [Act.put, List.setIfInBounds_toArray, List.set_cons_zero, List.set_cons_succ]
          refine' wpT_det (o := ⟨some 17, Op.move (Operand.tmp 5), 3, "slices.go:25", #[], none⟩) rfl (by rfl) (by rfl) (fun w' hw' => ?_) ?_; rotate_left
          · go_simp <;> first | rfl | exact ⟨rfl, rfl⟩
          simp only [Act.put, List.setIfInBounds_toArray, List.set_cons_zero, List.set_cons_succ]
          refine' wpT_det (o := ⟨some 18, Op.indexAddr 26 (Operand.tmp 16) (Operand.tmp 17), 0, "slices.go:25", #[{ on := 0, ground := Ground.data }, { on := 1, ground := Ground.data }], none⟩) rfl (by rfl) (by rfl) (fun w' hw' => ?_) ?_; rotate_left
          · go_simp <;> first | rfl | exact ⟨rfl, rfl⟩
          simp only [Act.put, List.setIfInBounds_toArray, List.set_cons_zero, List.set_cons_succ]
          refine' wpT_det (o := ⟨some 19, Op.load 2 (Operand.tmp 18), 2, "slices.go:25", #[{ on := 2, ground := Ground.data }], none⟩) rfl (by rfl) (by rfl) (fun w' hw' => ?_) ?_; rotate_left
          · have hc_ := Ext.cell hw' hc; have hc'_ := Ext.cell hw' hc'; go_simp <;> first | rfl | exact ⟨rfl, rfl⟩
          simp only [Act.put, List.setIfInBounds_toArray, List.set_cons_zero, List.set_cons_succ]
          refine' wpT_det (o := ⟨some 20, Op.move (Operand.tmp 1), 26, "slices.go:25", #[], none⟩) rfl (by rfl) (by rfl) (fun w' hw' => ?_) ?_; rotate_left
          · go_simp <;> first | rfl | exact ⟨rfl, rfl⟩
          simp only [Act.put, List.setIfInBounds_toArray, List.set_cons_zero, List.set_cons_succ]
          refine' wpT_det (o := ⟨some 21, Op.move (Operand.tmp 5), 3, "slices.go:25", #[], none⟩) rfl (by rfl) (by rfl) (fun w' hw' => ?_) ?_; rotate_left
          · go_simp <;> first | rfl | exact ⟨rfl, rfl⟩
          simp only [Act.put, List.setIfInBounds_toArray, List.set_cons_zero, List.set_cons_succ]
          refine' wpT_det (o := ⟨some 22, Op.indexAddr 26 (Operand.tmp 20) (Operand.tmp 21), 0, "slices.go:25", #[{ on := 4, ground := Ground.data }, { on := 5, ground := Ground.data }], none⟩) rfl (by rfl) (by rfl) (fun w' hw' => ?_) ?_; rotate_left
          · go_simp <;> first | rfl | exact ⟨rfl, rfl⟩
          simp only [Act.put, List.setIfInBounds_toArray, List.set_cons_zero, List.set_cons_succ]
          refine' wpT_det (o := ⟨some 23, Op.load 2 (Operand.tmp 22), 2, "slices.go:25", #[{ on := 6, ground := Ground.data }], none⟩) rfl (by rfl) (by rfl) (fun w' hw' => ?_) ?_; rotate_left
          · have hc_ := Ext.cell hw' hc; have hc'_ := Ext.cell hw' hc'; go_simp <;> first | rfl | exact ⟨rfl, rfl⟩
          simp only [Act.put, List.setIfInBounds_toArray, List.set_cons_zero, List.set_cons_succ]
          refine' wpT_det (o := ⟨some 24, Op.binOp BinOp.neq 2 (Operand.tmp 19) (Operand.tmp 23) 2, 4, "slices.go:25", #[{ on := 3, ground := Ground.data }, { on := 7, ground := Ground.data }], none⟩) rfl (by rfl) (by rfl) (fun w' hw' => ?_) ?_; rotate_left
          · go_simp <;> first | rfl | exact ⟨rfl, rfl⟩
          simp only [Act.put, List.setIfInBounds_toArray, List.set_cons_zero, List.set_cons_succ]
          refine wpT_nil (fun w' hw' hF => ?_)
          refine wpList_nil ?_
          go_wp2_with fail
          go_roundw
          case rel => exact ⟨k + 1, by omega, by go_num, fun j hj => if e : j = k then (by subst e; exact HE.out) else hsame.out j (by omega), hx.trans hw'.undrew⟩
          case measure => simp [intOf]; omega
        · have he' : (rd xs k != rd ys k) = true := by simp [he]
          go_wp2_with fail
          refine wp_region_T [0, 1, 2, 3, 4, 5, 6, 7, 8] [] [] [] (fun _ _ => False) (fun _ _ _ => True) (by kernel_rfl) (by kernel_rfl) (fun _ _ _ _ _ _ => trivial) ?_
          refine' wpT_det (o := ⟨some 16, Op.move (Operand.tmp 0), 26, "slices.go:25", #[], none⟩) rfl (by rfl) (by rfl) (fun w' hw' => ?_) ?_; rotate_left
          · go_simp <;> first | rfl | exact ⟨rfl, rfl⟩
          simp only [Act.put, List.setIfInBounds_toArray, List.set_cons_zero, List.set_cons_succ]
          refine' wpT_det (o := ⟨some 17, Op.move (Operand.tmp 5), 3, "slices.go:25", #[], none⟩) rfl (by rfl) (by rfl) (fun w' hw' => ?_) ?_; rotate_left
          · go_simp <;> first | rfl | exact ⟨rfl, rfl⟩
          simp only [Act.put, List.setIfInBounds_toArray, List.set_cons_zero, List.set_cons_succ]
          refine' wpT_det (o := ⟨some 18, Op.indexAddr 26 (Operand.tmp 16) (Operand.tmp 17), 0, "slices.go:25", #[{ on := 0, ground := Ground.data }, { on := 1, ground := Ground.data }], none⟩) rfl (by rfl) (by rfl) (fun w' hw' => ?_) ?_; rotate_left
          · go_simp <;> first | rfl | exact ⟨rfl, rfl⟩
          simp only [Act.put, List.setIfInBounds_toArray, List.set_cons_zero, List.set_cons_succ]
          refine' wpT_det (o := ⟨some 19, Op.load 2 (Operand.tmp 18), 2, "slices.go:25", #[{ on := 2, ground := Ground.data }], none⟩) rfl (by rfl) (by rfl) (fun w' hw' => ?_) ?_; rotate_left
          · have hc_ := Ext.cell hw' hc; have hc'_ := Ext.cell hw' hc'; go_simp <;> first | rfl | exact ⟨rfl, rfl⟩
          simp only [Act.put, List.setIfInBounds_toArray, List.set_cons_zero, List.set_cons_succ]
          refine' wpT_det (o := ⟨some 20, Op.move (Operand.tmp 1), 26, "slices.go:25", #[], none⟩) rfl (by rfl) (by rfl) (fun w' hw' => ?_) ?_; rotate_left
          · go_simp <;> first | rfl | exact ⟨rfl, rfl⟩
          simp only [Act.put, List.setIfInBounds_toArray, List.set_cons_zero, List.set_cons_succ]
          refine' wpT_det (o := ⟨some 21, Op.move (Operand.tmp 5), 3, "slices.go:25", #[], none⟩) rfl (by rfl) (by rfl) (fun w' hw' => ?_) ?_; rotate_left
          · go_simp <;> first | rfl | exact ⟨rfl, rfl⟩
          simp only [Act.put, List.setIfInBounds_toArray, List.set_cons_zero, List.set_cons_succ]
          refine' wpT_det (o := ⟨some 22, Op.indexAddr 26 (Operand.tmp 20) (Operand.tmp 21), 0, "slices.go:25", #[{ on := 4, ground := Ground.data }, { on := 5, ground := Ground.data }], none⟩) rfl (by rfl) (by rfl) (fun w' hw' => ?_) ?_; rotate_left
          · go_simp <;> first | rfl | exact ⟨rfl, rfl⟩
          simp only [Act.put, List.setIfInBounds_toArray, List.set_cons_zero, List.set_cons_succ]
          refine' wpT_det (o := ⟨some 23, Op.load 2 (Operand.tmp 22), 2, "slices.go:25", #[{ on := 6, ground := Ground.data }], none⟩) rfl (by rfl) (by rfl) (fun w' hw' => ?_) ?_; rotate_left
          · have hc_ := Ext.cell hw' hc; have hc'_ := Ext.cell hw' hc'; go_simp <;> first | rfl | exact ⟨rfl, rfl⟩
          simp only [Act.put, List.setIfInBounds_toArray, List.set_cons_zero, List.set_cons_succ]
          refine' wpT_det (o := ⟨some 24, Op.binOp BinOp.neq 2 (Operand.tmp 19) (Operand.tmp 23) 2, 4, "slices.go:25", #[{ on := 3, ground := Ground.data }, { on := 7, ground := Ground.data }], none⟩) rfl (by rfl) (by rfl) (fun w' hw' => ?_) ?_; rotate_left
          · go_simp <;> first | rfl | exact ⟨rfl, rfl⟩
          simp only [Act.put, List.setIfInBounds_toArray, List.set_cons_zero, List.set_cons_succ]
          refine wpT_nil (fun w' hw' hF => ?_)
          refine wpList_nil ?_
          go_wp2_with fail
          go_ret
          exact ⟨ret_bool (by rw [decide_eq_false]; intro e; exact he (by rw [e])), hx.trans hw'.undrew⟩
      · go_wp2_with fail
        go_ret
        refine ⟨ret_bool (Eq.symm (decide_eq_true ?_)), hx⟩
        apply List.ext_getElem (by omega)
        intro j h1 h2
        have := hsame.out j (by omega)
        rwa [rd_get h1, rd_get h2] at this
  · have hd : ((n : Int) != (m : Int)) = true := by simp; omega
    go_enter Try.func70, Try.ntmps70
    go_wp2_with fail
    go_ret
    exact ⟨ret_bool (by rw [decide_eq_false]; intro e; exact hnm (by rw [← hl, ← hl', e])), Ext.refl _⟩

set_option maxHeartbeats 2000000 in
theorem implSameWhole_any (r c : Int) (A : Option Addr) (n cap : Nat) (r' c' : Int) (B : Option Addr) (m cap' : Nat) (xs ys : List Int) (w : World) (hr : Rds w A n (ints xs)) (hq : Rds w B m (ints ys)) :
    Calls Try.prog 27 #[.agg #[.int .i64 r, .int .i64 c, .slice A n cap], .agg #[.int .i64 r', .int .i64 c', .slice B m cap']] w fun e w' => e = .returned (.bool (eqWB r c r' c' xs ys)) ∧ Ext w w' := by
  obtain ⟨res, hres⟩ : ∃ res, res = eqWB r c r' c' xs ys := ⟨_, rfl⟩
  rw [← hres]
  unfold eqWB at hres
  have Hres := Lib.hid hres
  clear hres
  have hx0 : Ext w ((w.alloc (.cells #[.int .i64 r, .int .i64 c, .slice A n cap] 31)).alloc (.cells #[.int .i64 r', .int .i64 c', .slice B m cap'] 31)) := ((Ext.refl _).alloc _).alloc _
  by_cases h1 : r = r'
  · have d1 : (r == r') = true := by simp [h1]
    have E1 := Lib.hid h1
    clear h1
    by_cases h2 : c = c'
    · have d2 : (c == c') = true := by simp [h2]
      have E2 := Lib.hid h2
      clear h2
      go_enter Try.func27, Try.ntmps27
      go_wp2_with fail
      refine (slicesEqual_any A B n m cap cap' xs ys _ (hr.below hx0) (hq.below hx0)).mono ?_
      rintro e w1 ⟨rfl, hx⟩
      go_wp2_with fail
      go_ret
      exact ⟨ret_bool (by rw [Hres.out, decide_eq_true E1.out, decide_eq_true E2.out]; rfl), hx0.trans hx⟩
    · have d2 : (c == c') = false := by simp [h2]
      go_enter Try.func27, Try.ntmps27
      go_wp2_with fail
      go_ret
      exact ⟨ret_bool (by rw [Hres.out, decide_eq_false h2]; simp), hx0⟩
  · have d1 : (r == r') = false := by simp [h1]
    go_enter Try.func27, Try.ntmps27
    go_wp2_with fail
    go_ret
    exact ⟨ret_bool (by rw [Hres.out, decide_eq_false h1]; simp), hx0⟩

set_option maxHeartbeats 2000000 in
theorem l06Same_any (b b' : Nat) (r c : Int) (A : Option Addr) (n cap : Nat) (r' c' : Int) (B : Option Addr) (m cap' : Nat) (xs ys : List Int) (w : World)
    (h0 : w.cell? ⟨b, 0, none⟩ = some (.int .i64 r)) (h1 : w.cell? ⟨b, 1, none⟩ = some (.int .i64 c)) (h2 : w.cell? ⟨b, 2, none⟩ = some (.slice A n cap))
    (g0 : w.cell? ⟨b', 0, none⟩ = some (.int .i64 r')) (g1 : w.cell? ⟨b', 1, none⟩ = some (.int .i64 c')) (g2 : w.cell? ⟨b', 2, none⟩ = some (.slice B m cap'))
    (hr : Rds w A n (ints xs)) (hq : Rds w B m (ints ys)) :
    Calls Try.prog 69 #[.pointer (some ⟨b, 0, none⟩), .pointer (some ⟨b', 0, none⟩)] w fun e w' => e = .returned (.bool (eqWB r c r' c' xs ys)) ∧ Ext w w' := by
  have hs := hr.small
  have hs' := hq.small
  have hl := hr.ilen
  have hl' := hq.ilen
  obtain ⟨res, hres⟩ : ∃ res, res = eqWB r c r' c' xs ys := ⟨_, rfl⟩
  rw [← hres]
  unfold eqWB at hres
  have Hres := Lib.hid hres
  have HL := Lib.hid hl
  have HL' := Lib.hid hl'
  clear hres hl hl'
  by_cases e1 : r = r'
  · have d1 : (r != r') = false := by simp [e1]
    have E1 := Lib.hid e1
    clear e1
    by_cases e2 : c = c'
    · have d2 : (c != c') = false := by simp [e2]
      have E2 := Lib.hid e2
      clear e2
      by_cases e3 : n = m
      · subst e3
        have d3 : ((n : Int) != (n : Int)) = false := by simp
        go_enter Try.func69, Try.ntmps69
        go_wp2_with fail
        refine wp_region_T [0, 1, 2, 3, 4, 5, 6, 7, 8, 9, 10, 11, 12, 13, 14, 15, 16, 17, 18, 19, 20, 21, 22, 23, 24, 25, 26, 27, 28, 29, 30, 31, 32] [] [] [] (fun _ _ => False) (fun _ _ _ => True) (by kernel_rfl) (by kernel_rfl) (fun _ _ _ _ _ _ => trivial) ?_
        refine' wpT_det (o := ⟨some 6, Op.move (Operand.tmp 0), 62, "l06_integers.go:28", #[], none⟩) rfl (by rfl) (by rfl) (fun w' hw' => ?_) ?_; rotate_left
        · go_simp <;> first | rfl | exact ⟨rfl, rfl⟩
        simp only [Act.put, List.setIfInBounds_toArray, List.set_cons_zero, List.set_cons_succ]
        refine' wpT_det (o := ⟨some 7, Op.nilCheck (Operand.tmp 6), 0, "l06_integers.go:28", #[{ on := 0, ground := Ground.data }], none⟩) rfl (by rfl) (by rfl) (fun w' hw' => ?_) ?_; rotate_left
        · go_simp <;> first | rfl | exact ⟨rfl, rfl⟩
        simp only [Act.put, List.setIfInBounds_toArray, List.set_cons_zero, List.set_cons_succ]
        refine' wpT_det (o := ⟨some 8, Op.fieldAddr 31 (Operand.tmp 7) 0, 0, "l06_integers.go:28", #[{ on := 1, ground := Ground.data }], none⟩) rfl (by rfl) (by rfl) (fun w' hw' => ?_) ?_; rotate_left
        · go_simp <;> first | rfl | exact ⟨rfl, rfl⟩
        simp only [Act.put, List.setIfInBounds_toArray, List.set_cons_zero, List.set_cons_succ]
        refine' wpT_det (o := ⟨some 9, Op.load 2 (Operand.tmp 8), 2, "l06_integers.go:28", #[{ on := 2, ground := Ground.data }], none⟩) rfl (by rfl) (by rfl) (fun w' hw' => ?_) ?_; rotate_left
        · have h0_ := Ext.cell hw' h0; have h1_ := Ext.cell hw' h1; have h2_ := Ext.cell hw' h2; have g0_ := Ext.cell hw' g0; have g1_ := Ext.cell hw' g1; have g2_ := Ext.cell hw' g2; go_simp <;> first | rfl | exact ⟨rfl, rfl⟩
        simp only [Act.put, List.setIfInBounds_toArray, List.set_cons_zero, List.set_cons_succ]
        refine' wpT_det (o := ⟨some 10, Op.move (Operand.tmp 1), 62, "l06_integers.go:28", #[], none⟩) rfl (by rfl) (by rfl) (fun w' hw' => ?_) ?_; rotate_left
        · go_simp <;> first | rfl | exact ⟨rfl, rfl⟩
        simp only [Act.put, List.setIfInBounds_toArray, List.set_cons_zero, List.set_cons_succ]
        refine' wpT_det (o := ⟨some 11, Op.nilCheck (Operand.tmp 10), 0, "l06_integers.go:28", #[{ on := 4, ground := Ground.data }], none⟩) rfl (by rfl) (by rfl) (fun w' hw' => ?_) ?_; rotate_left
        · go_simp <;> first | rfl | exact ⟨rfl, rfl⟩
        simp only [Act.put, List.setIfInBounds_toArray, List.set_cons_zero, List.set_cons_succ]
        refine' wpT_det (o := ⟨some 12, Op.fieldAddr 31 (Operand.tmp 11) 0, 0, "l06_integers.go:28", #[{ on := 5, ground := Ground.data }], none⟩) rfl (by rfl) (by rfl) (fun w' hw' => ?_) ?_; rotate_left
        · go_simp <;> first | rfl | exact ⟨rfl, rfl⟩
        simp only [Act.put, List.setIfInBounds_toArray, List.set_cons_zero, List.set_cons_succ]
        refine' wpT_det (o := ⟨some 13, Op.load 2 (Operand.tmp 12), 2, "l06_integers.go:28", #[{ on := 6, ground := Ground.data }], none⟩) rfl (by rfl) (by rfl) (fun w' hw' => ?_) ?_; rotate_left
        · have h0_ := Ext.cell hw' h0; have h1_ := Ext.cell hw' h1; have h2_ := Ext.cell hw' h2; have g0_ := Ext.cell hw' g0; have g1_ := Ext.cell hw' g1; have g2_ := Ext.cell hw' g2; go_simp <;> first | rfl | exact ⟨rfl, rfl⟩
        simp only [Act.put, List.setIfInBounds_toArray, List.set_cons_zero, List.set_cons_succ]
        refine' wpT_det (o := ⟨some 14, Op.binOp BinOp.neq 2 (Operand.tmp 9) (Operand.tmp 13) 2, 4, "l06_integers.go:28", #[{ on := 3, ground := Ground.data }, { on := 7, ground := Ground.data }], none⟩) rfl (by rfl) (by rfl) (fun w' hw' => ?_) ?_; rotate_left
        · go_simp <;> first | rfl | exact ⟨rfl, rfl⟩
        simp only [Act.put, List.setIfInBounds_toArray, List.set_cons_zero, List.set_cons_succ]
        refine' wpT_det (o := ⟨some 15, Op.move (Operand.tmp 14), 4, "l06_integers.go:28", #[{ on := 8, ground := Ground.data }], none⟩) rfl (by rfl) (by rfl) (fun w' hw' => ?_) ?_; rotate_left
        · go_simp <;> first | rfl | exact ⟨rfl, rfl⟩
        simp only [Act.put, List.setIfInBounds_toArray, List.set_cons_zero, List.set_cons_succ]
        refine' wpT_det (o := ⟨some 16, Op.move (Operand.tmp 0), 62, "l06_integers.go:28", #[{ on := 9, ground := Ground.guard }], some (9, false)⟩) rfl (by rfl) (by rfl) (fun w' hw' => ?_) ?_; rotate_left
        · go_simp <;> first | rfl | exact ⟨rfl, rfl⟩
        simp only [Act.put, List.setIfInBounds_toArray, List.set_cons_zero, List.set_cons_succ]
        refine' wpT_det (o := ⟨some 17, Op.nilCheck (Operand.tmp 16), 0, "l06_integers.go:28", #[{ on := 10, ground := Ground.data }, { on := 9, ground := Ground.guard }], some (9, false)⟩) rfl (by rfl) (by rfl) (fun w' hw' => ?_) ?_; rotate_left
        · go_simp <;> first | rfl | exact ⟨rfl, rfl⟩
        simp only [Act.put, List.setIfInBounds_toArray, List.set_cons_zero, List.set_cons_succ]
        refine' wpT_det (o := ⟨some 18, Op.fieldAddr 31 (Operand.tmp 17) 1, 0, "l06_integers.go:28", #[{ on := 11, ground := Ground.data }, { on := 9, ground := Ground.guard }], some (9, false)⟩) rfl (by rfl) (by rfl) (fun w' hw' => ?_) ?_; rotate_left
        · go_simp <;> first | rfl | exact ⟨rfl, rfl⟩
        simp only [Act.put, List.setIfInBounds_toArray, List.set_cons_zero, List.set_cons_succ]
        refine' wpT_det (o := ⟨some 19, Op.load 2 (Operand.tmp 18), 2, "l06_integers.go:28", #[{ on := 12, ground := Ground.data }, { on := 9, ground := Ground.guard }], some (9, false)⟩) rfl (by rfl) (by rfl) (fun w' hw' => ?_) ?_; rotate_left
        · have h0_ := Ext.cell hw' h0; have h1_ := Ext.cell hw' h1; have h2_ := Ext.cell hw' h2; have g0_ := Ext.cell hw' g0; have g1_ := Ext.cell hw' g1; have g2_ := Ext.cell hw' g2; go_simp <;> first | rfl | exact ⟨rfl, rfl⟩
        simp only [Act.put, List.setIfInBounds_toArray, List.set_cons_zero, List.set_cons_succ]
        refine' wpT_det (o := ⟨some 20, Op.move (Operand.tmp 1), 62, "l06_integers.go:28", #[{ on := 9, ground := Ground.guard }], some (9, false)⟩) rfl (by rfl) (by rfl) (fun w' hw' => ?_) ?_; rotate_left
        · go_simp <;> first | rfl | exact ⟨rfl, rfl⟩
        simp only [Act.put, List.setIfInBounds_toArray, List.set_cons_zero, List.set_cons_succ]
        refine' wpT_det (o := ⟨some 21, Op.nilCheck (Operand.tmp 20), 0, "l06_integers.go:28", #[{ on := 14, ground := Ground.data }, { on := 9, ground := Ground.guard }], some (9, false)⟩) rfl (by rfl) (by rfl) (fun w' hw' => ?_) ?_; rotate_left
        · go_simp <;> first | rfl | exact ⟨rfl, rfl⟩
        simp only [Act.put, List.setIfInBounds_toArray, List.set_cons_zero, List.set_cons_succ]
        refine' wpT_det (o := ⟨some 22, Op.fieldAddr 31 (Operand.tmp 21) 1, 0, "l06_integers.go:28", #[{ on := 15, ground := Ground.data }, { on := 9, ground := Ground.guard }], some (9, false)⟩) rfl (by rfl) (by rfl) (fun w' hw' => ?_) ?_; rotate_left
        · go_simp <;> first | rfl | exact ⟨rfl, rfl⟩
        simp only [Act.put, List.setIfInBounds_toArray, List.set_cons_zero, List.set_cons_succ]
        refine' wpT_det (o := ⟨some 23, Op.load 2 (Operand.tmp 22), 2, "l06_integers.go:28", #[{ on := 16, ground := Ground.data }, { on := 9, ground := Ground.guard }], some (9, false)⟩) rfl (by rfl) (by rfl) (fun w' hw' => ?_) ?_; rotate_left
        · have h0_ := Ext.cell hw' h0; have h1_ := Ext.cell hw' h1; have h2_ := Ext.cell hw' h2; have g0_ := Ext.cell hw' g0; have g1_ := Ext.cell hw' g1; have g2_ := Ext.cell hw' g2; go_simp <;> first | rfl | exact ⟨rfl, rfl⟩
        simp only [Act.put, List.setIfInBounds_toArray, List.set_cons_zero, List.set_cons_succ]
        refine' wpT_det (o := ⟨some 24, Op.binOp BinOp.neq 2 (Operand.tmp 19) (Operand.tmp 23) 2, 4, "l06_integers.go:28", #[{ on := 13, ground := Ground.data }, { on := 17, ground := Ground.data }, { on := 9, ground := Ground.guard }], some (9, false)⟩) rfl (by rfl) (by rfl) (fun w' hw' => ?_) ?_; rotate_left
        · go_simp <;> first | rfl | exact ⟨rfl, rfl⟩
        simp only [Act.put, List.setIfInBounds_toArray, List.set_cons_zero, List.set_cons_succ]
        refine' wpT_det (o := ⟨some 25, Op.pick (Operand.tmp 15) (Operand.const (Value.bool true)) (Operand.tmp 24), 4, "l06_integers.go:28", #[{ on := 9, ground := Ground.data }, { on := 18, ground := Ground.data }], none⟩) rfl (by rfl) (by rfl) (fun w' hw' => ?_) ?_; rotate_left
        · go_simp <;> first | rfl | exact ⟨rfl, rfl⟩
        simp only [Act.put, List.setIfInBounds_toArray, List.set_cons_zero, List.set_cons_succ]
        refine' wpT_det (o := ⟨some 26, Op.move (Operand.tmp 25), 4, "l06_integers.go:28", #[{ on := 19, ground := Ground.data }, { on := 9, ground := Ground.chain }], none⟩) rfl (by rfl) (by rfl) (fun w' hw' => ?_) ?_; rotate_left
        · go_simp <;> first | rfl | exact ⟨rfl, rfl⟩
        simp only [Act.put, List.setIfInBounds_toArray, List.set_cons_zero, List.set_cons_succ]
        refine' wpT_det (o := ⟨some 27, Op.move (Operand.tmp 0), 62, "l06_integers.go:28", #[{ on := 20, ground := Ground.guard }], some (20, false)⟩) rfl (by rfl) (by rfl) (fun w' hw' => ?_) ?_; rotate_left
        · go_simp <;> first | rfl | exact ⟨rfl, rfl⟩
        simp only [Act.put, List.setIfInBounds_toArray, List.set_cons_zero, List.set_cons_succ]
        refine' wpT_det (o := ⟨some 28, Op.nilCheck (Operand.tmp 27), 0, "l06_integers.go:28", #[{ on := 21, ground := Ground.data }, { on := 20, ground := Ground.guard }], some (20, false)⟩) rfl (by rfl) (by rfl) (fun w' hw' => ?_) ?_; rotate_left
        · go_simp <;> first | rfl | exact ⟨rfl, rfl⟩
        simp only [Act.put, List.setIfInBounds_toArray, List.set_cons_zero, List.set_cons_succ]
        refine' wpT_det (o := ⟨some 29, Op.fieldAddr 31 (Operand.tmp 28) 2, 0, "l06_integers.go:28", #[{ on := 22, ground := Ground.data }, { on := 20, ground := Ground.guard }], some (20, false)⟩) rfl (by rfl) (by rfl) (fun w' hw' => ?_) ?_; rotate_left
        · go_simp <;> first | rfl | exact ⟨rfl, rfl⟩
        simp only [Act.put, List.setIfInBounds_toArray, List.set_cons_zero, List.set_cons_succ]
        refine' wpT_det (o := ⟨some 30, Op.load 26 (Operand.tmp 29), 26, "l06_integers.go:28", #[{ on := 23, ground := Ground.data }, { on := 20, ground := Ground.guard }], some (20, false)⟩) rfl (by rfl) (by rfl) (fun w' hw' => ?_) ?_; rotate_left
        · have h0_ := Ext.cell hw' h0; have h1_ := Ext.cell hw' h1; have h2_ := Ext.cell hw' h2; have g0_ := Ext.cell hw' g0; have g1_ := Ext.cell hw' g1; have g2_ := Ext.cell hw' g2; go_simp <;> first | rfl | exact ⟨rfl, rfl⟩
        simp only [Act.put, List.setIfInBounds_toArray, List.set_cons_zero, List.set_cons_succ]
        refine' wpT_det (o := ⟨some 31, Op.call { callee := Callee.builtin Builtin.len, args := #[Operand.tmp 30], argTypes := #[26] }, 3, "l06_integers.go:28", #[{ on := 24, ground := Ground.data }, { on := 20, ground := Ground.guard }], some (20, false)⟩) rfl (by rfl) (by rfl) (fun w' hw' => ?_) ?_; rotate_left
        · go_simp <;> first | rfl | exact ⟨rfl, rfl⟩
        simp only [Act.put, List.setIfInBounds_toArray, List.set_cons_zero, List.set_cons_succ]
        refine' wpT_det (o := ⟨some 32, Op.move (Operand.tmp 1), 62, "l06_integers.go:28", #[{ on := 20, ground := Ground.guard }], some (20, false)⟩) rfl (by rfl) (by rfl) (fun w' hw' => ?_) ?_; rotate_left
        · go_simp <;> first | rfl | exact ⟨rfl, rfl⟩
        simp only [Act.put, List.setIfInBounds_toArray, List.set_cons_zero, List.set_cons_succ]
        refine' wpT_det (o := ⟨some 33, Op.nilCheck (Operand.tmp 32), 0, "l06_integers.go:28", #[{ on := 26, ground := Ground.data }, { on := 20, ground := Ground.guard }], some (20, false)⟩) rfl (by rfl) (by rfl) (fun w' hw' => ?_) ?_; rotate_left
        · go_simp <;> first | rfl | exact ⟨rfl, rfl⟩
        simp only [Act.put, List.setIfInBounds_toArray, List.set_cons_zero, List.set_cons_succ]
        refine' wpT_det (o := ⟨some 34, Op.fieldAddr 31 (Operand.tmp 33) 2, 0, "l06_integers.go:28", #[{ on := 27, ground := Ground.data }, { on := 20, ground := Ground.guard }], some (20, false)⟩) rfl (by rfl) (by rfl) (fun w' hw' => ?_) ?_; rotate_left
        · go_simp <;> first | rfl | exact ⟨rfl, rfl⟩
        simp only [Act.put, List.setIfInBounds_toArray, List.set_cons_zero, List.set_cons_succ]
        refine' wpT_det (o := ⟨some 35, Op.load 26 (Operand.tmp 34), 26, "l06_integers.go:28", #[{ on := 28, ground := Ground.data }, { on := 20, ground := Ground.guard }], some (20, false)⟩) rfl (by rfl) (by rfl) (fun w' hw' => ?_) ?_; rotate_left
        · have h0_ := Ext.cell hw' h0; have h1_ := Ext.cell hw' h1; have h2_ := Ext.cell hw' h2; have g0_ := Ext.cell hw' g0; have g1_ := Ext.cell hw' g1; have g2_ := Ext.cell hw' g2; go_simp <;> first | rfl | exact ⟨rfl, rfl⟩
        simp only [Act.put, List.setIfInBounds_toArray, List.set_cons_zero, List.set_cons_succ]
        refine' wpT_det (o := ⟨some 36, Op.call { callee := Callee.builtin Builtin.len, args := #[Operand.tmp 35], argTypes := #[26] }, 3, "l06_integers.go:28", #[{ on := 29, ground := Ground.data }, { on := 20, ground := Ground.guard }], some (20, false)⟩) rfl (by rfl) (by rfl) (fun w' hw' => ?_) ?_; rotate_left
        · go_simp <;> first | rfl | exact ⟨rfl, rfl⟩
        simp only [Act.put, List.setIfInBounds_toArray, List.set_cons_zero, List.set_cons_succ]
        refine' wpT_det (o := ⟨some 37, Op.binOp BinOp.neq 3 (Operand.tmp 31) (Operand.tmp 36) 3, 4, "l06_integers.go:28", #[{ on := 25, ground := Ground.data }, { on := 30, ground := Ground.data }, { on := 20, ground := Ground.guard }], some (20, false)⟩) rfl (by rfl) (by rfl) (fun w' hw' => ?_) ?_; rotate_left
        · go_simp <;> first | rfl | exact ⟨rfl, rfl⟩
        simp only [Act.put, List.setIfInBounds_toArray, List.set_cons_zero, List.set_cons_succ]
        refine' wpT_det (o := ⟨some 38, Op.pick (Operand.tmp 26) (Operand.const (Value.bool true)) (Operand.tmp 37), 4, "l06_integers.go:28", #[{ on := 20, ground := Ground.data }, { on := 31, ground := Ground.data }], none⟩) rfl (by rfl) (by rfl) (fun w' hw' => ?_) ?_; rotate_left
        · go_simp <;> first | rfl | exact ⟨rfl, rfl⟩
        simp only [Act.put, List.setIfInBounds_toArray, List.set_cons_zero, List.set_cons_succ]
        refine wpT_nil (fun w' hw' hF => ?_)
        refine wpList_nil ?_
        have hx := hw'.undrew
        clear hw' hF
        replace h0 := hx.cell h0; replace h1 := hx.cell h1; replace h2 := hx.cell h2; replace g0 := hx.cell g0; replace g1 := hx.cell g1; replace g2 := hx.cell g2
        go_wp2_with fail
        go_loopw [5] (fun i wr => ∃ k : Nat, k ≤ n ∧ i = .int .i64 k ∧ Hid (∀ j, j < k → rd xs j = rd ys j) ∧ Ext w' wr) (fun i _ => n - (intOf i).toNat)
        case atStart => exact ⟨0, Nat.zero_le _, rfl, fun j hj => by omega, Ext.refl _⟩
        case round =>
          obtain ⟨k, hk, rfl, hsame, hx'⟩ := hrel
          replace h0 := hx'.cell h0; replace h1 := hx'.cell h1; replace h2 := hx'.cell h2; replace g0 := hx'.cell g0; replace g1 := hx'.cell g1; replace g2 := hx'.cell g2
          by_cases hlt : k < n
          · obtain ⟨ad, rfl, hc⟩ := (hr.below (hx.trans hx')).intN k hlt
            obtain ⟨ad', rfl, hc'⟩ := (hq.below (hx.trans hx')).intN k hlt
            by_cases he : rd xs k = rd ys k
            · have he' : (rd xs k != rd ys k) = false := by simp [he]
              have HE := Lib.hid he
              clear he
              go_wp2_with fail
              refine wp_region_T [0, 1, 2, 3, 4, 5, 6, 7, 8, 9, 10, 11, 12, 13, 14] [] [] [] (fun _ _ => False) (fun _ _ _ => True) (by kernel_rfl) (by kernel_rfl) (fun _ _ _ _ _ _ => trivial) ?_
              refine' wpT_det (o := ⟨some 48, Op.move (Operand.tmp 0), 62, "l06_integers.go:32", #[], none⟩) rfl (by rfl) (by rfl) (fun w' hw' => ?_) ?_; rotate_left
              · go_simp <;> first | rfl | exact ⟨rfl, rfl⟩
              simp only [Act.put, List.setIfInBounds_toArray, List.set_cons_zero, List.set_cons_succ]
              refine' wpT_det (o := ⟨some 49, Op.nilCheck (Operand.tmp 48), 0, "l06_integers.go:32", #[{ on := 0, ground := Ground.data }], none⟩) rfl (by rfl) (by rfl) (fun w' hw' => ?_) ?_; rotate_left
              · go_simp <;> first | rfl | exact ⟨rfl, rfl⟩
              simp only [Act.put, List.setIfInBounds_toArray, List.set_cons_zero, List.set_cons_succ]
              refine' wpT_det (o := ⟨some 50, Op.fieldAddr 31 (Operand.tmp 49) 2, 0, "l06_integers.go:32", #[{ on := 1, ground := Ground.data }], none⟩) rfl (by rfl) (by rfl) (fun w' hw' => ?_) ?_; rotate_left
              · go_simp <;> first | rfl | exact ⟨rfl, rfl⟩
              simp only [Act.put, List.setIfInBounds_toArray, List.set_cons_zero, List.set_cons_succ]
              refine' wpT_det (o := ⟨some 51, Op.load 26 (Operand.tmp 50), 26, "l06_integers.go:32", #[{ on := 2, ground := Ground.data }], none⟩) rfl (by rfl) (by rfl) (fun w' hw' => ?_) ?_; rotate_left
              · have hc_ := Ext.cell hw' hc; have hc'_ := Ext.cell hw' hc'; have h2_ := Ext.cell hw' h2; have g2_ := Ext.cell hw' g2; go_simp <;> first | rfl | exact ⟨rfl, rfl⟩
              simp only [Act.put, List.setIfInBounds_toArray, List.set_cons_zero, List.set_cons_succ]
              refine' wpT_det (o := ⟨some 52, Op.move (Operand.tmp 5), 3, "l06_integers.go:32", #[], none⟩) rfl (by rfl) (by rfl) (fun w' hw' => ?_) ?_; rotate_left
              · go_simp <;> first | rfl | exact ⟨rfl, rfl⟩
              simp only [Act.put, List.setIfInBounds_toArray, List.set_cons_zero, List.set_cons_succ]
              refine' wpT_det (o := ⟨some 53, Op.indexAddr 26 (Operand.tmp 51) (Operand.tmp 52), 0, "l06_integers.go:32", #[{ on := 3, ground := Ground.data }, { on := 4, ground := Ground.data }], none⟩) rfl (by rfl) (by rfl) (fun w' hw' => ?_) ?_; rotate_left
              · go_simp <;> first | rfl | exact ⟨rfl, rfl⟩
              simp only [Act.put, List.setIfInBounds_toArray, List.set_cons_zero, List.set_cons_succ]
              refine' wpT_det (o := ⟨some 54, Op.load 2 (Operand.tmp 53), 2, "l06_integers.go:32", #[{ on := 5, ground := Ground.data }], none⟩) rfl (by rfl) (by rfl) (fun w' hw' => ?_) ?_; rotate_left
              · have hc_ := Ext.cell hw' hc; have hc'_ := Ext.cell hw' hc'; have h2_ := Ext.cell hw' h2; have g2_ := Ext.cell hw' g2; go_simp <;> first | rfl | exact ⟨rfl, rfl⟩
              simp only [Act.put, List.setIfInBounds_toArray, List.set_cons_zero, List.set_cons_succ]
              refine' wpT_det (o := ⟨some 55, Op.move (Operand.tmp 1), 62, "l06_integers.go:32", #[], none⟩) rfl (by rfl) (by rfl) (fun w' hw' => ?_) ?_; rotate_left
              · go_simp <;> first | rfl | exact ⟨rfl, rfl⟩
              simp only [Act.put, List.setIfInBounds_toArray, List.set_cons_zero, List.set_cons_succ]
              refine' wpT_det (o := ⟨some 56, Op.nilCheck (Operand.tmp 55), 0, "l06_integers.go:32", #[{ on := 7, ground := Ground.data }], none⟩) rfl (by rfl) (by rfl) (fun w' hw' => ?_) ?_; rotate_left
              · go_simp <;> first | rfl | exact ⟨rfl, rfl⟩
              simp only [Act.put, List.setIfInBounds_toArray, List.set_cons_zero, List.set_cons_succ]
              refine' wpT_det (o := ⟨some 57, Op.fieldAddr 31 (Operand.tmp 56) 2, 0, "l06_integers.go:32", #[{ on := 8, ground := Ground.data }], none⟩) rfl (by rfl) (by rfl) (fun w' hw' => ?_) ?_; rotate_left
              · go_simp <;> first | rfl | exact ⟨rfl, rfl⟩
              simp only [Act.put, List.setIfInBounds_toArray, List.set_cons_zero, List.set_cons_succ]
              refine' wpT_det (o := ⟨some 58, Op.load 26 (Operand.tmp 57), 26, "l06_integers.go:32", #[{ on := 9, ground := Ground.data }], none⟩) rfl (by rfl) (by rfl) (fun w' hw' => ?_) ?_; rotate_left
              · have hc_ := Ext.cell hw' hc; have hc'_ := Ext.cell hw' hc'; have h2_ := Ext.cell hw' h2; have g2_ := Ext.cell hw' g2; go_simp <;> first | rfl | exact ⟨rfl, rfl⟩
              simp only [Act.put, List.setIfInBounds_toArray, List.set_cons_zero, List.set_cons_succ]
              refine' wpT_det (o := ⟨some 59, Op.move (Operand.tmp 5), 3, "l06_integers.go:32", #[], none⟩) rfl (by rfl) (by rfl) (fun w' hw' => ?_) ?_; rotate_left
              · go_simp <;> first | rfl | exact ⟨rfl, rfl⟩
              simp only [Act.put, List.setIfInBounds_toArray, List.set_cons_zero, List.set_cons_succ]
              refine' wpT_det (o := ⟨some 60, Op.indexAddr 26 (Operand.tmp 58) (Operand.tmp 59), 0, "l06_integers.go:32", #[{ on := 10, ground := Ground.data }, { on := 11, ground := Ground.data }], none⟩) rfl (by rfl) (by rfl) (fun w' hw' => ?_) ?_; rotate_left
              · go_simp <;> first | rfl | exact ⟨rfl, rfl⟩
              simp only [Act.put, List.setIfInBounds_toArray, List.set_cons_zero, List.set_cons_succ]
              refine' wpT_det (o := ⟨some 61, Op.load 2 (Operand.tmp 60), 2, "l06_integers.go:32", #[{ on := 12, ground := Ground.data }], none⟩) rfl (by rfl) (by rfl) (fun w' hw' => ?_) ?_; rotate_left
              · have hc_ := Ext.cell hw' hc; have hc'_ := Ext.cell hw' hc'; have h2_ := Ext.cell hw' h2; have g2_ := Ext.cell hw' g2; go_simp <;> first | rfl | exact ⟨rfl, rfl⟩
              simp only [Act.put, List.setIfInBounds_toArray, List.set_cons_zero, List.set_cons_succ]
              refine' wpT_det (o := ⟨some 62, Op.binOp BinOp.neq 2 (Operand.tmp 54) (Operand.tmp 61) 2, 4, "l06_integers.go:32", #[{ on := 6, ground := Ground.data }, { on := 13, ground := Ground.data }], none⟩) rfl (by rfl) (by rfl) (fun w' hw' => ?_) ?_; rotate_left
              · go_simp <;> first | rfl | exact ⟨rfl, rfl⟩
              simp only [Act.put, List.setIfInBounds_toArray, List.set_cons_zero, List.set_cons_succ]
              refine wpT_nil (fun w' hw' hF => ?_)
              refine wpList_nil ?_
              go_wp2_with fail
              go_roundw
              case rel => exact ⟨k + 1, by omega, by go_num, fun j hj => if e : j = k then (by subst e; exact HE.out) else hsame.out j (by omega), hx'.trans hw'.undrew⟩
              case measure => simp [intOf]; omega
            · have he' : (rd xs k != rd ys k) = true := by simp [he]
              go_wp2_with fail
              refine wp_region_T [0, 1, 2, 3, 4, 5, 6, 7, 8, 9, 10, 11, 12, 13, 14] [] [] [] (fun _ _ => False) (fun _ _ _ => True) (by kernel_rfl) (by kernel_rfl) (fun _ _ _ _ _ _ => trivial) ?_
              refine' wpT_det (o := ⟨some 48, Op.move (Operand.tmp 0), 62, "l06_integers.go:32", #[], none⟩) rfl (by rfl) (by rfl) (fun w' hw' => ?_) ?_; rotate_left
              · go_simp <;> first | rfl | exact ⟨rfl, rfl⟩
              simp only [Act.put, List.setIfInBounds_toArray, List.set_cons_zero, List.set_cons_succ]
              refine' wpT_det (o := ⟨some 49, Op.nilCheck (Operand.tmp 48), 0, "l06_integers.go:32", #[{ on := 0, ground := Ground.data }], none⟩) rfl (by rfl) (by rfl) (fun w' hw' => ?_) ?_; rotate_left
              · go_simp <;> first | rfl | exact ⟨rfl, rfl⟩
              simp only [Act.put, List.setIfInBounds_toArray, List.set_cons_zero, List.set_cons_succ]
              refine' wpT_det (o := ⟨some 50, Op.fieldAddr 31 (Operand.tmp 49) 2, 0, "l06_integers.go:32", #[{ on := 1, ground := Ground.data }], none⟩) rfl (by rfl) (by rfl) (fun w' hw' => ?_) ?_; rotate_left
              · go_simp <;> first | rfl | exact ⟨rfl, rfl⟩
              simp only [Act.put, List.setIfInBounds_toArray, List.set_cons_zero, List.set_cons_succ]
              refine' wpT_det (o := ⟨some 51, Op.load 26 (Operand.tmp 50), 26, "l06_integers.go:32", #[{ on := 2, ground := Ground.data }], none⟩) rfl (by rfl) (by rfl) (fun w' hw' => ?_) ?_; rotate_left
              · have hc_ := Ext.cell hw' hc; have hc'_ := Ext.cell hw' hc'; have h2_ := Ext.cell hw' h2; have g2_ := Ext.cell hw' g2; go_simp <;> first | rfl | exact ⟨rfl, rfl⟩
              simp only [Act.put, List.setIfInBounds_toArray, List.set_cons_zero, List.set_cons_succ]
              refine' wpT_det (o := ⟨some 52, Op.move (Operand.tmp 5), 3, "l06_integers.go:32", #[], none⟩) rfl (by rfl) (by rfl) (fun w' hw' => ?_) ?_; rotate_left
              · go_simp <;> first | rfl | exact ⟨rfl, rfl⟩
              simp only [Act.put, List.setIfInBounds_toArray, List.set_cons_zero, List.set_cons_succ]
              refine' wpT_det (o := ⟨some 53, Op.indexAddr 26 (Operand.tmp 51) (Operand.tmp 52), 0, "l06_integers.go:32", #[{ on := 3, ground := Ground.data }, { on := 4, ground := Ground.data }], none⟩) rfl (by rfl) (by rfl) (fun w' hw' => ?_) ?_; rotate_left
              · go_simp <;> first | rfl | exact ⟨rfl, rfl⟩
              simp only [Act.put, List.setIfInBounds_toArray, List.set_cons_zero, List.set_cons_succ]
              refine' wpT_det (o := ⟨some 54, Op.load 2 (Operand.tmp 53), 2, "l06_integers.go:32", #[{ on := 5, ground := Ground.data }], none⟩) rfl (by rfl) (by rfl) (fun w' hw' => ?_) ?_; rotate_left
              · have hc_ := Ext.cell hw' hc; have hc'_ := Ext.cell hw' hc'; have h2_ := Ext.cell hw' h2; have g2_ := Ext.cell hw' g2; go_simp <;> first | rfl | exact ⟨rfl, rfl⟩
              simp only [Act.put, List.setIfInBounds_toArray, List.set_cons_zero, List.set_cons_succ]
              refine' wpT_det (o := ⟨some 55, Op.move (Operand.tmp 1), 62, "l06_integers.go:32", #[], none⟩) rfl (by rfl) (by rfl) (fun w' hw' => ?_) ?_; rotate_left
              · go_simp <;> first | rfl | exact ⟨rfl, rfl⟩
              simp only [Act.put, List.setIfInBounds_toArray, List.set_cons_zero, List.set_cons_succ]
              refine' wpT_det (o := ⟨some 56, Op.nilCheck (Operand.tmp 55), 0, "l06_integers.go:32", #[{ on := 7, ground := Ground.data }], none⟩) rfl (by rfl) (by rfl) (fun w' hw' => ?_) ?_; rotate_left
              · go_simp <;> first | rfl | exact ⟨rfl, rfl⟩
              simp only [Act.put, List.setIfInBounds_toArray, List.set_cons_zero, List.set_cons_succ]
              refine' wpT_det (o := ⟨some 57, Op.fieldAddr 31 (Operand.tmp 56) 2, 0, "l06_integers.go:32", #[{ on := 8, ground := Ground.data }], none⟩) rfl (by rfl) (by rfl) (fun w' hw' => ?_) ?_; rotate_left
              · go_simp <;> first | rfl | exact ⟨rfl, rfl⟩
              simp only [Act.put, List.setIfInBounds_toArray, List.set_cons_zero, List.set_cons_succ]
              refine' wpT_det (o := ⟨some 58, Op.load 26 (Operand.tmp 57), 26, "l06_integers.go:32", #[{ on := 9, ground := Ground.data }], none⟩) rfl (by rfl) (by rfl) (fun w' hw' => ?_) ?_; rotate_left
              · have hc_ := Ext.cell hw' hc; have hc'_ := Ext.cell hw' hc'; have h2_ := Ext.cell hw' h2; have g2_ := Ext.cell hw' g2; go_simp <;> first | rfl | exact ⟨rfl, rfl⟩
              simp only [Act.put, List.setIfInBounds_toArray, List.set_cons_zero, List.set_cons_succ]
              refine' wpT_det (o := ⟨some 59, Op.move (Operand.tmp 5), 3, "l06_integers.go:32", #[], none⟩) rfl (by rfl) (by rfl) (fun w' hw' => ?_) ?_; rotate_left
              · go_simp <;> first | rfl | exact ⟨rfl, rfl⟩
              simp only [Act.put, List.setIfInBounds_toArray, List.set_cons_zero, List.set_cons_succ]
              refine' wpT_det (o := ⟨some 60, Op.indexAddr 26 (Operand.tmp 58) (Operand.tmp 59), 0, "l06_integers.go:32", #[{ on := 10, ground := Ground.data }, { on := 11, ground := Ground.data }], none⟩) rfl (by rfl) (by rfl) (fun w' hw' => ?_) ?_; rotate_left
              · go_simp <;> first | rfl | exact ⟨rfl, rfl⟩
              simp only [Act.put, List.setIfInBounds_toArray, List.set_cons_zero, List.set_cons_succ]
              refine' wpT_det (o := ⟨some 61, Op.load 2 (Operand.tmp 60), 2, "l06_integers.go:32", #[{ on := 12, ground := Ground.data }], none⟩) rfl (by rfl) (by rfl) (fun w' hw' => ?_) ?_; rotate_left
              · have hc_ := Ext.cell hw' hc; have hc'_ := Ext.cell hw' hc'; have h2_ := Ext.cell hw' h2; have g2_ := Ext.cell hw' g2; go_simp <;> first | rfl | exact ⟨rfl, rfl⟩
              simp only [Act.put, List.setIfInBounds_toArray, List.set_cons_zero, List.set_cons_succ]
              refine' wpT_det (o := ⟨some 62, Op.binOp BinOp.neq 2 (Operand.tmp 54) (Operand.tmp 61) 2, 4, "l06_integers.go:32", #[{ on := 6, ground := Ground.data }, { on := 13, ground := Ground.data }], none⟩) rfl (by rfl) (by rfl) (fun w' hw' => ?_) ?_; rotate_left
              · go_simp <;> first | rfl | exact ⟨rfl, rfl⟩
              simp only [Act.put, List.setIfInBounds_toArray, List.set_cons_zero, List.set_cons_succ]
              refine wpT_nil (fun w' hw' hF => ?_)
              refine wpList_nil ?_
              go_wp2_with fail
              go_ret
              exact ⟨ret_bool (by rw [Hres.out, decide_eq_true E1.out, decide_eq_true E2.out, decide_eq_false]; rfl; intro e; exact he (by rw [e])), (hx.trans hx').trans hw'.undrew⟩
          · go_wp2_with fail
            go_ret
            refine ⟨ret_bool ?_, hx.trans hx'⟩
            rw [Hres.out, decide_eq_true E1.out, decide_eq_true E2.out, decide_eq_true (p := xs = ys)]
            · rfl
            have l1 := HL.out
            have l2 := HL'.out
            apply List.ext_getElem (by omega)
            intro j h1 h2
            have := hsame.out j (by omega)
            rwa [rd_get h1, rd_get h2] at this
      · have d3 : ((n : Int) != (m : Int)) = true := by simp; omega
        go_enter Try.func69, Try.ntmps69
        go_wp2_with fail
        refine wp_region_T [0, 1, 2, 3, 4, 5, 6, 7, 8, 9, 10, 11, 12, 13, 14, 15, 16, 17, 18, 19, 20, 21, 22, 23, 24, 25, 26, 27, 28, 29, 30, 31, 32] [] [] [] (fun _ _ => False) (fun _ _ _ => True) (by kernel_rfl) (by kernel_rfl) (fun _ _ _ _ _ _ => trivial) ?_
        refine' wpT_det (o := ⟨some 6, Op.move (Operand.tmp 0), 62, "l06_integers.go:28", #[], none⟩) rfl (by rfl) (by rfl) (fun w' hw' => ?_) ?_; rotate_left
        · go_simp <;> first | rfl | exact ⟨rfl, rfl⟩
        simp only [Act.put, List.setIfInBounds_toArray, List.set_cons_zero, List.set_cons_succ]
        refine' wpT_det (o := ⟨some 7, Op.nilCheck (Operand.tmp 6), 0, "l06_integers.go:28", #[{ on := 0, ground := Ground.data }], none⟩) rfl (by rfl) (by rfl) (fun w' hw' => ?_) ?_; rotate_left
        · go_simp <;> first | rfl | exact ⟨rfl, rfl⟩
        simp only [Act.put, List.setIfInBounds_toArray, List.set_cons_zero, List.set_cons_succ]
        refine' wpT_det (o := ⟨some 8, Op.fieldAddr 31 (Operand.tmp 7) 0, 0, "l06_integers.go:28", #[{ on := 1, ground := Ground.data }], none⟩) rfl (by rfl) (by rfl) (fun w' hw' => ?_) ?_; rotate_left
        · go_simp <;> first | rfl | exact ⟨rfl, rfl⟩
        simp only [Act.put, List.setIfInBounds_toArray, List.set_cons_zero, List.set_cons_succ]
        refine' wpT_det (o := ⟨some 9, Op.load 2 (Operand.tmp 8), 2, "l06_integers.go:28", #[{ on := 2, ground := Ground.data }], none⟩) rfl (by rfl) (by rfl) (fun w' hw' => ?_) ?_; rotate_left
        · have h0_ := Ext.cell hw' h0; have h1_ := Ext.cell hw' h1; have h2_ := Ext.cell hw' h2; have g0_ := Ext.cell hw' g0; have g1_ := Ext.cell hw' g1; have g2_ := Ext.cell hw' g2; go_simp <;> first | rfl | exact ⟨rfl, rfl⟩
        simp only [Act.put, List.setIfInBounds_toArray, List.set_cons_zero, List.set_cons_succ]
        refine' wpT_det (o := ⟨some 10, Op.move (Operand.tmp 1), 62, "l06_integers.go:28", #[], none⟩) rfl (by rfl) (by rfl) (fun w' hw' => ?_) ?_; rotate_left
        · go_simp <;> first | rfl | exact ⟨rfl, rfl⟩
        simp only [Act.put, List.setIfInBounds_toArray, List.set_cons_zero, List.set_cons_succ]
        refine' wpT_det (o := ⟨some 11, Op.nilCheck (Operand.tmp 10), 0, "l06_integers.go:28", #[{ on := 4, ground := Ground.data }], none⟩) rfl (by rfl) (by rfl) (fun w' hw' => ?_) ?_; rotate_left
        · go_simp <;> first | rfl | exact ⟨rfl, rfl⟩
        simp only [Act.put, List.setIfInBounds_toArray, List.set_cons_zero, List.set_cons_succ]
        refine' wpT_det (o := ⟨some 12, Op.fieldAddr 31 (Operand.tmp 11) 0, 0, "l06_integers.go:28", #[{ on := 5, ground := Ground.data }], none⟩) rfl (by rfl) (by rfl) (fun w' hw' => ?_) ?_; rotate_left
        · go_simp <;> first | rfl | exact ⟨rfl, rfl⟩
        simp only [Act.put, List.setIfInBounds_toArray, List.set_cons_zero, List.set_cons_succ]
        refine' wpT_det (o := ⟨some 13, Op.load 2 (Operand.tmp 12), 2, "l06_integers.go:28", #[{ on := 6, ground := Ground.data }], none⟩) rfl (by rfl) (by rfl) (fun w' hw' => ?_) ?_; rotate_left
        · have h0_ := Ext.cell hw' h0; have h1_ := Ext.cell hw' h1; have h2_ := Ext.cell hw' h2; have g0_ := Ext.cell hw' g0; have g1_ := Ext.cell hw' g1; have g2_ := Ext.cell hw' g2; go_simp <;> first | rfl | exact ⟨rfl, rfl⟩
        simp only [Act.put, List.setIfInBounds_toArray, List.set_cons_zero, List.set_cons_succ]
        refine' wpT_det (o := ⟨some 14, Op.binOp BinOp.neq 2 (Operand.tmp 9) (Operand.tmp 13) 2, 4, "l06_integers.go:28", #[{ on := 3, ground := Ground.data }, { on := 7, ground := Ground.data }], none⟩) rfl (by rfl) (by rfl) (fun w' hw' => ?_) ?_; rotate_left
        · go_simp <;> first | rfl | exact ⟨rfl, rfl⟩
        simp only [Act.put, List.setIfInBounds_toArray, List.set_cons_zero, List.set_cons_succ]
        refine' wpT_det (o := ⟨some 15, Op.move (Operand.tmp 14), 4, "l06_integers.go:28", #[{ on := 8, ground := Ground.data }], none⟩) rfl (by rfl) (by rfl) (fun w' hw' => ?_) ?_; rotate_left
        · go_simp <;> first | rfl | exact ⟨rfl, rfl⟩
        simp only [Act.put, List.setIfInBounds_toArray, List.set_cons_zero, List.set_cons_succ]
        refine' wpT_det (o := ⟨some 16, Op.move (Operand.tmp 0), 62, "l06_integers.go:28", #[{ on := 9, ground := Ground.guard }], some (9, false)⟩) rfl (by rfl) (by rfl) (fun w' hw' => ?_) ?_; rotate_left
        · go_simp <;> first | rfl | exact ⟨rfl, rfl⟩
        simp only [Act.put, List.setIfInBounds_toArray, List.set_cons_zero, List.set_cons_succ]
        refine' wpT_det (o := ⟨some 17, Op.nilCheck (Operand.tmp 16), 0, "l06_integers.go:28", #[{ on := 10, ground := Ground.data }, { on := 9, ground := Ground.guard }], some (9, false)⟩) rfl (by rfl) (by rfl) (fun w' hw' => ?_) ?_; rotate_left
        · go_simp <;> first | rfl | exact ⟨rfl, rfl⟩
        simp only [Act.put, List.setIfInBounds_toArray, List.set_cons_zero, List.set_cons_succ]
        refine' wpT_det (o := ⟨some 18, Op.fieldAddr 31 (Operand.tmp 17) 1, 0, "l06_integers.go:28", #[{ on := 11, ground := Ground.data }, { on := 9, ground := Ground.guard }], some (9, false)⟩) rfl (by rfl) (by rfl) (fun w' hw' => ?_) ?_; rotate_left
        · go_simp <;> first | rfl | exact ⟨rfl, rfl⟩
        simp only [Act.put, List.setIfInBounds_toArray, List.set_cons_zero, List.set_cons_succ]
        refine' wpT_det (o := ⟨some 19, Op.load 2 (Operand.tmp 18), 2, "l06_integers.go:28", #[{ on := 12, ground := Ground.data }, { on := 9, ground := Ground.guard }], some (9, false)⟩) rfl (by rfl) (by rfl) (fun w' hw' => ?_) ?_; rotate_left
        · have h0_ := Ext.cell hw' h0; have h1_ := Ext.cell hw' h1; have h2_ := Ext.cell hw' h2; have g0_ := Ext.cell hw' g0; have g1_ := Ext.cell hw' g1; have g2_ := Ext.cell hw' g2; go_simp <;> first | rfl | exact ⟨rfl, rfl⟩
        simp only [Act.put, List.setIfInBounds_toArray, List.set_cons_zero, List.set_cons_succ]
        refine' wpT_det (o := ⟨some 20, Op.move (Operand.tmp 1), 62, "l06_integers.go:28", #[{ on := 9, ground := Ground.guard }], some (9, false)⟩) rfl (by rfl) (by rfl) (fun w' hw' => ?_) ?_; rotate_left
        · go_simp <;> first | rfl | exact ⟨rfl, rfl⟩
        simp only [Act.put, List.setIfInBounds_toArray, List.set_cons_zero, List.set_cons_succ]
        refine' wpT_det (o := ⟨some 21, Op.nilCheck (Operand.tmp 20), 0, "l06_integers.go:28", #[{ on := 14, ground := Ground.data }, { on := 9, ground := Ground.guard }], some (9, false)⟩) rfl (by rfl) (by rfl) (fun w' hw' => ?_) ?_; rotate_left
        · go_simp <;> first | rfl | exact ⟨rfl, rfl⟩
        simp only [Act.put, List.setIfInBounds_toArray, List.set_cons_zero, List.set_cons_succ]
        refine' wpT_det (o := ⟨some 22, Op.fieldAddr 31 (Operand.tmp 21) 1, 0, "l06_integers.go:28", #[{ on := 15, ground := Ground.data }, { on := 9, ground := Ground.guard }], some (9, false)⟩) rfl (by rfl) (by rfl) (fun w' hw' => ?_) ?_; rotate_left
        · go_simp <;> first | rfl | exact ⟨rfl, rfl⟩
        simp only [Act.put, List.setIfInBounds_toArray, List.set_cons_zero, List.set_cons_succ]
        refine' wpT_det (o := ⟨some 23, Op.load 2 (Operand.tmp 22), 2, "l06_integers.go:28", #[{ on := 16, ground := Ground.data }, { on := 9, ground := Ground.guard }], some (9, false)⟩) rfl (by rfl) (by rfl) (fun w' hw' => ?_) ?_; rotate_left
        · have h0_ := Ext.cell hw' h0; have h1_ := Ext.cell hw' h1; have h2_ := Ext.cell hw' h2; have g0_ := Ext.cell hw' g0; have g1_ := Ext.cell hw' g1; have g2_ := Ext.cell hw' g2; go_simp <;> first | rfl | exact ⟨rfl, rfl⟩
        simp only [Act.put, List.setIfInBounds_toArray, List.set_cons_zero, List.set_cons_succ]
        refine' wpT_det (o := ⟨some 24, Op.binOp BinOp.neq 2 (Operand.tmp 19) (Operand.tmp 23) 2, 4, "l06_integers.go:28", #[{ on := 13, ground := Ground.data }, { on := 17, ground := Ground.data }, { on := 9, ground := Ground.guard }], some (9, false)⟩) rfl (by rfl) (by rfl) (fun w' hw' => ?_) ?_; rotate_left
        · go_simp <;> first | rfl | exact ⟨rfl, rfl⟩
        simp only [Act.put, List.setIfInBounds_toArray, List.set_cons_zero, List.set_cons_succ]
        refine' wpT_det (o := ⟨some 25, Op.pick (Operand.tmp 15) (Operand.const (Value.bool true)) (Operand.tmp 24), 4, "l06_integers.go:28", #[{ on := 9, ground := Ground.data }, { on := 18, ground := Ground.data }], none⟩) rfl (by rfl) (by rfl) (fun w' hw' => ?_) ?_; rotate_left
        · go_simp <;> first | rfl | exact ⟨rfl, rfl⟩
        simp only [Act.put, List.setIfInBounds_toArray, List.set_cons_zero, List.set_cons_succ]
        refine' wpT_det (o := ⟨some 26, Op.move (Operand.tmp 25), 4, "l06_integers.go:28", #[{ on := 19, ground := Ground.data }, { on := 9, ground := Ground.chain }], none⟩) rfl (by rfl) (by rfl) (fun w' hw' => ?_) ?_; rotate_left
        · go_simp <;> first | rfl | exact ⟨rfl, rfl⟩
        simp only [Act.put, List.setIfInBounds_toArray, List.set_cons_zero, List.set_cons_succ]
        refine' wpT_det (o := ⟨some 27, Op.move (Operand.tmp 0), 62, "l06_integers.go:28", #[{ on := 20, ground := Ground.guard }], some (20, false)⟩) rfl (by rfl) (by rfl) (fun w' hw' => ?_) ?_; rotate_left
        · go_simp <;> first | rfl | exact ⟨rfl, rfl⟩
        simp only [Act.put, List.setIfInBounds_toArray, List.set_cons_zero, List.set_cons_succ]
        refine' wpT_det (o := ⟨some 28, Op.nilCheck (Operand.tmp 27), 0, "l06_integers.go:28", #[{ on := 21, ground := Ground.data }, { on := 20, ground := Ground.guard }], some (20, false)⟩) rfl (by rfl) (by rfl) (fun w' hw' => ?_) ?_; rotate_left
        · go_simp <;> first | rfl | exact ⟨rfl, rfl⟩
        simp only [Act.put, List.setIfInBounds_toArray, List.set_cons_zero, List.set_cons_succ]
        refine' wpT_det (o := ⟨some 29, Op.fieldAddr 31 (Operand.tmp 28) 2, 0, "l06_integers.go:28", #[{ on := 22, ground := Ground.data }, { on := 20, ground := Ground.guard }], some (20, false)⟩) rfl (by rfl) (by rfl) (fun w' hw' => ?_) ?_; rotate_left
        · go_simp <;> first | rfl | exact ⟨rfl, rfl⟩
        simp only [Act.put, List.setIfInBounds_toArray, List.set_cons_zero, List.set_cons_succ]
        refine' wpT_det (o := ⟨some 30, Op.load 26 (Operand.tmp 29), 26, "l06_integers.go:28", #[{ on := 23, ground := Ground.data }, { on := 20, ground := Ground.guard }], some (20, false)⟩) rfl (by rfl) (by rfl) (fun w' hw' => ?_) ?_; rotate_left
        · have h0_ := Ext.cell hw' h0; have h1_ := Ext.cell hw' h1; have h2_ := Ext.cell hw' h2; have g0_ := Ext.cell hw' g0; have g1_ := Ext.cell hw' g1; have g2_ := Ext.cell hw' g2; go_simp <;> first | rfl | exact ⟨rfl, rfl⟩
        simp only [Act.put, List.setIfInBounds_toArray, List.set_cons_zero, List.set_cons_succ]
        refine' wpT_det (o := ⟨some 31, Op.call { callee := Callee.builtin Builtin.len, args := #[Operand.tmp 30], argTypes := #[26] }, 3, "l06_integers.go:28", #[{ on := 24, ground := Ground.data }, { on := 20, ground := Ground.guard }], some (20, false)⟩) rfl (by rfl) (by rfl) (fun w' hw' => ?_) ?_; rotate_left
        · go_simp <;> first | rfl | exact ⟨rfl, rfl⟩
        simp only [Act.put, List.setIfInBounds_toArray, List.set_cons_zero, List.set_cons_succ]
        refine' wpT_det (o := ⟨some 32, Op.move (Operand.tmp 1), 62, "l06_integers.go:28", #[{ on := 20, ground := Ground.guard }], some (20, false)⟩) rfl (by rfl) (by rfl) (fun w' hw' => ?_) ?_; rotate_left
        · go_simp <;> first | rfl | exact ⟨rfl, rfl⟩
        simp only [Act.put, List.setIfInBounds_toArray, List.set_cons_zero, List.set_cons_succ]
        refine' wpT_det (o := ⟨some 33, Op.nilCheck (Operand.tmp 32), 0, "l06_integers.go:28", #[{ on := 26, ground := Ground.data }, { on := 20, ground := Ground.guard }], some (20, false)⟩) rfl (by rfl) (by rfl) (fun w' hw' => ?_) ?_; rotate_left
        · go_simp <;> first | rfl | exact ⟨rfl, rfl⟩
        simp only [Act.put, List.setIfInBounds_toArray, List.set_cons_zero, List.set_cons_succ]
        refine' wpT_det (o := ⟨some 34, Op.fieldAddr 31 (Operand.tmp 33) 2, 0, "l06_integers.go:28", #[{ on := 27, ground := Ground.data }, { on := 20, ground := Ground.guard }], some (20, false)⟩) rfl (by rfl) (by rfl) (fun w' hw' => ?_) ?_; rotate_left
        · go_simp <;> first | rfl | exact ⟨rfl, rfl⟩
        simp only [Act.put, List.setIfInBounds_toArray, List.set_cons_zero, List.set_cons_succ]
        refine' wpT_det (o := ⟨some 35, Op.load 26 (Operand.tmp 34), 26, "l06_integers.go:28", #[{ on := 28, ground := Ground.data }, { on := 20, ground := Ground.guard }], some (20, false)⟩) rfl (by rfl) (by rfl) (fun w' hw' => ?_) ?_; rotate_left
        · have h0_ := Ext.cell hw' h0; have h1_ := Ext.cell hw' h1; have h2_ := Ext.cell hw' h2; have g0_ := Ext.cell hw' g0; have g1_ := Ext.cell hw' g1; have g2_ := Ext.cell hw' g2; go_simp <;> first | rfl | exact ⟨rfl, rfl⟩
        simp only [Act.put, List.setIfInBounds_toArray, List.set_cons_zero, List.set_cons_succ]
        refine' wpT_det (o := ⟨some 36, Op.call { callee := Callee.builtin Builtin.len, args := #[Operand.tmp 35], argTypes := #[26] }, 3, "l06_integers.go:28", #[{ on := 29, ground := Ground.data }, { on := 20, ground := Ground.guard }], some (20, false)⟩) rfl (by rfl) (by rfl) (fun w' hw' => ?_) ?_; rotate_left
        · go_simp <;> first | rfl | exact ⟨rfl, rfl⟩
        simp only [Act.put, List.setIfInBounds_toArray, List.set_cons_zero, List.set_cons_succ]
        refine' wpT_det (o := ⟨some 37, Op.binOp BinOp.neq 3 (Operand.tmp 31) (Operand.tmp 36) 3, 4, "l06_integers.go:28", #[{ on := 25, ground := Ground.data }, { on := 30, ground := Ground.data }, { on := 20, ground := Ground.guard }], some (20, false)⟩) rfl (by rfl) (by rfl) (fun w' hw' => ?_) ?_; rotate_left
        · go_simp <;> first | rfl | exact ⟨rfl, rfl⟩
        simp only [Act.put, List.setIfInBounds_toArray, List.set_cons_zero, List.set_cons_succ]
        refine' wpT_det (o := ⟨some 38, Op.pick (Operand.tmp 26) (Operand.const (Value.bool true)) (Operand.tmp 37), 4, "l06_integers.go:28", #[{ on := 20, ground := Ground.data }, { on := 31, ground := Ground.data }], none⟩) rfl (by rfl) (by rfl) (fun w' hw' => ?_) ?_; rotate_left
        · go_simp <;> first | rfl | exact ⟨rfl, rfl⟩
        simp only [Act.put, List.setIfInBounds_toArray, List.set_cons_zero, List.set_cons_succ]
        refine wpT_nil (fun w' hw' hF => ?_)
        refine wpList_nil ?_
        go_wp2_with fail
        go_ret
        exact ⟨ret_bool (by rw [Hres.out, decide_eq_false (p := xs = ys)]; simp; intro e; exact e3 (by rw [← HL.out, ← HL'.out, e])), hw'.undrew⟩
    · have d2 : (c != c') = true := by simp [e2]
      go_enter Try.func69, Try.ntmps69
      go_wp2_with fail
      refine wp_region_T [0, 1, 2, 3, 4, 5, 6, 7, 8, 9, 10, 11, 12, 13, 14, 15, 16, 17, 18, 19, 20, 21, 22, 23, 24, 25, 26, 27, 28, 29, 30, 31, 32] [] [] [] (fun _ _ => False) (fun _ _ _ => True) (by kernel_rfl) (by kernel_rfl) (fun _ _ _ _ _ _ => trivial) ?_
      refine' wpT_det (o := ⟨some 6, Op.move (Operand.tmp 0), 62, "l06_integers.go:28", #[], none⟩) rfl (by rfl) (by rfl) (fun w' hw' => ?_) ?_; rotate_left
      · go_simp <;> first | rfl | exact ⟨rfl, rfl⟩
      simp only [Act.put, List.setIfInBounds_toArray, List.set_cons_zero, List.set_cons_succ]
      refine' wpT_det (o := ⟨some 7, Op.nilCheck (Operand.tmp 6), 0, "l06_integers.go:28", #[{ on := 0, ground := Ground.data }], none⟩) rfl (by rfl) (by rfl) (fun w' hw' => ?_) ?_; rotate_left
      · go_simp <;> first | rfl | exact ⟨rfl, rfl⟩
      simp only [Act.put, List.setIfInBounds_toArray, List.set_cons_zero, List.set_cons_succ]
      refine' wpT_det (o := ⟨some 8, Op.fieldAddr 31 (Operand.tmp 7) 0, 0, "l06_integers.go:28", #[{ on := 1, ground := Ground.data }], none⟩) rfl (by rfl) (by rfl) (fun w' hw' => ?_) ?_; rotate_left
      · go_simp <;> first | rfl | exact ⟨rfl, rfl⟩
      simp only [Act.put, List.setIfInBounds_toArray, List.set_cons_zero, List.set_cons_succ]
      refine' wpT_det (o := ⟨some 9, Op.load 2 (Operand.tmp 8), 2, "l06_integers.go:28", #[{ on := 2, ground := Ground.data }], none⟩) rfl (by rfl) (by rfl) (fun w' hw' => ?_) ?_; rotate_left
      · have h0_ := Ext.cell hw' h0; have h1_ := Ext.cell hw' h1; have h2_ := Ext.cell hw' h2; have g0_ := Ext.cell hw' g0; have g1_ := Ext.cell hw' g1; have g2_ := Ext.cell hw' g2; go_simp <;> first | rfl | exact ⟨rfl, rfl⟩
      simp only [Act.put, List.setIfInBounds_toArray, List.set_cons_zero, List.set_cons_succ]
      refine' wpT_det (o := ⟨some 10, Op.move (Operand.tmp 1), 62, "l06_integers.go:28", #[], none⟩) rfl (by rfl) (by rfl) (fun w' hw' => ?_) ?_; rotate_left
      · go_simp <;> first | rfl | exact ⟨rfl, rfl⟩
      simp only [Act.put, List.setIfInBounds_toArray, List.set_cons_zero, List.set_cons_succ]
      refine' wpT_det (o := ⟨some 11, Op.nilCheck (Operand.tmp 10), 0, "l06_integers.go:28", #[{ on := 4, ground := Ground.data }], none⟩) rfl (by rfl) (by rfl) (fun w' hw' => ?_) ?_; rotate_left
      · go_simp <;> first | rfl | exact ⟨rfl, rfl⟩
      simp only [Act.put, List.setIfInBounds_toArray, List.set_cons_zero, List.set_cons_succ]
      refine' wpT_det (o := ⟨some 12, Op.fieldAddr 31 (Operand.tmp 11) 0, 0, "l06_integers.go:28", #[{ on := 5, ground := Ground.data }], none⟩) rfl (by rfl) (by rfl) (fun w' hw' => ?_) ?_; rotate_left
      · go_simp <;> first | rfl | exact ⟨rfl, rfl⟩
      simp only [Act.put, List.setIfInBounds_toArray, List.set_cons_zero, List.set_cons_succ]
      refine' wpT_det (o := ⟨some 13, Op.load 2 (Operand.tmp 12), 2, "l06_integers.go:28", #[{ on := 6, ground := Ground.data }], none⟩) rfl (by rfl) (by rfl) (fun w' hw' => ?_) ?_; rotate_left
      · have h0_ := Ext.cell hw' h0; have h1_ := Ext.cell hw' h1; have h2_ := Ext.cell hw' h2; have g0_ := Ext.cell hw' g0; have g1_ := Ext.cell hw' g1; have g2_ := Ext.cell hw' g2; go_simp <;> first | rfl | exact ⟨rfl, rfl⟩
      simp only [Act.put, List.setIfInBounds_toArray, List.set_cons_zero, List.set_cons_succ]
      refine' wpT_det (o := ⟨some 14, Op.binOp BinOp.neq 2 (Operand.tmp 9) (Operand.tmp 13) 2, 4, "l06_integers.go:28", #[{ on := 3, ground := Ground.data }, { on := 7, ground := Ground.data }], none⟩) rfl (by rfl) (by rfl) (fun w' hw' => ?_) ?_; rotate_left
      · go_simp <;> first | rfl | exact ⟨rfl, rfl⟩
      simp only [Act.put, List.setIfInBounds_toArray, List.set_cons_zero, List.set_cons_succ]
      refine' wpT_det (o := ⟨some 15, Op.move (Operand.tmp 14), 4, "l06_integers.go:28", #[{ on := 8, ground := Ground.data }], none⟩) rfl (by rfl) (by rfl) (fun w' hw' => ?_) ?_; rotate_left
      · go_simp <;> first | rfl | exact ⟨rfl, rfl⟩
      simp only [Act.put, List.setIfInBounds_toArray, List.set_cons_zero, List.set_cons_succ]
      refine' wpT_det (o := ⟨some 16, Op.move (Operand.tmp 0), 62, "l06_integers.go:28", #[{ on := 9, ground := Ground.guard }], some (9, false)⟩) rfl (by rfl) (by rfl) (fun w' hw' => ?_) ?_; rotate_left
      · go_simp <;> first | rfl | exact ⟨rfl, rfl⟩
      simp only [Act.put, List.setIfInBounds_toArray, List.set_cons_zero, List.set_cons_succ]
      refine' wpT_det (o := ⟨some 17, Op.nilCheck (Operand.tmp 16), 0, "l06_integers.go:28", #[{ on := 10, ground := Ground.data }, { on := 9, ground := Ground.guard }], some (9, false)⟩) rfl (by rfl) (by rfl) (fun w' hw' => ?_) ?_; rotate_left
      · go_simp <;> first | rfl | exact ⟨rfl, rfl⟩
      simp only [Act.put, List.setIfInBounds_toArray, List.set_cons_zero, List.set_cons_succ]
      refine' wpT_det (o := ⟨some 18, Op.fieldAddr 31 (Operand.tmp 17) 1, 0, "l06_integers.go:28", #[{ on := 11, ground := Ground.data }, { on := 9, ground := Ground.guard }], some (9, false)⟩) rfl (by rfl) (by rfl) (fun w' hw' => ?_) ?_; rotate_left
      · go_simp <;> first | rfl | exact ⟨rfl, rfl⟩
      simp only [Act.put, List.setIfInBounds_toArray, List.set_cons_zero, List.set_cons_succ]
      refine' wpT_det (o := ⟨some 19, Op.load 2 (Operand.tmp 18), 2, "l06_integers.go:28", #[{ on := 12, ground := Ground.data }, { on := 9, ground := Ground.guard }], some (9, false)⟩) rfl (by rfl) (by rfl) (fun w' hw' => ?_) ?_; rotate_left
      · have h0_ := Ext.cell hw' h0; have h1_ := Ext.cell hw' h1; have h2_ := Ext.cell hw' h2; have g0_ := Ext.cell hw' g0; have g1_ := Ext.cell hw' g1; have g2_ := Ext.cell hw' g2; go_simp <;> first | rfl | exact ⟨rfl, rfl⟩
      simp only [Act.put, List.setIfInBounds_toArray, List.set_cons_zero, List.set_cons_succ]
      refine' wpT_det (o := ⟨some 20, Op.move (Operand.tmp 1), 62, "l06_integers.go:28", #[{ on := 9, ground := Ground.guard }], some (9, false)⟩) rfl (by rfl) (by rfl) (fun w' hw' => ?_) ?_; rotate_left
      · go_simp <;> first | rfl | exact ⟨rfl, rfl⟩
      simp only [Act.put, List.setIfInBounds_toArray, List.set_cons_zero, List.set_cons_succ]
      refine' wpT_det (o := ⟨some 21, Op.nilCheck (Operand.tmp 20), 0, "l06_integers.go:28", #[{ on := 14, ground := Ground.data }, { on := 9, ground := Ground.guard }], some (9, false)⟩) rfl (by rfl) (by rfl) (fun w' hw' => ?_) ?_; rotate_left
      · go_simp <;> first | rfl | exact ⟨rfl, rfl⟩
      simp only [Act.put, List.setIfInBounds_toArray, List.set_cons_zero, List.set_cons_succ]
      refine' wpT_det (o := ⟨some 22, Op.fieldAddr 31 (Operand.tmp 21) 1, 0, "l06_integers.go:28", #[{ on := 15, ground := Ground.data }, { on := 9, ground := Ground.guard }], some (9, false)⟩) rfl (by rfl) (by rfl) (fun w' hw' => ?_) ?_; rotate_left
      · go_simp <;> first | rfl | exact ⟨rfl, rfl⟩
      simp only [Act.put, List.setIfInBounds_toArray, List.set_cons_zero, List.set_cons_succ]
      refine' wpT_det (o := ⟨some 23, Op.load 2 (Operand.tmp 22), 2, "l06_integers.go:28", #[{ on := 16, ground := Ground.data }, { on := 9, ground := Ground.guard }], some (9, false)⟩) rfl (by rfl) (by rfl) (fun w' hw' => ?_) ?_; rotate_left
      · have h0_ := Ext.cell hw' h0; have h1_ := Ext.cell hw' h1; have h2_ := Ext.cell hw' h2; have g0_ := Ext.cell hw' g0; have g1_ := Ext.cell hw' g1; have g2_ := Ext.cell hw' g2; go_simp <;> first | rfl | exact ⟨rfl, rfl⟩
      simp only [Act.put, List.setIfInBounds_toArray, List.set_cons_zero, List.set_cons_succ]
      refine' wpT_det (o := ⟨some 24, Op.binOp BinOp.neq 2 (Operand.tmp 19) (Operand.tmp 23) 2, 4, "l06_integers.go:28", #[{ on := 13, ground := Ground.data }, { on := 17, ground := Ground.data }, { on := 9, ground := Ground.guard }], some (9, false)⟩) rfl (by rfl) (by rfl) (fun w' hw' => ?_) ?_; rotate_left
      · go_simp <;> first | rfl | exact ⟨rfl, rfl⟩
      simp only [Act.put, List.setIfInBounds_toArray, List.set_cons_zero, List.set_cons_succ]
      refine' wpT_det (o := ⟨some 25, Op.pick (Operand.tmp 15) (Operand.const (Value.bool true)) (Operand.tmp 24), 4, "l06_integers.go:28", #[{ on := 9, ground := Ground.data }, { on := 18, ground := Ground.data }], none⟩) rfl (by rfl) (by rfl) (fun w' hw' => ?_) ?_; rotate_left
      · go_simp <;> first | rfl | exact ⟨rfl, rfl⟩
      simp only [Act.put, List.setIfInBounds_toArray, List.set_cons_zero, List.set_cons_succ]
      refine' wpT_det (o := ⟨some 26, Op.move (Operand.tmp 25), 4, "l06_integers.go:28", #[{ on := 19, ground := Ground.data }, { on := 9, ground := Ground.chain }], none⟩) rfl (by rfl) (by rfl) (fun w' hw' => ?_) ?_; rotate_left
      · go_simp <;> first | rfl | exact ⟨rfl, rfl⟩
      simp only [Act.put, List.setIfInBounds_toArray, List.set_cons_zero, List.set_cons_succ]
      refine wpT_skip (o := ⟨some 27, Op.move (Operand.tmp 0), 62, "l06_integers.go:28", #[{ on := 20, ground := Ground.guard }], some (20, false)⟩) rfl (by rfl) ?_
      simp only [Act.put, List.setIfInBounds_toArray, List.set_cons_zero, List.set_cons_succ]
      refine wpT_skip (o := ⟨some 28, Op.nilCheck (Operand.tmp 27), 0, "l06_integers.go:28", #[{ on := 21, ground := Ground.data }, { on := 20, ground := Ground.guard }], some (20, false)⟩) rfl (by rfl) ?_
      simp only [Act.put, List.setIfInBounds_toArray, List.set_cons_zero, List.set_cons_succ]
      refine wpT_skip (o := ⟨some 29, Op.fieldAddr 31 (Operand.tmp 28) 2, 0, "l06_integers.go:28", #[{ on := 22, ground := Ground.data }, { on := 20, ground := Ground.guard }], some (20, false)⟩) rfl (by rfl) ?_
      simp only [Act.put, List.setIfInBounds_toArray, List.set_cons_zero, List.set_cons_succ]
      refine wpT_skip (o := ⟨some 30, Op.load 26 (Operand.tmp 29), 26, "l06_integers.go:28", #[{ on := 23, ground := Ground.data }, { on := 20, ground := Ground.guard }], some (20, false)⟩) rfl (by rfl) ?_
      simp only [Act.put, List.setIfInBounds_toArray, List.set_cons_zero, List.set_cons_succ]
      refine wpT_skip (o := ⟨some 31, Op.call { callee := Callee.builtin Builtin.len, args := #[Operand.tmp 30], argTypes := #[26] }, 3, "l06_integers.go:28", #[{ on := 24, ground := Ground.data }, { on := 20, ground := Ground.guard }], some (20, false)⟩) rfl (by rfl) ?_
      simp only [Act.put, List.setIfInBounds_toArray, List.set_cons_zero, List.set_cons_succ]
      refine wpT_skip (o := ⟨some 32, Op.move (Operand.tmp 1), 62, "l06_integers.go:28", #[{ on := 20, ground := Ground.guard }], some (20, false)⟩) rfl (by rfl) ?_
      simp only [Act.put, List.setIfInBounds_toArray, List.set_cons_zero, List.set_cons_succ]
      refine wpT_skip (o := ⟨some 33, Op.nilCheck (Operand.tmp 32), 0, "l06_integers.go:28", #[{ on := 26, ground := Ground.data }, { on := 20, ground := Ground.guard }], some (20, false)⟩) rfl (by rfl) ?_
      simp only [Act.put, List.setIfInBounds_toArray, List.set_cons_zero, List.set_cons_succ]
      refine wpT_skip (o := ⟨some 34, Op.fieldAddr 31 (Operand.tmp 33) 2, 0, "l06_integers.go:28", #[{ on := 27, ground := Ground.data }, { on := 20, ground := Ground.guard }], some (20, false)⟩) rfl (by rfl) ?_
      simp only [Act.put, List.setIfInBounds_toArray, List.set_cons_zero, List.set_cons_succ]
      refine wpT_skip (o := ⟨some 35, Op.load 26 (Operand.tmp 34), 26, "l06_integers.go:28", #[{ on := 28, ground := Ground.data }, { on := 20, ground := Ground.guard }], some (20, false)⟩) rfl (by rfl) ?_
      simp only [Act.put, List.setIfInBounds_toArray, List.set_cons_zero, List.set_cons_succ]
      refine wpT_skip (o := ⟨some 36, Op.call { callee := Callee.builtin Builtin.len, args := #[Operand.tmp 35], argTypes := #[26] }, 3, "l06_integers.go:28", #[{ on := 29, ground := Ground.data }, { on := 20, ground := Ground.guard }], some (20, false)⟩) rfl (by rfl) ?_
      simp only [Act.put, List.setIfInBounds_toArray, List.set_cons_zero, List.set_cons_succ]
      refine wpT_skip (o := ⟨some 37, Op.binOp BinOp.neq 3 (Operand.tmp 31) (Operand.tmp 36) 3, 4, "l06_integers.go:28", #[{ on := 25, ground := Ground.data }, { on := 30, ground := Ground.data }, { on := 20, ground := Ground.guard }], some (20, false)⟩) rfl (by rfl) ?_
      simp only [Act.put, List.setIfInBounds_toArray, List.set_cons_zero, List.set_cons_succ]
      refine' wpT_det (o := ⟨some 38, Op.pick (Operand.tmp 26) (Operand.const (Value.bool true)) (Operand.tmp 37), 4, "l06_integers.go:28", #[{ on := 20, ground := Ground.data }, { on := 31, ground := Ground.data }], none⟩) rfl (by rfl) (by rfl) (fun w' hw' => ?_) ?_; rotate_left
      · go_simp <;> first | rfl | exact ⟨rfl, rfl⟩
      simp only [Act.put, List.setIfInBounds_toArray, List.set_cons_zero, List.set_cons_succ]
      refine wpT_nil (fun w' hw' hF => ?_)
      refine wpList_nil ?_
      go_wp2_with fail
      go_ret
      exact ⟨ret_bool (by rw [Hres.out, decide_eq_false e2]; simp), hw'.undrew⟩
  · have d1 : (r != r') = true := by simp [e1]
    go_enter Try.func69, Try.ntmps69
    go_wp2_with fail
    refine wp_region_T [0, 1, 2, 3, 4, 5, 6, 7, 8, 9, 10, 11, 12, 13, 14, 15, 16, 17, 18, 19, 20, 21, 22, 23, 24, 25, 26, 27, 28, 29, 30, 31, 32] [] [] [] (fun _ _ => False) (fun _ _ _ => True) (by kernel_rfl) (by kernel_rfl) (fun _ _ _ _ _ _ => trivial) ?_
    refine' wpT_det (o := ⟨some 6, Op.move (Operand.tmp 0), 62, "l06_integers.go:28", #[], none⟩) rfl (by rfl) (by rfl) (fun w' hw' => ?_) ?_; rotate_left
    · go_simp <;> first | rfl | exact ⟨rfl, rfl⟩
    simp only [Act.put, List.setIfInBounds_toArray, List.set_cons_zero, List.set_cons_succ]
    refine' wpT_det (o := ⟨some 7, Op.nilCheck (Operand.tmp 6), 0, "l06_integers.go:28", #[{ on := 0, ground := Ground.data }], none⟩) rfl (by rfl) (by rfl) (fun w' hw' => ?_) ?_; rotate_left
    · go_simp <;> first | rfl | exact ⟨rfl, rfl⟩
    simp only [Act.put, List.setIfInBounds_toArray, List.set_cons_zero, List.set_cons_succ]
    refine' wpT_det (o := ⟨some 8, Op.fieldAddr 31 (Operand.tmp 7) 0, 0, "l06_integers.go:28", #[{ on := 1, ground := Ground.data }], none⟩) rfl (by rfl) (by rfl) (fun w' hw' => ?_) ?_; rotate_left
    · go_simp <;> first | rfl | exact ⟨rfl, rfl⟩
    simp only [Act.put, List.setIfInBounds_toArray, List.set_cons_zero, List.set_cons_succ]
    refine' wpT_det (o := ⟨some 9, Op.load 2 (Operand.tmp 8), 2, "l06_integers.go:28", #[{ on := 2, ground := Ground.data }], none⟩) rfl (by rfl) (by rfl) (fun w' hw' => ?_) ?_; rotate_left
    · have h0_ := Ext.cell hw' h0; have h1_ := Ext.cell hw' h1; have h2_ := Ext.cell hw' h2; have g0_ := Ext.cell hw' g0; have g1_ := Ext.cell hw' g1; have g2_ := Ext.cell hw' g2; go_simp <;> first | rfl | exact ⟨rfl, rfl⟩
    simp only [Act.put, List.setIfInBounds_toArray, List.set_cons_zero, List.set_cons_succ]
    refine' wpT_det (o := ⟨some 10, Op.move (Operand.tmp 1), 62, "l06_integers.go:28", #[], none⟩) rfl (by rfl) (by rfl) (fun w' hw' => ?_) ?_; rotate_left
    · go_simp <;> first | rfl | exact ⟨rfl, rfl⟩
    simp only [Act.put, List.setIfInBounds_toArray, List.set_cons_zero, List.set_cons_succ]
    refine' wpT_det (o := ⟨some 11, Op.nilCheck (Operand.tmp 10), 0, "l06_integers.go:28", #[{ on := 4, ground := Ground.data }], none⟩) rfl (by rfl) (by rfl) (fun w' hw' => ?_) ?_; rotate_left
    · go_simp <;> first | rfl | exact ⟨rfl, rfl⟩
    simp only [Act.put, List.setIfInBounds_toArray, List.set_cons_zero, List.set_cons_succ]
    refine' wpT_det (o := ⟨some 12, Op.fieldAddr 31 (Operand.tmp 11) 0, 0, "l06_integers.go:28", #[{ on := 5, ground := Ground.data }], none⟩) rfl (by rfl) (by rfl) (fun w' hw' => ?_) ?_; rotate_left
    · go_simp <;> first | rfl | exact ⟨rfl, rfl⟩
    simp only [Act.put, List.setIfInBounds_toArray, List.set_cons_zero, List.set_cons_succ]
    refine' wpT_det (o := ⟨some 13, Op.load 2 (Operand.tmp 12), 2, "l06_integers.go:28", #[{ on := 6, ground := Ground.data }], none⟩) rfl (by rfl) (by rfl) (fun w' hw' => ?_) ?_; rotate_left
    · have h0_ := Ext.cell hw' h0; have h1_ := Ext.cell hw' h1; have h2_ := Ext.cell hw' h2; have g0_ := Ext.cell hw' g0; have g1_ := Ext.cell hw' g1; have g2_ := Ext.cell hw' g2; go_simp <;> first | rfl | exact ⟨rfl, rfl⟩
    simp only [Act.put, List.setIfInBounds_toArray, List.set_cons_zero, List.set_cons_succ]
    refine' wpT_det (o := ⟨some 14, Op.binOp BinOp.neq 2 (Operand.tmp 9) (Operand.tmp 13) 2, 4, "l06_integers.go:28", #[{ on := 3, ground := Ground.data }, { on := 7, ground := Ground.data }], none⟩) rfl (by rfl) (by rfl) (fun w' hw' => ?_) ?_; rotate_left
    · go_simp <;> first | rfl | exact ⟨rfl, rfl⟩
    simp only [Act.put, List.setIfInBounds_toArray, List.set_cons_zero, List.set_cons_succ]
    refine' wpT_det (o := ⟨some 15, Op.move (Operand.tmp 14), 4, "l06_integers.go:28", #[{ on := 8, ground := Ground.data }], none⟩) rfl (by rfl) (by rfl) (fun w' hw' => ?_) ?_; rotate_left
    · go_simp <;> first | rfl | exact ⟨rfl, rfl⟩
    simp only [Act.put, List.setIfInBounds_toArray, List.set_cons_zero, List.set_cons_succ]
    refine wpT_skip (o := ⟨some 16, Op.move (Operand.tmp 0), 62, "l06_integers.go:28", #[{ on := 9, ground := Ground.guard }], some (9, false)⟩) rfl (by rfl) ?_
    simp only [Act.put, List.setIfInBounds_toArray, List.set_cons_zero, List.set_cons_succ]
    refine wpT_skip (o := ⟨some 17, Op.nilCheck (Operand.tmp 16), 0, "l06_integers.go:28", #[{ on := 10, ground := Ground.data }, { on := 9, ground := Ground.guard }], some (9, false)⟩) rfl (by rfl) ?_
    simp only [Act.put, List.setIfInBounds_toArray, List.set_cons_zero, List.set_cons_succ]
    refine wpT_skip (o := ⟨some 18, Op.fieldAddr 31 (Operand.tmp 17) 1, 0, "l06_integers.go:28", #[{ on := 11, ground := Ground.data }, { on := 9, ground := Ground.guard }], some (9, false)⟩) rfl (by rfl) ?_
    simp only [Act.put, List.setIfInBounds_toArray, List.set_cons_zero, List.set_cons_succ]
    refine wpT_skip (o := ⟨some 19, Op.load 2 (Operand.tmp 18), 2, "l06_integers.go:28", #[{ on := 12, ground := Ground.data }, { on := 9, ground := Ground.guard }], some (9, false)⟩) rfl (by rfl) ?_
    simp only [Act.put, List.setIfInBounds_toArray, List.set_cons_zero, List.set_cons_succ]
    refine wpT_skip (o := ⟨some 20, Op.move (Operand.tmp 1), 62, "l06_integers.go:28", #[{ on := 9, ground := Ground.guard }], some (9, false)⟩) rfl (by rfl) ?_
    simp only [Act.put, List.setIfInBounds_toArray, List.set_cons_zero, List.set_cons_succ]
    refine wpT_skip (o := ⟨some 21, Op.nilCheck (Operand.tmp 20), 0, "l06_integers.go:28", #[{ on := 14, ground := Ground.data }, { on := 9, ground := Ground.guard }], some (9, false)⟩) rfl (by rfl) ?_
    simp only [Act.put, List.setIfInBounds_toArray, List.set_cons_zero, List.set_cons_succ]
    refine wpT_skip (o := ⟨some 22, Op.fieldAddr 31 (Operand.tmp 21) 1, 0, "l06_integers.go:28", #[{ on := 15, ground := Ground.data }, { on := 9, ground := Ground.guard }], some (9, false)⟩) rfl (by rfl) ?_
    simp only [Act.put, List.setIfInBounds_toArray, List.set_cons_zero, List.set_cons_succ]
    refine wpT_skip (o := ⟨some 23, Op.load 2 (Operand.tmp 22), 2, "l06_integers.go:28", #[{ on := 16, ground := Ground.data }, { on := 9, ground := Ground.guard }], some (9, false)⟩) rfl (by rfl) ?_
    simp only [Act.put, List.setIfInBounds_toArray, List.set_cons_zero, List.set_cons_succ]
    refine wpT_skip (o := ⟨some 24, Op.binOp BinOp.neq 2 (Operand.tmp 19) (Operand.tmp 23) 2, 4, "l06_integers.go:28", #[{ on := 13, ground := Ground.data }, { on := 17, ground := Ground.data }, { on := 9, ground := Ground.guard }], some (9, false)⟩) rfl (by rfl) ?_
    simp only [Act.put, List.setIfInBounds_toArray, List.set_cons_zero, List.set_cons_succ]
    refine' wpT_det (o := ⟨some 25, Op.pick (Operand.tmp 15) (Operand.const (Value.bool true)) (Operand.tmp 24), 4, "l06_integers.go:28", #[{ on := 9, ground := Ground.data }, { on := 18, ground := Ground.data }], none⟩) rfl (by rfl) (by rfl) (fun w' hw' => ?_) ?_; rotate_left
    · go_simp <;> first | rfl | exact ⟨rfl, rfl⟩
    simp only [Act.put, List.setIfInBounds_toArray, List.set_cons_zero, List.set_cons_succ]
    refine' wpT_det (o := ⟨some 26, Op.move (Operand.tmp 25), 4, "l06_integers.go:28", #[{ on := 19, ground := Ground.data }, { on := 9, ground := Ground.chain }], none⟩) rfl (by rfl) (by rfl) (fun w' hw' => ?_) ?_; rotate_left
    · go_simp <;> first | rfl | exact ⟨rfl, rfl⟩
    simp only [Act.put, List.setIfInBounds_toArray, List.set_cons_zero, List.set_cons_succ]
    refine wpT_skip (o := ⟨some 27, Op.move (Operand.tmp 0), 62, "l06_integers.go:28", #[{ on := 20, ground := Ground.guard }], some (20, false)⟩) rfl (by rfl) ?_
    simp only [Act.put, List.setIfInBounds_toArray, List.set_cons_zero, List.set_cons_succ]
    refine wpT_skip (o := ⟨some 28, Op.nilCheck (Operand.tmp 27), 0, "l06_integers.go:28", #[{ on := 21, ground := Ground.data }, { on := 20, ground := Ground.guard }], some (20, false)⟩) rfl (by rfl) ?_
    simp only [Act.put, List.setIfInBounds_toArray, List.set_cons_zero, List.set_cons_succ]
    refine wpT_skip (o := ⟨some 29, Op.fieldAddr 31 (Operand.tmp 28) 2, 0, "l06_integers.go:28", #[{ on := 22, ground := Ground.data }, { on := 20, ground := Ground.guard }], some (20, false)⟩) rfl (by rfl) ?_
    simp only [Act.put, List.setIfInBounds_toArray, List.set_cons_zero, List.set_cons_succ]
    refine wpT_skip (o := ⟨some 30, Op.load 26 (Operand.tmp 29), 26, "l06_integers.go:28", #[{ on := 23, ground := Ground.data }, { on := 20, ground := Ground.guard }], some (20, false)⟩) rfl (by rfl) ?_
    simp only [Act.put, List.setIfInBounds_toArray, List.set_cons_zero, List.set_cons_succ]
    refine wpT_skip (o := ⟨some 31, Op.call { callee := Callee.builtin Builtin.len, args := #[Operand.tmp 30], argTypes := #[26] }, 3, "l06_integers.go:28", #[{ on := 24, ground := Ground.data }, { on := 20, ground := Ground.guard }], some (20, false)⟩) rfl (by rfl) ?_
    simp only [Act.put, List.setIfInBounds_toArray, List.set_cons_zero, List.set_cons_succ]
    refine wpT_skip (o := ⟨some 32, Op.move (Operand.tmp 1), 62, "l06_integers.go:28", #[{ on := 20, ground := Ground.guard }], some (20, false)⟩) rfl (by rfl) ?_
    simp only [Act.put, List.setIfInBounds_toArray, List.set_cons_zero, List.set_cons_succ]
    refine wpT_skip (o := ⟨some 33, Op.nilCheck (Operand.tmp 32), 0, "l06_integers.go:28", #[{ on := 26, ground := Ground.data }, { on := 20, ground := Ground.guard }], some (20, false)⟩) rfl (by rfl) ?_
    simp only [Act.put, List.setIfInBounds_toArray, List.set_cons_zero, List.set_cons_succ]
    refine wpT_skip (o := ⟨some 34, Op.fieldAddr 31 (Operand.tmp 33) 2, 0, "l06_integers.go:28", #[{ on := 27, ground := Ground.data }, { on := 20, ground := Ground.guard }], some (20, false)⟩) rfl (by rfl) ?_
    simp only [Act.put, List.setIfInBounds_toArray, List.set_cons_zero, List.set_cons_succ]
    refine wpT_skip (o := ⟨some 35, Op.load 26 (Operand.tmp 34), 26, "l06_integers.go:28", #[{ on := 28, ground := Ground.data }, { on := 20, ground := Ground.guard }], some (20, false)⟩) rfl (by rfl) ?_
    simp only [Act.put, List.setIfInBounds_toArray, List.set_cons_zero, List.set_cons_succ]
    refine wpT_skip (o := ⟨some 36, Op.call { callee := Callee.builtin Builtin.len, args := #[Operand.tmp 35], argTypes := #[26] }, 3, "l06_integers.go:28", #[{ on := 29, ground := Ground.data }, { on := 20, ground := Ground.guard }], some (20, false)⟩) rfl (by rfl) ?_
    simp only [Act.put, List.setIfInBounds_toArray, List.set_cons_zero, List.set_cons_succ]
    refine wpT_skip (o := ⟨some 37, Op.binOp BinOp.neq 3 (Operand.tmp 31) (Operand.tmp 36) 3, 4, "l06_integers.go:28", #[{ on := 25, ground := Ground.data }, { on := 30, ground := Ground.data }, { on := 20, ground := Ground.guard }], some (20, false)⟩) rfl (by rfl) ?_
    simp only [Act.put, List.setIfInBounds_toArray, List.set_cons_zero, List.set_cons_succ]
    refine' wpT_det (o := ⟨some 38, Op.pick (Operand.tmp 26) (Operand.const (Value.bool true)) (Operand.tmp 37), 4, "l06_integers.go:28", #[{ on := 20, ground := Ground.data }, { on := 31, ground := Ground.data }], none⟩) rfl (by rfl) (by rfl) (fun w' hw' => ?_) ?_; rotate_left
    · go_simp <;> first | rfl | exact ⟨rfl, rfl⟩
    simp only [Act.put, List.setIfInBounds_toArray, List.set_cons_zero, List.set_cons_succ]
    refine wpT_nil (fun w' hw' hF => ?_)
    refine wpList_nil ?_
    go_wp2_with fail
    go_ret
    exact ⟨ret_bool (by rw [Hres.out, decide_eq_false e1]; simp), hw'.undrew⟩

set_option maxHeartbeats 1000000 in
theorem specSameWhole_any (r c : Int) (A : Option Addr) (n cap : Nat) (r' c' : Int) (B : Option Addr) (m cap' : Nat) (xs ys : List Int) (w : World) (hr : Rds w A n (ints xs)) (hq : Rds w B m (ints ys)) :
    Calls Try.prog 25 #[.agg #[.int .i64 r, .int .i64 c, .slice A n cap], .agg #[.int .i64 r', .int .i64 c', .slice B m cap']] w fun e w' => e = .returned (.bool (eqWB r c r' c' xs ys)) ∧ Ext w w' := by
  go_enter Try.func25, Try.ntmps25
  go_wp2_with fail
  have hx0 : Ext w ((w.alloc (.cells #[.int .i64 r, .int .i64 c, .slice A n cap] 31)).alloc (.cells #[.int .i64 r', .int .i64 c', .slice B m cap'] 31)) := ((Ext.refl _).alloc _).alloc _
  refine (l06Same_any _ _ r c A n cap r' c' B m cap' xs ys _ (by simp) (by simp) (by simp) (by simp) (by simp) (by simp) (hr.below hx0) (hq.below hx0)).mono ?_
  rintro e w1 ⟨rfl, hx⟩
  go_wp2_with fail
  go_ret
  exact ⟨rfl, hx0.trans hx⟩

end Go.Proofs.Ytcfimkjkolgboaa
