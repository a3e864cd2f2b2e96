import Derived.Test.YtcfimkjkolgboaaD1
set_option linter.unusedVariables false
set_option linter.unusedSimpArgs false
namespace Go.Proofs.Ytcfimkjkolgboaa
open Go.RowKit

set_option maxHeartbeats 8000000 in
theorem law_SameWhole (r1 : Int) (c1 : Int) (A1 : Option Addr) (n1 cap1 : Nat) (xs1 : List Int) (r2 : Int) (c2 : Int) (A2 : Option Addr) (n2 cap2 : Nat) (xs2 : List Int) (w : World) (hr1 : Rds w A1 n1 (ints xs1)) (hr2 : Rds w A2 n2 (ints xs2)) :
    Calls Try.prog 6 #[.agg #[.int .i64 r1, .int .i64 c1, .slice A1 n1 cap1], .agg #[.int .i64 r2, .int .i64 c2, .slice A2 n2 cap2]] w fun e w' => e = .returned (.bool true) ∧ Ext w w' := by
  have hs_hr1 := hr1.small
  have hs_hr2 := hr2.small
  obtain ⟨w0, hw0⟩ : ∃ w0 : World, w0 = ((w.alloc (.cells #[.int .i64 r1, .int .i64 c1, .slice A1 n1 cap1] 28)).alloc (.cells #[.int .i64 r2, .int .i64 c2, .slice A2 n2 cap2] 28)) := ⟨_, rfl⟩
  have b0 : Blk w0 (w.heap.size) #[.int .i64 r1, .int .i64 c1, .slice A1 n1 cap1] 28 := by subst hw0; simpa using (Blk.new w #[.int .i64 r1, .int .i64 c1, .slice A1 n1 cap1] 28).ext ((Ext.refl _).alloc _)
  have b1 : Blk w0 (w.heap.size + 1) #[.int .i64 r2, .int .i64 c2, .slice A2 n2 cap2] 28 := by subst hw0; simpa using (Blk.new (w.alloc (.cells #[.int .i64 r1, .int .i64 c1, .slice A1 n1 cap1] 28)) #[.int .i64 r2, .int .i64 c2, .slice A2 n2 cap2] 28)
  have hx0 : Ext w w0 := by subst hw0; exact ((Ext.refl _).alloc _).alloc _
  have Hw0 := Lib.hid hw0
  clear hw0
  have hr10 := hr1; replace hr1 := hr1.below hx0
  have hr20 := hr2; replace hr2 := hr2.below hx0
  by_cases hn0 : n1 ≤ 1048576
  rotate_left
  · have HS0 : Hid (szL (n1) (1048576) = -1) := by show szL _ _ = -1; unfold szL; rw [if_pos (by omega)]
    go_enter Try.func6, Try.ntmps6
    have zb0_0 := b0.cell 0 rfl
    have zb0_1 := b0.cell 1 rfl
    have zb0_2 := b0.cell 2 rfl
    go_wp2_with fail
    rw [← Hw0.out]
    clear zb0_0 zb0_1 zb0_2
    refine (szWhole_any r1 c1 A1 n1 cap1 1048576 (by omega) (by omega) _).mono ?_
    rw [HS0.out]
    rintro e w1 ⟨rfl, hx⟩
    replace b0 := b0.ext hx
    replace b1 := b1.ext hx
    replace hr1 := hr1.below hx
    replace hr2 := hr2.below hx
    replace hx0 := hx0.trans hx
    clear hx
    go_wp2_with fail
    go_ret
    exact ⟨rfl, hx0⟩
  have HS0 : Hid (szL (n1) (1048576) = 1048576 - (n1 : Int)) := by show szL _ _ = _; unfold szL; rw [if_neg (by omega)]
  by_cases hn1 : n1 + n2 ≤ 1048576
  rotate_left
  · have HS1 : Hid (szL (n2) (1048576 - (n1 : Int)) = -1) := by show szL _ _ = -1; unfold szL; rw [if_pos (by omega)]
    go_enter Try.func6, Try.ntmps6
    have zb0_0 := b0.cell 0 rfl
    have zb0_1 := b0.cell 1 rfl
    have zb0_2 := b0.cell 2 rfl
    go_wp2_with fail
    rw [← Hw0.out]
    clear zb0_0 zb0_1 zb0_2
    refine (szWhole_any r1 c1 A1 n1 cap1 1048576 (by omega) (by omega) _).mono ?_
    rw [HS0.out]
    rintro e w1 ⟨rfl, hx⟩
    replace b0 := b0.ext hx
    replace b1 := b1.ext hx
    replace hr1 := hr1.below hx
    replace hr2 := hr2.below hx
    replace hx0 := hx0.trans hx
    clear hx
    have zb1_0 := b1.cell 0 rfl
    have zb1_1 := b1.cell 1 rfl
    have zb1_2 := b1.cell 2 rfl
    go_wp2_with fail
    clear zb1_0 zb1_1 zb1_2
    refine (szWhole_any r2 c2 A2 n2 cap2 (1048576 - n1) (by omega) (by omega) _).mono ?_
    rw [HS1.out]
    rintro e w2 ⟨rfl, hx⟩
    replace b0 := b0.ext hx
    replace b1 := b1.ext hx
    replace hr1 := hr1.below hx
    replace hr2 := hr2.below hx
    replace hx0 := hx0.trans hx
    clear hx
    go_wp2_with fail
    go_ret
    exact ⟨rfl, hx0⟩
  have HS1 : Hid (szL (n2) (1048576 - (n1 : Int)) = 1048576 - (n1 : Int) - (n2 : Int)) := by show szL _ _ = _; unfold szL; rw [if_neg (by omega)]
  go_enter Try.func6, Try.ntmps6
  have zb0_0 := b0.cell 0 rfl
  have zb0_1 := b0.cell 1 rfl
  have zb0_2 := b0.cell 2 rfl
  go_wp2_with fail
  rw [← Hw0.out]
  clear zb0_0 zb0_1 zb0_2
  refine (szWhole_any r1 c1 A1 n1 cap1 1048576 (by omega) (by omega) _).mono ?_
  rw [HS0.out]
  rintro e w1 ⟨rfl, hx⟩
  replace b0 := b0.ext hx
  replace b1 := b1.ext hx
  replace hr1 := hr1.below hx
  replace hr2 := hr2.below hx
  replace hx0 := hx0.trans hx
  clear hx
  have zb1_0 := b1.cell 0 rfl
  have zb1_1 := b1.cell 1 rfl
  have zb1_2 := b1.cell 2 rfl
  go_wp2_with fail
  clear zb1_0 zb1_1 zb1_2
  refine (szWhole_any r2 c2 A2 n2 cap2 (1048576 - n1) (by omega) (by omega) _).mono ?_
  rw [HS1.out]
  rintro e w2 ⟨rfl, hx⟩
  replace b0 := b0.ext hx
  replace b1 := b1.ext hx
  replace hr1 := hr1.below hx
  replace hr2 := hr2.below hx
  replace hx0 := hx0.trans hx
  clear hx
  go_wp2_with fail
  have zb0_0 := b0.cell 0 rfl
  have zb0_1 := b0.cell 1 rfl
  have zb0_2 := b0.cell 2 rfl
  have zb1_0 := b1.cell 0 rfl
  have zb1_1 := b1.cell 1 rfl
  have zb1_2 := b1.cell 2 rfl
  refine wp_region_T [0, 1, 2, 3, 4, 5] [] [1, 3, 4] [(4, [1, 3])] (fun i v => match i with | 1 => ∃ (A3 : Option Addr) (k4 : Nat), v = (.agg #[.int .i64 r1, .int .i64 c1, .slice A3 n1 k4]) | 3 => ∃ (A6 : Option Addr) (k7 : Nat), v = (.agg #[.int .i64 r2, .int .i64 c2, .slice A6 n2 k7]) | 4 => v = (.bool (eqWB r1 c1 r2 c2 xs1 xs2)) | _ => False) (fun i v w' => match i with | 1 => RdsF w' v [2] (ints xs1) | 3 => RdsF w' v [2] (ints xs2) | _ => True) (by kernel_rfl) (by kernel_rfl) (by intro i v w' w2 h hx; revert h; (try dsimp only); split <;> intro h <;> first | trivial | exact RdsF.ext h hx | exact OwnF.ext h hx | exact BlkF.ext h hx | exact ⟨RdsF.ext h.1 hx, RdsF.ext h.2 hx⟩ | exact ⟨OwnF.ext h.1 hx, OwnF.ext h.2 hx⟩ | exact ⟨RdsF.ext h.1 hx, RdsF.ext h.2.1 hx, RdsF.ext h.2.2 hx⟩ | exact ⟨OwnF.ext h.1 hx, OwnF.ext h.2.1 hx, OwnF.ext h.2.2 hx⟩) ?_
  refine' wpT_det (o := ⟨some 20, Op.load 28 (Operand.tmp 2), 28, "exact.go:5720", #[], none⟩) rfl (by rfl) (by rfl) (fun w' hw' => ?_) ?_; rotate_left
  · have zb0_0_ := Ext.cell hw' zb0_0; have zb0_1_ := Ext.cell hw' zb0_1; have zb0_2_ := Ext.cell hw' zb0_2; have zb1_0_ := Ext.cell hw' zb1_0; have zb1_1_ := Ext.cell hw' zb1_1; have zb1_2_ := Ext.cell hw' zb1_2; go_simp <;> first | rfl | exact ⟨rfl, rfl⟩
  simp only [Act.put, List.setIfInBounds_toArray, List.set_cons_zero, List.set_cons_succ]
  refine wpT_nd (o := ⟨some 21, Op.call { callee := Callee.value (Operand.func 26), args := #[Operand.tmp 20], argTypes := #[28] }, 31, "exact.go:5720", #[{ on := 0, ground := Ground.data }], none⟩) rfl (by rfl) (by rfl) (fun w' hw' hF R hR => ?_) ⟨_, none, 0, rfl⟩ ?_
  · go_simp
    refine gives_enter rfl ?_
    refine (toWhole_any r1 c1 A1 n1 cap1 xs1 _ (hr1.below hw'.undrew) (by omega)).mono ?_
    rintro e w2 ⟨A3, k4, rfl, o5, hx⟩
    exact ⟨_, rfl, hR _ _ hx ⟨_, _, rfl⟩ (RdsF.of o5.reads rfl)⟩
  rintro _ ⟨A3, k4, rfl⟩
  simp only [Act.put, List.setIfInBounds_toArray, List.set_cons_zero, List.set_cons_succ]
  refine' wpT_det (o := ⟨some 22, Op.load 28 (Operand.tmp 3), 28, "exact.go:5720", #[], none⟩) rfl (by rfl) (by rfl) (fun w' hw' => ?_) ?_; rotate_left
  · have zb0_0_ := Ext.cell hw' zb0_0; have zb0_1_ := Ext.cell hw' zb0_1; have zb0_2_ := Ext.cell hw' zb0_2; have zb1_0_ := Ext.cell hw' zb1_0; have zb1_1_ := Ext.cell hw' zb1_1; have zb1_2_ := Ext.cell hw' zb1_2; go_simp <;> first | rfl | exact ⟨rfl, rfl⟩
  simp only [Act.put, List.setIfInBounds_toArray, List.set_cons_zero, List.set_cons_succ]
  refine wpT_nd (o := ⟨some 23, Op.call { callee := Callee.value (Operand.func 26), args := #[Operand.tmp 22], argTypes := #[28] }, 31, "exact.go:5720", #[{ on := 2, ground := Ground.data }, { on := 1, ground := Ground.chain }], none⟩) rfl (by rfl) (by rfl) (fun w' hw' hF R hR => ?_) ⟨_, none, 0, rfl⟩ ?_
  · go_simp
    refine gives_enter rfl ?_
    refine (toWhole_any r2 c2 A2 n2 cap2 xs2 _ (hr2.below hw'.undrew) (by omega)).mono ?_
    rintro e w2 ⟨A6, k7, rfl, o8, hx⟩
    exact ⟨_, rfl, hR _ _ hx ⟨_, _, rfl⟩ (RdsF.of o8.reads rfl)⟩
  rintro _ ⟨A6, k7, rfl⟩
  simp only [Act.put, List.setIfInBounds_toArray, List.set_cons_zero, List.set_cons_succ]
  refine wpT_nd (o := ⟨some 24, Op.call { callee := Callee.value (Operand.func 25), args := #[Operand.tmp 21, Operand.tmp 23], argTypes := #[31, 31] }, 4, "exact.go:5720", #[{ on := 1, ground := Ground.data }, { on := 3, ground := Ground.data }, { on := 3, ground := Ground.chain }], none⟩) rfl (by rfl) (by rfl) (fun w' hw' hF R hR => ?_) ⟨_, rfl⟩ ?_
  · go_simp
    refine gives_enter rfl ?_
    refine (specSameWhole_any r1 c1 A3 n1 k4 r2 c2 A6 n2 k7 xs1 xs2 _ (hF 1 (by simp [uses]) _ rfl _ _ _ rfl) (hF 3 (by simp [uses]) _ rfl _ _ _ rfl)).mono ?_
    rintro e w2 ⟨rfl, hx⟩
    exact ⟨_, rfl, hR _ _ hx rfl trivial⟩
  intro v hv
  obtain rfl : v = (.bool (eqWB r1 c1 r2 c2 xs1 xs2)) := hv
  simp only [Act.put, List.setIfInBounds_toArray, List.set_cons_zero, List.set_cons_succ]
  refine' wpT_det (o := ⟨some 6, Op.assign (Operand.tmp 24), 4, "exact.go:5720", #[{ on := 4, ground := Ground.data }, { on := 4, ground := Ground.chain }, { on := 0, ground := Ground.phase }, { on := 1, ground := Ground.phase }, { on := 2, ground := Ground.phase }, { on := 3, ground := Ground.phase }, { on := 4, ground := Ground.phase }], none⟩) rfl (by rfl) (by rfl) (fun w' hw' => ?_) ?_; rotate_left
  · go_simp <;> first | rfl | exact ⟨rfl, rfl⟩
  simp only [Act.put, List.setIfInBounds_toArray, List.set_cons_zero, List.set_cons_succ]
  refine wpT_nil (fun w9 hw' hF => ?_)
  refine wpList_nil ?_
  clear zb0_0 zb0_1 zb0_2 zb1_0 zb1_1 zb1_2
  have hx := hw'.undrew; clear hw'
  clear hF
  replace b0 := b0.ext hx
  replace b1 := b1.ext hx
  replace hr1 := hr1.below hx
  replace hr2 := hr2.below hx
  replace hx0 := hx0.trans hx
  clear hx
  have zb0_0 := b0.cell 0 rfl
  have zb0_1 := b0.cell 1 rfl
  have zb0_2 := b0.cell 2 rfl
  go_wp2_with fail
  clear zb0_0 zb0_1 zb0_2
  have le_o12 : w.heap.size ≤ w9.heap.size := hx0.size
  refine (toWhole_any r1 c1 A1 n1 cap1 xs1 _ hr1 (by omega)).mono ?_
  rintro e w13 ⟨A10, k11, rfl, o12, hx⟩
  have hs_o12 := o12.small; simp only [ints_length] at hs_o12
  replace b0 := b0.ext hx
  replace b1 := b1.ext hx
  replace hr1 := hr1.below hx
  replace hr2 := hr2.below hx
  replace hx0 := hx0.trans hx
  clear hx
  have zb1_0 := b1.cell 0 rfl
  have zb1_1 := b1.cell 1 rfl
  have zb1_2 := b1.cell 2 rfl
  have qb1 := b1.lt
  go_wp2_with fail
  obtain ⟨w15, hw⟩ : ∃ v : World, v = (w13.alloc (.cells #[.int .i64 r1, .int .i64 c1, .slice A10 n1 k11] 31)) := ⟨_, rfl⟩
  rw [← hw]
  have hx : Ext w13 w15 := by subst hw; exact (Ext.refl _).alloc _
  have b14 : Blk w15 w13.heap.size #[.int .i64 r1, .int .i64 c1, .slice A10 n1 k11] 31 := by subst hw; exact Blk.new _ _ _
  clear hw
  replace b0 := b0.ext hx
  replace b1 := b1.ext hx
  replace hr1 := hr1.below hx
  replace hr2 := hr2.below hx
  replace o12 := o12.ext hx
  replace hx0 := hx0.trans hx
  clear hx
  clear zb1_0 zb1_1 zb1_2 qb1
  have le_o18 : w.heap.size ≤ w15.heap.size := hx0.size
  refine (toWhole_any r2 c2 A2 n2 cap2 xs2 _ hr2 (by omega)).mono ?_
  rintro e w19 ⟨A16, k17, rfl, o18, hx⟩
  have ne20 := o12.ne o18
  have hs_o18 := o18.small; simp only [ints_length] at hs_o18
  replace b0 := b0.ext hx
  replace b1 := b1.ext hx
  replace hr1 := hr1.below hx
  replace hr2 := hr2.below hx
  replace o12 := o12.ext hx
  replace b14 := b14.ext hx
  replace hx0 := hx0.trans hx
  clear hx
  have zb14_0 := b14.cell 0 rfl
  have zb14_1 := b14.cell 1 rfl
  have zb14_2 := b14.cell 2 rfl
  have qb14 := b14.lt
  go_wp2_with fail
  obtain ⟨w22, hw⟩ : ∃ v : World, v = (w19.alloc (.cells #[.int .i64 r2, .int .i64 c2, .slice A16 n2 k17] 31)) := ⟨_, rfl⟩
  rw [← hw]
  have hx : Ext w19 w22 := by subst hw; exact (Ext.refl _).alloc _
  have b21 : Blk w22 w19.heap.size #[.int .i64 r2, .int .i64 c2, .slice A16 n2 k17] 31 := by subst hw; exact Blk.new _ _ _
  clear hw
  replace b0 := b0.ext hx
  replace b1 := b1.ext hx
  replace hr1 := hr1.below hx
  replace hr2 := hr2.below hx
  replace o12 := o12.ext hx
  replace b14 := b14.ext hx
  replace o18 := o18.ext hx
  replace hx0 := hx0.trans hx
  clear hx
  clear zb14_0 zb14_1 zb14_2 qb14
  refine (implSameWhole_any r1 c1 A10 n1 k11 r2 c2 A16 n2 k17 xs1 xs2 _ o12.reads o18.reads).mono ?_
  rintro e w23 ⟨rfl, hx⟩
  replace b0 := b0.ext hx
  replace b1 := b1.ext hx
  replace hr1 := hr1.below hx
  replace hr2 := hr2.below hx
  replace o12 := o12.ext hx
  replace b14 := b14.ext hx
  replace o18 := o18.ext hx
  replace b21 := b21.ext hx
  replace hx0 := hx0.trans hx
  clear hx
  go_wp2_with fail
  have zb14_0 := b14.cell 0 rfl
  have zb14_1 := b14.cell 1 rfl
  have zb14_2 := b14.cell 2 rfl
  have zb0_0 := b0.cell 0 rfl
  have zb0_1 := b0.cell 1 rfl
  have zb0_2 := b0.cell 2 rfl
  refine wp_region_T [0, 1, 2, 3, 4] [] [2, 3] [(3, [2])] (fun i v => match i with | 2 => ∃ (A24 : Option Addr) (k25 : Nat), v = (.agg #[.int .i64 r1, .int .i64 c1, .slice A24 n1 k25]) | 3 => v = (.bool true) | _ => False) (fun i v w' => match i with | 2 => RdsF w' v [2] (ints xs1) | _ => True) (by kernel_rfl) (by kernel_rfl) (by intro i v w' w2 h hx; revert h; (try dsimp only); split <;> intro h <;> first | trivial | exact RdsF.ext h hx | exact OwnF.ext h hx | exact BlkF.ext h hx | exact ⟨RdsF.ext h.1 hx, RdsF.ext h.2 hx⟩ | exact ⟨OwnF.ext h.1 hx, OwnF.ext h.2 hx⟩ | exact ⟨RdsF.ext h.1 hx, RdsF.ext h.2.1 hx, RdsF.ext h.2.2 hx⟩ | exact ⟨OwnF.ext h.1 hx, OwnF.ext h.2.1 hx, OwnF.ext h.2.2 hx⟩) ?_
  refine' wpT_det (o := ⟨some 35, Op.load 31 (Operand.tmp 7), 31, "exact.go:5727", #[], none⟩) rfl (by rfl) (by rfl) (fun w' hw' => ?_) ?_; rotate_left
  · have zb14_0_ := Ext.cell hw' zb14_0; have zb14_1_ := Ext.cell hw' zb14_1; have zb14_2_ := Ext.cell hw' zb14_2; have zb0_0_ := Ext.cell hw' zb0_0; have zb0_1_ := Ext.cell hw' zb0_1; have zb0_2_ := Ext.cell hw' zb0_2; go_simp <;> first | rfl | exact ⟨rfl, rfl⟩
  simp only [Act.put, List.setIfInBounds_toArray, List.set_cons_zero, List.set_cons_succ]
  refine' wpT_det (o := ⟨some 36, Op.load 28 (Operand.tmp 2), 28, "exact.go:5727", #[], none⟩) rfl (by rfl) (by rfl) (fun w' hw' => ?_) ?_; rotate_left
  · have zb14_0_ := Ext.cell hw' zb14_0; have zb14_1_ := Ext.cell hw' zb14_1; have zb14_2_ := Ext.cell hw' zb14_2; have zb0_0_ := Ext.cell hw' zb0_0; have zb0_1_ := Ext.cell hw' zb0_1; have zb0_2_ := Ext.cell hw' zb0_2; go_simp <;> first | rfl | exact ⟨rfl, rfl⟩
  simp only [Act.put, List.setIfInBounds_toArray, List.set_cons_zero, List.set_cons_succ]
  refine wpT_nd (o := ⟨some 37, Op.call { callee := Callee.value (Operand.func 26), args := #[Operand.tmp 36], argTypes := #[28] }, 31, "exact.go:5727", #[{ on := 1, ground := Ground.data }], none⟩) rfl (by rfl) (by rfl) (fun w' hw' hF R hR => ?_) ⟨_, none, 0, rfl⟩ ?_
  · go_simp
    refine gives_enter rfl ?_
    refine (toWhole_any r1 c1 A1 n1 cap1 xs1 _ (hr1.below hw'.undrew) (by omega)).mono ?_
    rintro e w2 ⟨A24, k25, rfl, o26, hx⟩
    exact ⟨_, rfl, hR _ _ hx ⟨_, _, rfl⟩ (RdsF.of o26.reads rfl)⟩
  rintro _ ⟨A24, k25, rfl⟩
  simp only [Act.put, List.setIfInBounds_toArray, List.set_cons_zero, List.set_cons_succ]
  refine wpT_nd (o := ⟨some 38, Op.call { callee := Callee.value (Operand.func 28), args := #[Operand.tmp 35, Operand.tmp 37], argTypes := #[31, 31] }, 4, "exact.go:5727", #[{ on := 0, ground := Ground.data }, { on := 2, ground := Ground.data }, { on := 2, ground := Ground.chain }], none⟩) rfl (by rfl) (by rfl) (fun w' hw' hF R hR => ?_) ⟨_, rfl⟩ ?_
  · go_simp
    refine gives_enter rfl ?_
    refine (eqWhole_any r1 c1 r1 c1 A10 A24 n1 n1 k11 k25  xs1 xs1 _ (o12.reads.below hw'.undrew) (hF 2 (by simp [uses]) _ rfl _ _ _ rfl)).mono ?_
    rw [eqWB_refl]
    rintro e w2 ⟨rfl, hx⟩
    exact ⟨_, rfl, hR _ _ hx rfl trivial⟩
  intro v hv
  obtain rfl : v = (.bool true) := hv
  simp only [Act.put, List.setIfInBounds_toArray, List.set_cons_zero, List.set_cons_succ]
  refine' wpT_det (o := ⟨some 39, Op.unOp UnOp.not 4 (Operand.tmp 38), 4, "exact.go:5727", #[{ on := 3, ground := Ground.data }], none⟩) rfl (by rfl) (by rfl) (fun w' hw' => ?_) ?_; rotate_left
  · go_simp <;> first | rfl | exact ⟨rfl, rfl⟩
  simp only [Act.put, List.setIfInBounds_toArray, List.set_cons_zero, List.set_cons_succ]
  refine wpT_nil (fun w27 hw' hF => ?_)
  refine wpList_nil ?_
  clear zb14_0 zb14_1 zb14_2 zb0_0 zb0_1 zb0_2
  have hx := hw'.undrew; clear hw'
  clear hF
  replace b0 := b0.ext hx
  replace b1 := b1.ext hx
  replace hr1 := hr1.below hx
  replace hr2 := hr2.below hx
  replace o12 := o12.ext hx
  replace b14 := b14.ext hx
  replace o18 := o18.ext hx
  replace b21 := b21.ext hx
  replace hx0 := hx0.trans hx
  clear hx
  go_wp2_with fail
  have zb21_0 := b21.cell 0 rfl
  have zb21_1 := b21.cell 1 rfl
  have zb21_2 := b21.cell 2 rfl
  have zb1_0 := b1.cell 0 rfl
  have zb1_1 := b1.cell 1 rfl
  have zb1_2 := b1.cell 2 rfl
  refine wp_region_T [0, 1, 2, 3, 4] [] [2, 3] [(3, [2])] (fun i v => match i with | 2 => ∃ (A28 : Option Addr) (k29 : Nat), v = (.agg #[.int .i64 r2, .int .i64 c2, .slice A28 n2 k29]) | 3 => v = (.bool true) | _ => False) (fun i v w' => match i with | 2 => RdsF w' v [2] (ints xs2) | _ => True) (by kernel_rfl) (by kernel_rfl) (by intro i v w' w2 h hx; revert h; (try dsimp only); split <;> intro h <;> first | trivial | exact RdsF.ext h hx | exact OwnF.ext h hx | exact BlkF.ext h hx | exact ⟨RdsF.ext h.1 hx, RdsF.ext h.2 hx⟩ | exact ⟨OwnF.ext h.1 hx, OwnF.ext h.2 hx⟩ | exact ⟨RdsF.ext h.1 hx, RdsF.ext h.2.1 hx, RdsF.ext h.2.2 hx⟩ | exact ⟨OwnF.ext h.1 hx, OwnF.ext h.2.1 hx, OwnF.ext h.2.2 hx⟩) ?_
  refine' wpT_det (o := ⟨some 40, Op.load 31 (Operand.tmp 8), 31, "exact.go:5730", #[], none⟩) rfl (by rfl) (by rfl) (fun w' hw' => ?_) ?_; rotate_left
  · have zb21_0_ := Ext.cell hw' zb21_0; have zb21_1_ := Ext.cell hw' zb21_1; have zb21_2_ := Ext.cell hw' zb21_2; have zb1_0_ := Ext.cell hw' zb1_0; have zb1_1_ := Ext.cell hw' zb1_1; have zb1_2_ := Ext.cell hw' zb1_2; go_simp <;> first | rfl | exact ⟨rfl, rfl⟩
  simp only [Act.put, List.setIfInBounds_toArray, List.set_cons_zero, List.set_cons_succ]
  refine' wpT_det (o := ⟨some 41, Op.load 28 (Operand.tmp 3), 28, "exact.go:5730", #[], none⟩) rfl (by rfl) (by rfl) (fun w' hw' => ?_) ?_; rotate_left
  · have zb21_0_ := Ext.cell hw' zb21_0; have zb21_1_ := Ext.cell hw' zb21_1; have zb21_2_ := Ext.cell hw' zb21_2; have zb1_0_ := Ext.cell hw' zb1_0; have zb1_1_ := Ext.cell hw' zb1_1; have zb1_2_ := Ext.cell hw' zb1_2; go_simp <;> first | rfl | exact ⟨rfl, rfl⟩
  simp only [Act.put, List.setIfInBounds_toArray, List.set_cons_zero, List.set_cons_succ]
  refine wpT_nd (o := ⟨some 42, Op.call { callee := Callee.value (Operand.func 26), args := #[Operand.tmp 41], argTypes := #[28] }, 31, "exact.go:5730", #[{ on := 1, ground := Ground.data }], none⟩) rfl (by rfl) (by rfl) (fun w' hw' hF R hR => ?_) ⟨_, none, 0, rfl⟩ ?_
  · go_simp
    refine gives_enter rfl ?_
    refine (toWhole_any r2 c2 A2 n2 cap2 xs2 _ (hr2.below hw'.undrew) (by omega)).mono ?_
    rintro e w2 ⟨A28, k29, rfl, o30, hx⟩
    exact ⟨_, rfl, hR _ _ hx ⟨_, _, rfl⟩ (RdsF.of o30.reads rfl)⟩
  rintro _ ⟨A28, k29, rfl⟩
  simp only [Act.put, List.setIfInBounds_toArray, List.set_cons_zero, List.set_cons_succ]
  refine wpT_nd (o := ⟨some 43, Op.call { callee := Callee.value (Operand.func 28), args := #[Operand.tmp 40, Operand.tmp 42], argTypes := #[31, 31] }, 4, "exact.go:5730", #[{ on := 0, ground := Ground.data }, { on := 2, ground := Ground.data }, { on := 2, ground := Ground.chain }], none⟩) rfl (by rfl) (by rfl) (fun w' hw' hF R hR => ?_) ⟨_, rfl⟩ ?_
  · go_simp
    refine gives_enter rfl ?_
    refine (eqWhole_any r2 c2 r2 c2 A16 A28 n2 n2 k17 k29  xs2 xs2 _ (o18.reads.below hw'.undrew) (hF 2 (by simp [uses]) _ rfl _ _ _ rfl)).mono ?_
    rw [eqWB_refl]
    rintro e w2 ⟨rfl, hx⟩
    exact ⟨_, rfl, hR _ _ hx rfl trivial⟩
  intro v hv
  obtain rfl : v = (.bool true) := hv
  simp only [Act.put, List.setIfInBounds_toArray, List.set_cons_zero, List.set_cons_succ]
  refine' wpT_det (o := ⟨some 44, Op.unOp UnOp.not 4 (Operand.tmp 43), 4, "exact.go:5730", #[{ on := 3, ground := Ground.data }], none⟩) rfl (by rfl) (by rfl) (fun w' hw' => ?_) ?_; rotate_left
  · go_simp <;> first | rfl | exact ⟨rfl, rfl⟩
  simp only [Act.put, List.setIfInBounds_toArray, List.set_cons_zero, List.set_cons_succ]
  refine wpT_nil (fun w31 hw' hF => ?_)
  refine wpList_nil ?_
  clear zb21_0 zb21_1 zb21_2 zb1_0 zb1_1 zb1_2
  have hx := hw'.undrew; clear hw'
  clear hF
  replace b0 := b0.ext hx
  replace b1 := b1.ext hx
  replace hr1 := hr1.below hx
  replace hr2 := hr2.below hx
  replace o12 := o12.ext hx
  replace b14 := b14.ext hx
  replace o18 := o18.ext hx
  replace b21 := b21.ext hx
  replace hx0 := hx0.trans hx
  clear hx
  go_wp2_with fail
  go_ret
  exact ⟨rfl, hx0⟩

end Go.Proofs.Ytcfimkjkolgboaa
