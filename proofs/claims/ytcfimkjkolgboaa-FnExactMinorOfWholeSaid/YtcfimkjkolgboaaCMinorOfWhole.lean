import Derived.Test.YtcfimkjkolgboaaE17
set_option linter.unusedVariables false
set_option linter.unusedSimpArgs false
namespace Go.Proofs.Ytcfimkjkolgboaa
open Go.RowKit

set_option maxHeartbeats 8000000 in
theorem law_MinorOfWhole (r1 : Int) (c1 : Int) (A1 : Option Addr) (n1 cap1 : Nat) (xs1 : List Int) (A2 : Option Addr) (n2 cap2 : Nat) (xs2 : List Int) (A3 : Option Addr) (n3 cap3 : Nat) (xs3 : List Int) (w : World) (hr1 : Rds w A1 n1 (ints xs1)) (hr2 : Rds w A2 n2 (ints xs2)) (hr3 : Rds w A3 n3 (ints xs3)) :
    Calls Try.prog 12 #[.agg #[.int .i64 r1, .int .i64 c1, .slice A1 n1 cap1], .slice A2 n2 cap2, .slice A3 n3 cap3] w fun e w' => e = .returned (.bool true) ∧ Ext w w' := by
  have hs_hr1 := hr1.small
  have hs_hr2 := hr2.small
  have hs_hr3 := hr3.small
  obtain ⟨w0, hw0⟩ : ∃ w0 : World, w0 = (w.alloc (.cells #[.int .i64 r1, .int .i64 c1, .slice A1 n1 cap1] 28)) := ⟨_, rfl⟩
  have b0 : Blk w0 (w.heap.size) #[.int .i64 r1, .int .i64 c1, .slice A1 n1 cap1] 28 := by subst hw0; simpa using (Blk.new w #[.int .i64 r1, .int .i64 c1, .slice A1 n1 cap1] 28)
  have hx0 : Ext w w0 := by subst hw0; exact (Ext.refl _).alloc _
  have Hw0 := Lib.hid hw0
  clear hw0
  have hr10 := hr1; replace hr1 := hr1.below hx0
  have hr20 := hr2; replace hr2 := hr2.below hx0
  have hr30 := hr3; replace hr3 := hr3.below hx0
  obtain ⟨d, hd⟩ : ∃ d : Int × Bool, d = minorD r1 c1 xs1 xs2 xs3 := ⟨_, rfl⟩
  have Hd := Lib.hid hd; clear hd
  by_cases hm0 : n2 ≤ 1048576
  rotate_left
  · go_enter Try.func12, Try.ntmps12
    go_wp2_with fail
    go_ret
    exact ⟨rfl, by first | exact hx0 | (rw [← Hw0.out]; exact hx0)⟩
  by_cases hm1 : n3 ≤ 1048576
  rotate_left
  · go_enter Try.func12, Try.ntmps12
    go_wp2_with fail
    go_ret
    exact ⟨rfl, by first | exact hx0 | (rw [← Hw0.out]; exact hx0)⟩
  by_cases hn0 : n1 ≤ 1048576
  rotate_left
  · have HS0 : Hid (szL (n1) (1048576) = -1) := by show szL _ _ = -1; unfold szL; rw [if_pos (by omega)]
    go_enter Try.func12, Try.ntmps12
    have zb0_0 := b0.cell 0 rfl
    have zb0_1 := b0.cell 1 rfl
    have zb0_2 := b0.cell 2 rfl
    go_wp2_with fail
    rw [← Hw0.out]
    clear zb0_0 zb0_1 zb0_2
    refine (szWhole_any r1 c1 A1 n1 cap1 1048576 (by omega) (by omega) _).mono ?_
    rw [HS0.out]
    rintro e w1 ⟨rfl, hx⟩
    replace b0 := b0.ext hx
    replace hr1 := hr1.below hx
    replace hr2 := hr2.below hx
    replace hr3 := hr3.below hx
    replace hx0 := hx0.trans hx
    clear hx
    go_wp2_with fail
    go_ret
    exact ⟨rfl, hx0⟩
  have HS0 : Hid (szL (n1) (1048576) = 1048576 - (n1 : Int)) := by show szL _ _ = _; unfold szL; rw [if_neg (by omega)]
  go_enter Try.func12, Try.ntmps12
  have zb0_0 := b0.cell 0 rfl
  have zb0_1 := b0.cell 1 rfl
  have zb0_2 := b0.cell 2 rfl
  go_wp2_with fail
  rw [← Hw0.out]
  clear zb0_0 zb0_1 zb0_2
  refine (szWhole_any r1 c1 A1 n1 cap1 1048576 (by omega) (by omega) _).mono ?_
  rw [HS0.out]
  rintro e w1 ⟨rfl, hx⟩
  replace b0 := b0.ext hx
  replace hr1 := hr1.below hx
  replace hr2 := hr2.below hx
  replace hr3 := hr3.below hx
  replace hx0 := hx0.trans hx
  clear hx
  have zb0_0 := b0.cell 0 rfl
  have zb0_1 := b0.cell 1 rfl
  have zb0_2 := b0.cell 2 rfl
  go_wp2_with fail
  clear zb0_0 zb0_1 zb0_2
  have le_o4 : w.heap.size ≤ w1.heap.size := hx0.size
  refine (toWhole_any r1 c1 A1 n1 cap1 xs1 _ hr1 (by omega)).mono ?_
  rintro e w5 ⟨Ax2, kx3, rfl, o4, hx⟩
  have hs_o4 := o4.small; simp only [ints_length] at hs_o4
  replace b0 := b0.ext hx
  replace hr1 := hr1.below hx
  replace hr2 := hr2.below hx
  replace hr3 := hr3.below hx
  replace hx0 := hx0.trans hx
  clear hx
  go_wp2_with fail
  have le_o8 : w.heap.size ≤ w5.heap.size := hx0.size
  refine (toInt64S_any A2 n2 cap2 xs2 _ hr2 (by omega)).mono ?_
  rintro e w9 ⟨Ax6, kx7, rfl, o8, hx⟩
  have ne10 := o4.ne o8
  have hs_o8 := o8.small; simp only [ints_length] at hs_o8
  replace b0 := b0.ext hx
  replace hr1 := hr1.below hx
  replace hr2 := hr2.below hx
  replace hr3 := hr3.below hx
  replace o4 := o4.ext hx
  replace hx0 := hx0.trans hx
  clear hx
  go_wp2_with fail
  have le_o13 : w.heap.size ≤ w9.heap.size := hx0.size
  refine (toInt64S_any A3 n3 cap3 xs3 _ hr3 (by omega)).mono ?_
  rintro e w14 ⟨Ax11, kx12, rfl, o13, hx⟩
  have ne15 := o4.ne o13
  have ne16 := o8.ne o13
  have hs_o13 := o13.small; simp only [ints_length] at hs_o13
  replace b0 := b0.ext hx
  replace hr1 := hr1.below hx
  replace hr2 := hr2.below hx
  replace hr3 := hr3.below hx
  replace o4 := o4.ext hx
  replace o8 := o8.ext hx
  replace hx0 := hx0.trans hx
  clear hx
  go_wp2_with fail
  refine (specMinorOfWhole_any r1 c1 Ax2 n1 kx3 Ax6 n2 kx7 Ax11 n3 kx12 xs1 xs2 xs3 _ o4.reads o8.reads o13.reads o4.cap o8.cap o13.cap).mono ?_
  rw [← Hd.out]
  rintro e w17 ⟨rfl, hx⟩
  replace b0 := b0.ext hx
  replace hr1 := hr1.below hx
  replace hr2 := hr2.below hx
  replace hr3 := hr3.below hx
  replace o4 := o4.ext hx
  replace o8 := o8.ext hx
  replace o13 := o13.ext hx
  replace hx0 := hx0.trans hx
  clear hx
  have zb0_0 := b0.cell 0 rfl
  have zb0_1 := b0.cell 1 rfl
  have zb0_2 := b0.cell 2 rfl
  go_wp2_with fail
  clear zb0_0 zb0_1 zb0_2
  have le_o20 : w.heap.size ≤ w17.heap.size := hx0.size
  refine (toWhole_any r1 c1 A1 n1 cap1 xs1 _ hr1 (by omega)).mono ?_
  rintro e w21 ⟨Ax18, kx19, rfl, o20, hx⟩
  have ne22 := o4.ne o20
  have ne23 := o8.ne o20
  have ne24 := o13.ne o20
  have hs_o20 := o20.small; simp only [ints_length] at hs_o20
  replace b0 := b0.ext hx
  replace hr1 := hr1.below hx
  replace hr2 := hr2.below hx
  replace hr3 := hr3.below hx
  replace o4 := o4.ext hx
  replace o8 := o8.ext hx
  replace o13 := o13.ext hx
  replace hx0 := hx0.trans hx
  clear hx
  go_wp2_with fail
  obtain ⟨w26, hw⟩ : ∃ v : World, v = (w21.alloc (.cells #[.int .i64 r1, .int .i64 c1, .slice Ax18 n1 kx19] 31)) := ⟨_, rfl⟩
  rw [← hw]
  have hx : Ext w21 w26 := by subst hw; exact (Ext.refl _).alloc _
  have b25 : Blk w26 w21.heap.size #[.int .i64 r1, .int .i64 c1, .slice Ax18 n1 kx19] 31 := by subst hw; exact Blk.new _ _ _
  clear hw
  replace b0 := b0.ext hx
  replace hr1 := hr1.below hx
  replace hr2 := hr2.below hx
  replace hr3 := hr3.below hx
  replace o4 := o4.ext hx
  replace o8 := o8.ext hx
  replace o13 := o13.ext hx
  replace o20 := o20.ext hx
  replace hx0 := hx0.trans hx
  clear hx
  have le_o29 : w.heap.size ≤ w26.heap.size := hx0.size
  refine (toInt64S_any A2 n2 cap2 xs2 _ hr2 (by omega)).mono ?_
  rintro e w30 ⟨Ax27, kx28, rfl, o29, hx⟩
  have ne31 := o4.ne o29
  have ne32 := o8.ne o29
  have ne33 := o13.ne o29
  have ne34 := o20.ne o29
  have hs_o29 := o29.small; simp only [ints_length] at hs_o29
  replace b0 := b0.ext hx
  replace hr1 := hr1.below hx
  replace hr2 := hr2.below hx
  replace hr3 := hr3.below hx
  replace o4 := o4.ext hx
  replace o8 := o8.ext hx
  replace o13 := o13.ext hx
  replace o20 := o20.ext hx
  replace b25 := b25.ext hx
  replace hx0 := hx0.trans hx
  clear hx
  go_wp2_with fail
  have le_o37 : w.heap.size ≤ w30.heap.size := hx0.size
  refine (toInt64S_any A3 n3 cap3 xs3 _ hr3 (by omega)).mono ?_
  rintro e w38 ⟨Ax35, kx36, rfl, o37, hx⟩
  have ne39 := o4.ne o37
  have ne40 := o8.ne o37
  have ne41 := o13.ne o37
  have ne42 := o20.ne o37
  have ne43 := o29.ne o37
  have hs_o37 := o37.small; simp only [ints_length] at hs_o37
  replace b0 := b0.ext hx
  replace hr1 := hr1.below hx
  replace hr2 := hr2.below hx
  replace hr3 := hr3.below hx
  replace o4 := o4.ext hx
  replace o8 := o8.ext hx
  replace o13 := o13.ext hx
  replace o20 := o20.ext hx
  replace b25 := b25.ext hx
  replace o29 := o29.ext hx
  replace hx0 := hx0.trans hx
  clear hx
  have zb25_0 := b25.cell 0 rfl
  have zb25_1 := b25.cell 1 rfl
  have zb25_2 := b25.cell 2 rfl
  go_wp2_with fail
  clear zb25_0 zb25_1 zb25_2
  refine (implMinorOfWhole_any r1 c1 Ax18 n1 kx19 Ax27 n2 kx28 Ax35 n3 kx36 xs1 xs2 xs3 _ o20.reads o29.reads o37.reads o20.cap o29.cap o37.cap).mono ?_
  rw [← Hd.out]
  rintro e w44 ⟨rfl, hx⟩
  replace b0 := b0.ext hx
  replace hr1 := hr1.below hx
  replace hr2 := hr2.below hx
  replace hr3 := hr3.below hx
  replace o4 := o4.ext hx
  replace o8 := o8.ext hx
  replace o13 := o13.ext hx
  replace o20 := o20.ext hx
  replace b25 := b25.ext hx
  replace o29 := o29.ext hx
  replace o37 := o37.ext hx
  replace hx0 := hx0.trans hx
  clear hx
  go_wp2_with fail
  have zb25_0 := b25.cell 0 rfl
  have zb25_1 := b25.cell 1 rfl
  have zb25_2 := b25.cell 2 rfl
  have zb0_0 := b0.cell 0 rfl
  have zb0_1 := b0.cell 1 rfl
  have zb0_2 := b0.cell 2 rfl
  refine wp_region_T (cs := []) [0, 1, 2, 3, 4] [] [2, 3] [(3, [2])] (fun i__ v => match i__ with | 2 => ∃ (Ax45 : Option Addr) (kx46 : Nat), v = (.agg #[.int .i64 r1, .int .i64 c1, .slice Ax45 n1 kx46]) | 3 => v = (.bool true) | _ => False) (fun i__ v w' => match i__ with | 2 => OwnF w' w44.heap.size 2 v [2] (ints xs1) | _ => True) (by kernel_rfl) (by kernel_rfl) (by intro i v w' w2 h hx; revert h; (try dsimp only); split <;> intro h <;> first | trivial | exact RdsF.ext h hx | exact OwnF.ext h hx | exact BlkF.ext h hx | exact ⟨RdsF.ext h.1 hx, RdsF.ext h.2 hx⟩ | exact ⟨OwnF.ext h.1 hx, OwnF.ext h.2 hx⟩ | exact ⟨RdsF.ext h.1 hx, RdsF.ext h.2.1 hx, RdsF.ext h.2.2 hx⟩ | exact ⟨OwnF.ext h.1 hx, OwnF.ext h.2.1 hx, OwnF.ext h.2.2 hx⟩) ?_
  refine' wpT_det (o := ⟨some 57, Op.load 31 (Operand.tmp 10), 31, "exact.go:6001", #[], none⟩) rfl (by rfl) (by rfl) (fun w' hw' => ?_) ?_; rotate_left
  · have zb25_0_ := Ext.cell hw' zb25_0; have zb25_1_ := Ext.cell hw' zb25_1; have zb25_2_ := Ext.cell hw' zb25_2; have zb0_0_ := Ext.cell hw' zb0_0; have zb0_1_ := Ext.cell hw' zb0_1; have zb0_2_ := Ext.cell hw' zb0_2; go_simp <;> first | rfl | exact ⟨rfl, rfl⟩
  simp only [Act.put, List.setIfInBounds_toArray, List.set_cons_zero, List.set_cons_succ]
  refine' wpT_det (o := ⟨some 58, Op.load 28 (Operand.tmp 3), 28, "exact.go:6001", #[], none⟩) rfl (by rfl) (by rfl) (fun w' hw' => ?_) ?_; rotate_left
  · have zb25_0_ := Ext.cell hw' zb25_0; have zb25_1_ := Ext.cell hw' zb25_1; have zb25_2_ := Ext.cell hw' zb25_2; have zb0_0_ := Ext.cell hw' zb0_0; have zb0_1_ := Ext.cell hw' zb0_1; have zb0_2_ := Ext.cell hw' zb0_2; go_simp <;> first | rfl | exact ⟨rfl, rfl⟩
  simp only [Act.put, List.setIfInBounds_toArray, List.set_cons_zero, List.set_cons_succ]
  refine wpT_nd (o := ⟨some 59, Op.call { callee := Callee.value (Operand.func 26), args := #[Operand.tmp 58], argTypes := #[28] }, 31, "exact.go:6001", #[{ on := 1, ground := Ground.data }], none⟩) rfl (by rfl) (by rfl) (fun w' hw' hF R__ hGo => ?_) ⟨_, none, 0, rfl⟩ ?_
  · go_simp
    refine gives_enter rfl ?_
    refine (toWhole_any r1 c1 A1 n1 cap1 xs1 _ (hr1.below hw'.undrew) (by omega)).mono ?_
    rintro e w2 ⟨Ax45, kx46, rfl, o47, hx⟩
    exact ⟨_, rfl, hGo _ _ hx ⟨_, _, rfl⟩ (OwnF.of (o47.base hw'.size) rfl)⟩
  rintro _ ⟨Ax45, kx46, rfl⟩
  simp only [Act.put, List.setIfInBounds_toArray, List.set_cons_zero, List.set_cons_succ]
  refine wpT_nd (o := ⟨some 60, Op.call { callee := Callee.value (Operand.func 28), args := #[Operand.tmp 57, Operand.tmp 59], argTypes := #[31, 31] }, 4, "exact.go:6001", #[{ on := 0, ground := Ground.data }, { on := 2, ground := Ground.data }, { on := 2, ground := Ground.chain }], none⟩) rfl (by rfl) (by rfl) (fun w' hw' hF R__ hGo => ?_) ⟨_, rfl⟩ ?_
  · go_simp
    refine gives_enter rfl ?_
    refine (eqWhole_any r1 c1 r1 c1 Ax18 Ax45 n1 n1 kx19 kx46  xs1 xs1 _ (o20.reads.below hw'.undrew) ((hF 2 (by simp [uses]) _ rfl) _ _ _ rfl).reads).mono ?_
    rw [eqWB_refl]
    rintro e w2 ⟨rfl, hx⟩
    exact ⟨_, rfl, hGo _ _ hx rfl trivial⟩
  intro v hv
  obtain rfl : v = (.bool true) := hv
  simp only [Act.put, List.setIfInBounds_toArray, List.set_cons_zero, List.set_cons_succ]
  refine' wpT_det (o := ⟨some 61, Op.unOp UnOp.not 4 (Operand.tmp 60), 4, "exact.go:6001", #[{ on := 3, ground := Ground.data }], none⟩) rfl (by rfl) (by rfl) (fun w' hw' => ?_) ?_; rotate_left
  · go_simp <;> first | rfl | exact ⟨rfl, rfl⟩
  simp only [Act.put, List.setIfInBounds_toArray, List.set_cons_zero, List.set_cons_succ]
  refine wpT_nil (fun w48 hw' hF => ?_)
  refine wpList_nil ?_
  clear zb25_0 zb25_1 zb25_2 zb0_0 zb0_1 zb0_2
  have hx := hw'.undrew; clear hw'
  clear hF
  replace b0 := b0.ext hx
  replace hr1 := hr1.below hx
  replace hr2 := hr2.below hx
  replace hr3 := hr3.below hx
  replace o4 := o4.ext hx
  replace o8 := o8.ext hx
  replace o13 := o13.ext hx
  replace o20 := o20.ext hx
  replace b25 := b25.ext hx
  replace o29 := o29.ext hx
  replace o37 := o37.ext hx
  replace hx0 := hx0.trans hx
  clear hx
  go_wp2_with fail
  have le_o51 : w.heap.size ≤ w48.heap.size := hx0.size
  refine (toInt64S_any A2 n2 cap2 xs2 _ hr2 (by omega)).mono ?_
  rintro e w52 ⟨Ax49, kx50, rfl, o51, hx⟩
  have ne53 := o4.ne o51
  have ne54 := o8.ne o51
  have ne55 := o13.ne o51
  have ne56 := o20.ne o51
  have ne57 := o29.ne o51
  have ne58 := o37.ne o51
  have hs_o51 := o51.small; simp only [ints_length] at hs_o51
  replace b0 := b0.ext hx
  replace hr1 := hr1.below hx
  replace hr2 := hr2.below hx
  replace hr3 := hr3.below hx
  replace o4 := o4.ext hx
  replace o8 := o8.ext hx
  replace o13 := o13.ext hx
  replace o20 := o20.ext hx
  replace b25 := b25.ext hx
  replace o29 := o29.ext hx
  replace o37 := o37.ext hx
  replace hx0 := hx0.trans hx
  clear hx
  go_wp2_with fail
  refine (eqInt64S_any Ax27 Ax49 n2 n2 kx28 kx50  xs2 xs2 _ o29.reads o51.reads).mono ?_
  rintro e w59 ⟨rfl, hx⟩
  replace b0 := b0.ext hx
  replace hr1 := hr1.below hx
  replace hr2 := hr2.below hx
  replace hr3 := hr3.below hx
  replace o4 := o4.ext hx
  replace o8 := o8.ext hx
  replace o13 := o13.ext hx
  replace o20 := o20.ext hx
  replace b25 := b25.ext hx
  replace o29 := o29.ext hx
  replace o37 := o37.ext hx
  replace o51 := o51.ext hx
  replace hx0 := hx0.trans hx
  clear hx
  go_wp2_with fail
  have le_o62 : w.heap.size ≤ w59.heap.size := hx0.size
  refine (toInt64S_any A3 n3 cap3 xs3 _ hr3 (by omega)).mono ?_
  rintro e w63 ⟨Ax60, kx61, rfl, o62, hx⟩
  have ne64 := o4.ne o62
  have ne65 := o8.ne o62
  have ne66 := o13.ne o62
  have ne67 := o20.ne o62
  have ne68 := o29.ne o62
  have ne69 := o37.ne o62
  have ne70 := o51.ne o62
  have hs_o62 := o62.small; simp only [ints_length] at hs_o62
  replace b0 := b0.ext hx
  replace hr1 := hr1.below hx
  replace hr2 := hr2.below hx
  replace hr3 := hr3.below hx
  replace o4 := o4.ext hx
  replace o8 := o8.ext hx
  replace o13 := o13.ext hx
  replace o20 := o20.ext hx
  replace b25 := b25.ext hx
  replace o29 := o29.ext hx
  replace o37 := o37.ext hx
  replace o51 := o51.ext hx
  replace hx0 := hx0.trans hx
  clear hx
  go_wp2_with fail
  refine (eqInt64S_any Ax35 Ax60 n3 n3 kx36 kx61  xs3 xs3 _ o37.reads o62.reads).mono ?_
  rintro e w71 ⟨rfl, hx⟩
  replace b0 := b0.ext hx
  replace hr1 := hr1.below hx
  replace hr2 := hr2.below hx
  replace hr3 := hr3.below hx
  replace o4 := o4.ext hx
  replace o8 := o8.ext hx
  replace o13 := o13.ext hx
  replace o20 := o20.ext hx
  replace b25 := b25.ext hx
  replace o29 := o29.ext hx
  replace o37 := o37.ext hx
  replace o51 := o51.ext hx
  replace o62 := o62.ext hx
  replace hx0 := hx0.trans hx
  clear hx
  go_wp2_with fail
  go_ret
  exact ⟨rfl, hx0⟩

end Go.Proofs.Ytcfimkjkolgboaa
