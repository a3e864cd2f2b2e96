import Derived.Test.YtgjfdfmbknmpaaaM28
import Derived.Test.YtgjfdfmbknmpaaaB3M
set_option linter.unusedVariables false
set_option linter.unusedSimpArgs false
namespace Go.Proofs.Ytgjfdfmbknmpaaa
open Go.RowKit

set_option maxRecDepth 20000 in
set_option maxHeartbeats 8000000 in
theorem law_OuterMatrix (A1 : Option Addr) (n1 cap1 : Nat) (xs1 : List Nat) (A2 : Option Addr) (n2 cap2 : Nat) (xs2 : List Nat) (w : World) (hr1 : Rds w A1 n1 (flts xs1)) (hr2 : Rds w A2 n2 (flts xs2)) :
    Calls Try.prog 9 #[.slice A1 n1 cap1, .slice A2 n2 cap2] w fun e w' => e = .returned (.bool true) ∧ Ext w w' := by
  have hs_hr1 := hr1.small
  have hs_hr2 := hr2.small
  obtain ⟨w0, hw0⟩ : ∃ w0 : World, w0 = w := ⟨_, rfl⟩
  have hx0 : Ext w w0 := by subst hw0; exact Ext.refl _
  have Hw0 := Lib.hid hw0
  clear hw0
  have hr10 := hr1; replace hr1 := hr1.below hx0
  have hr20 := hr2; replace hr2 := hr2.below hx0
  obtain ⟨d, hd⟩ : ∃ d : MD, d = outD xs1 xs2 := ⟨_, rfl⟩
  have Hd := Lib.hid hd; clear hd
  by_cases hm0 : n1 ≤ 1048576
  rotate_left
  · go_enter Try.func9, Try.ntmps9
    go_wp2_with fail
    go_ret
    exact ⟨rfl, by first | exact hx0 | (rw [← Hw0.out]; exact hx0) | exact Ext.refl _⟩
  by_cases hm1 : n2 ≤ 1048576
  rotate_left
  · go_enter Try.func9, Try.ntmps9
    go_wp2_with fail
    go_ret
    exact ⟨rfl, by first | exact hx0 | (rw [← Hw0.out]; exact hx0) | exact Ext.refl _⟩
  go_enter Try.func9, Try.ntmps9
  go_wp2_with fail
  rw [← Hw0.out]
  have le_o3 : w.heap.size ≤ w0.heap.size := hx0.size
  refine (toFloat32S_any A1 n1 cap1 xs1 _ hr1 (by omega)).mono ?_
  rintro e w4 ⟨Ax1, kx2, rfl, o3, hx⟩
  have hs_o3 := o3.small; simp only [flts_length] at hs_o3
  replace hr1 := hr1.below hx
  replace hr2 := hr2.below hx
  replace hx0 := hx0.trans hx
  clear hx
  go_wp2_with fail
  have le_o7 : w.heap.size ≤ w4.heap.size := hx0.size
  refine (toFloat32S_any A2 n2 cap2 xs2 _ hr2 (by omega)).mono ?_
  rintro e w8 ⟨Ax5, kx6, rfl, o7, hx⟩
  have ne9 := o3.ne o7
  have hs_o7 := o7.small; simp only [flts_length] at hs_o7
  replace hr1 := hr1.below hx
  replace hr2 := hr2.below hx
  replace o3 := o3.ext hx
  replace hx0 := hx0.trans hx
  clear hx
  go_wp2_with fail
  have le_o12 : w.heap.size ≤ w8.heap.size := hx0.size
  refine (specOuterMatrix_any Ax1 n1 kx2 Ax5 n2 kx6 xs1 xs2 _ o3.reads o7.reads).mono ?_
  rw [← Hd.out]
  rintro e w13 ⟨Ax10, kx11, rfl, o12, hx⟩
  have ne14 := o3.ne o12
  have ne15 := o7.ne o12
  have hs_o12 := o12.small; simp only [flts_length] at hs_o12
  replace hr1 := hr1.below hx
  replace hr2 := hr2.below hx
  replace o3 := o3.ext hx
  replace o7 := o7.ext hx
  replace hx0 := hx0.trans hx
  clear hx
  go_wp2_with fail
  obtain ⟨w17, hw⟩ : ∃ v : World, v = (w13.alloc (.cells #[.int .i64 d.r, .int .i64 d.c, .slice Ax10 d.xs.length kx11] 35)) := ⟨_, rfl⟩
  rw [← hw]
  have hx : Ext w13 w17 := by subst hw; exact (Ext.refl _).alloc _
  have b16 : Blk w17 w13.heap.size #[.int .i64 d.r, .int .i64 d.c, .slice Ax10 d.xs.length kx11] 35 := by subst hw; exact Blk.new _ _ _
  clear hw
  replace hr1 := hr1.below hx
  replace hr2 := hr2.below hx
  replace o3 := o3.ext hx
  replace o7 := o7.ext hx
  replace o12 := o12.ext hx
  replace hx0 := hx0.trans hx
  clear hx
  have le_o20 : w.heap.size ≤ w17.heap.size := hx0.size
  refine (toFloat32S_any A1 n1 cap1 xs1 _ hr1 (by omega)).mono ?_
  rintro e w21 ⟨Ax18, kx19, rfl, o20, hx⟩
  have ne22 := o3.ne o20
  have ne23 := o7.ne o20
  have ne24 := o12.ne o20
  have hs_o20 := o20.small; simp only [flts_length] at hs_o20
  replace hr1 := hr1.below hx
  replace hr2 := hr2.below hx
  replace o3 := o3.ext hx
  replace o7 := o7.ext hx
  replace o12 := o12.ext hx
  replace b16 := b16.ext hx
  replace hx0 := hx0.trans hx
  clear hx
  go_wp2_with fail
  have le_o27 : w.heap.size ≤ w21.heap.size := hx0.size
  refine (toFloat32S_any A2 n2 cap2 xs2 _ hr2 (by omega)).mono ?_
  rintro e w28 ⟨Ax25, kx26, rfl, o27, hx⟩
  have ne29 := o3.ne o27
  have ne30 := o7.ne o27
  have ne31 := o12.ne o27
  have ne32 := o20.ne o27
  have hs_o27 := o27.small; simp only [flts_length] at hs_o27
  replace hr1 := hr1.below hx
  replace hr2 := hr2.below hx
  replace o3 := o3.ext hx
  replace o7 := o7.ext hx
  replace o12 := o12.ext hx
  replace b16 := b16.ext hx
  replace o20 := o20.ext hx
  replace hx0 := hx0.trans hx
  clear hx
  go_wp2_with fail
  have le_o35 : w.heap.size ≤ w28.heap.size := hx0.size
  refine (implOuterMatrix_any Ax18 n1 kx19 Ax25 n2 kx26 xs1 xs2 _ o20.reads o27.reads).mono ?_
  rw [← Hd.out]
  rintro e w36 ⟨Ax33, kx34, rfl, o35, hx⟩
  have ne37 := o3.ne o35
  have ne38 := o7.ne o35
  have ne39 := o12.ne o35
  have ne40 := o20.ne o35
  have ne41 := o27.ne o35
  have hs_o35 := o35.small; simp only [flts_length] at hs_o35
  replace hr1 := hr1.below hx
  replace hr2 := hr2.below hx
  replace o3 := o3.ext hx
  replace o7 := o7.ext hx
  replace o12 := o12.ext hx
  replace b16 := b16.ext hx
  replace o20 := o20.ext hx
  replace o27 := o27.ext hx
  replace hx0 := hx0.trans hx
  clear hx
  have zb16_0 := b16.cell 0 rfl
  have zb16_1 := b16.cell 1 rfl
  have zb16_2 := b16.cell 2 rfl
  have qb16 := b16.lt
  go_wp2_with fail
  obtain ⟨w43, hw⟩ : ∃ v : World, v = (w36.alloc (.cells #[.int .i64 d.r, .int .i64 d.c, .slice Ax33 d.xs.length kx34] 35)) := ⟨_, rfl⟩
  rw [← hw]
  have hx : Ext w36 w43 := by subst hw; exact (Ext.refl _).alloc _
  have b42 : Blk w43 w36.heap.size #[.int .i64 d.r, .int .i64 d.c, .slice Ax33 d.xs.length kx34] 35 := by subst hw; exact Blk.new _ _ _
  clear hw
  replace hr1 := hr1.below hx
  replace hr2 := hr2.below hx
  replace o3 := o3.ext hx
  replace o7 := o7.ext hx
  replace o12 := o12.ext hx
  replace b16 := b16.ext hx
  replace o20 := o20.ext hx
  replace o27 := o27.ext hx
  replace o35 := o35.ext hx
  replace hx0 := hx0.trans hx
  clear hx
  clear zb16_0 zb16_1 zb16_2 qb16
  refine (eqMatrix_any d.r d.c d.r d.c Ax33 Ax10 d.xs.length d.xs.length kx34 kx11  d.xs d.xs _ o35.reads o12.reads ⟨rfl, rfl, rfl⟩).mono ?_
  rintro e w44 ⟨rfl, hx⟩
  replace hr1 := hr1.below hx
  replace hr2 := hr2.below hx
  replace o3 := o3.ext hx
  replace o7 := o7.ext hx
  replace o12 := o12.ext hx
  replace b16 := b16.ext hx
  replace o20 := o20.ext hx
  replace o27 := o27.ext hx
  replace o35 := o35.ext hx
  replace b42 := b42.ext hx
  replace hx0 := hx0.trans hx
  clear hx
  go_wp2_with fail
  have le_o47 : w.heap.size ≤ w44.heap.size := hx0.size
  refine (toFloat32S_any A1 n1 cap1 xs1 _ hr1 (by omega)).mono ?_
  rintro e w48 ⟨Ax45, kx46, rfl, o47, hx⟩
  have ne49 := o3.ne o47
  have ne50 := o7.ne o47
  have ne51 := o12.ne o47
  have ne52 := o20.ne o47
  have ne53 := o27.ne o47
  have ne54 := o35.ne o47
  have hs_o47 := o47.small; simp only [flts_length] at hs_o47
  replace hr1 := hr1.below hx
  replace hr2 := hr2.below hx
  replace o3 := o3.ext hx
  replace o7 := o7.ext hx
  replace o12 := o12.ext hx
  replace b16 := b16.ext hx
  replace o20 := o20.ext hx
  replace o27 := o27.ext hx
  replace o35 := o35.ext hx
  replace b42 := b42.ext hx
  replace hx0 := hx0.trans hx
  clear hx
  go_wp2_with fail
  refine (eqFloat32S_any Ax18 Ax45 n1 n1 kx19 kx46  xs1 xs1 _ o20.reads o47.reads rfl).mono ?_
  rintro e w55 ⟨rfl, hx⟩
  replace hr1 := hr1.below hx
  replace hr2 := hr2.below hx
  replace o3 := o3.ext hx
  replace o7 := o7.ext hx
  replace o12 := o12.ext hx
  replace b16 := b16.ext hx
  replace o20 := o20.ext hx
  replace o27 := o27.ext hx
  replace o35 := o35.ext hx
  replace b42 := b42.ext hx
  replace o47 := o47.ext hx
  replace hx0 := hx0.trans hx
  clear hx
  go_wp2_with fail
  have le_o58 : w.heap.size ≤ w55.heap.size := hx0.size
  refine (toFloat32S_any A2 n2 cap2 xs2 _ hr2 (by omega)).mono ?_
  rintro e w59 ⟨Ax56, kx57, rfl, o58, hx⟩
  have ne60 := o3.ne o58
  have ne61 := o7.ne o58
  have ne62 := o12.ne o58
  have ne63 := o20.ne o58
  have ne64 := o27.ne o58
  have ne65 := o35.ne o58
  have ne66 := o47.ne o58
  have hs_o58 := o58.small; simp only [flts_length] at hs_o58
  replace hr1 := hr1.below hx
  replace hr2 := hr2.below hx
  replace o3 := o3.ext hx
  replace o7 := o7.ext hx
  replace o12 := o12.ext hx
  replace b16 := b16.ext hx
  replace o20 := o20.ext hx
  replace o27 := o27.ext hx
  replace o35 := o35.ext hx
  replace b42 := b42.ext hx
  replace o47 := o47.ext hx
  replace hx0 := hx0.trans hx
  clear hx
  go_wp2_with fail
  refine (eqFloat32S_any Ax25 Ax56 n2 n2 kx26 kx57  xs2 xs2 _ o27.reads o58.reads rfl).mono ?_
  rintro e w67 ⟨rfl, hx⟩
  replace hr1 := hr1.below hx
  replace hr2 := hr2.below hx
  replace o3 := o3.ext hx
  replace o7 := o7.ext hx
  replace o12 := o12.ext hx
  replace b16 := b16.ext hx
  replace o20 := o20.ext hx
  replace o27 := o27.ext hx
  replace o35 := o35.ext hx
  replace b42 := b42.ext hx
  replace o47 := o47.ext hx
  replace o58 := o58.ext hx
  replace hx0 := hx0.trans hx
  clear hx
  go_wp2_with fail
  refine (markFloat32S_any _ Ax18 n1 kx19 _ 1 _ (by omega) o20).mono ?_
  rintro e w68 ⟨rfl, o_, hw⟩
  replace o3 := o3.other hw ne22.1
  replace o7 := o7.other hw ne23.1
  replace o12 := o12.other hw ne24.1
  replace b16 := b16.wr hw o20 (by decide)
  replace o27 := o27.other hw ne32.2
  replace o35 := o35.other hw ne40.2
  replace b42 := b42.wr hw o20 (by decide)
  replace o47 := o47.other hw ne52.2
  replace o58 := o58.other hw ne63.2
  replace hx0 := hw.ext hx0 (o20.base le_o20)
  replace hr1 := hr10.below hx0
  replace hr2 := hr20.below hx0
  clear o20 hw; have o20 := o_; clear o_
  go_wp2_with fail
  refine (markFloat32S_any _ Ax25 n2 kx26 _ (1 + n1) _ (by omega) o27).mono ?_
  rintro e w69 ⟨rfl, o_, hw⟩
  replace o3 := o3.other hw ne29.1
  replace o7 := o7.other hw ne30.1
  replace o12 := o12.other hw ne31.1
  replace b16 := b16.wr hw o27 (by decide)
  replace o20 := o20.other hw ne32.1
  replace o35 := o35.other hw ne41.2
  replace b42 := b42.wr hw o27 (by decide)
  replace o47 := o47.other hw ne53.2
  replace o58 := o58.other hw ne64.2
  replace hx0 := hw.ext hx0 (o27.base le_o27)
  replace hr1 := hr10.below hx0
  replace hr2 := hr20.below hx0
  clear o27 hw; have o27 := o_; clear o_
  have zb42_0 := b42.cell 0 rfl
  have zb42_1 := b42.cell 1 rfl
  have zb42_2 := b42.cell 2 rfl
  have zb16_0 := b16.cell 0 rfl
  have zb16_1 := b16.cell 1 rfl
  have zb16_2 := b16.cell 2 rfl
  go_wp2_with fail
  clear zb42_0 zb42_1 zb42_2 zb16_0 zb16_1 zb16_2
  refine (eqMatrix_any d.r d.c d.r d.c Ax33 Ax10 d.xs.length d.xs.length kx34 kx11  d.xs d.xs _ o35.reads o12.reads ⟨rfl, rfl, rfl⟩).mono ?_
  rintro e w70 ⟨rfl, hx⟩
  replace hr1 := hr1.below hx
  replace hr2 := hr2.below hx
  replace o3 := o3.ext hx
  replace o7 := o7.ext hx
  replace o12 := o12.ext hx
  replace b16 := b16.ext hx
  replace o20 := o20.ext hx
  replace o27 := o27.ext hx
  replace o35 := o35.ext hx
  replace b42 := b42.ext hx
  replace o47 := o47.ext hx
  replace o58 := o58.ext hx
  replace hx0 := hx0.trans hx
  clear hx
  have zb42_0 := b42.cell 0 rfl
  have zb42_1 := b42.cell 1 rfl
  have zb42_2 := b42.cell 2 rfl
  go_wp2_with fail
  clear zb42_0 zb42_1 zb42_2
  refine (markMatrix_any _ d.r d.c Ax33 d.xs.length kx34 _ 1 _ (by omega) o35).mono ?_
  rintro e w71 ⟨rfl, o_, hw⟩
  replace o3 := o3.other hw ne37.1
  replace o7 := o7.other hw ne38.1
  replace o12 := o12.other hw ne39.1
  replace b16 := b16.wr hw o35 (by decide)
  replace o20 := o20.other hw ne40.1
  replace o27 := o27.other hw ne41.1
  replace b42 := b42.wr hw o35 (by decide)
  replace o47 := o47.other hw ne54.2
  replace o58 := o58.other hw ne65.2
  replace hx0 := hw.ext hx0 (o35.base le_o35)
  replace hr1 := hr10.below hx0
  replace hr2 := hr20.below hx0
  clear o35 hw; have o35 := o_; clear o_
  have zb42_0 := b42.cell 0 rfl
  have zb42_1 := b42.cell 1 rfl
  have zb42_2 := b42.cell 2 rfl
  go_wp2_with fail
  clear zb42_0 zb42_1 zb42_2
  refine (heldMatrix_any d.r d.c Ax33 d.xs.length kx34 1 _ (by omega) (by omega) o35.reads).mono ?_
  rintro e w72 ⟨rfl, hx⟩
  replace hr1 := hr1.below hx
  replace hr2 := hr2.below hx
  replace o3 := o3.ext hx
  replace o7 := o7.ext hx
  replace o12 := o12.ext hx
  replace b16 := b16.ext hx
  replace o20 := o20.ext hx
  replace o27 := o27.ext hx
  replace o35 := o35.ext hx
  replace b42 := b42.ext hx
  replace o47 := o47.ext hx
  replace o58 := o58.ext hx
  replace hx0 := hx0.trans hx
  clear hx
  go_wp2_with fail
  have le_o75 : w.heap.size ≤ w72.heap.size := hx0.size
  refine (toFloat32S_any A1 n1 cap1 xs1 _ hr1 (by omega)).mono ?_
  rintro e w76 ⟨Ax73, kx74, rfl, o75, hx⟩
  have ne77 := o3.ne o75
  have ne78 := o7.ne o75
  have ne79 := o12.ne o75
  have ne80 := o20.ne o75
  have ne81 := o27.ne o75
  have ne82 := o35.ne o75
  have ne83 := o47.ne o75
  have ne84 := o58.ne o75
  have hs_o75 := o75.small; simp only [flts_length] at hs_o75
  replace hr1 := hr1.below hx
  replace hr2 := hr2.below hx
  replace o3 := o3.ext hx
  replace o7 := o7.ext hx
  replace o12 := o12.ext hx
  replace b16 := b16.ext hx
  replace o20 := o20.ext hx
  replace o27 := o27.ext hx
  replace o35 := o35.ext hx
  replace b42 := b42.ext hx
  replace o47 := o47.ext hx
  replace o58 := o58.ext hx
  replace hx0 := hx0.trans hx
  clear hx
  go_wp2_with fail
  have le_o87 : w.heap.size ≤ w76.heap.size := hx0.size
  refine (toFloat32S_any A2 n2 cap2 xs2 _ hr2 (by omega)).mono ?_
  rintro e w88 ⟨Ax85, kx86, rfl, o87, hx⟩
  have ne89 := o3.ne o87
  have ne90 := o7.ne o87
  have ne91 := o12.ne o87
  have ne92 := o20.ne o87
  have ne93 := o27.ne o87
  have ne94 := o35.ne o87
  have ne95 := o47.ne o87
  have ne96 := o58.ne o87
  have ne97 := o75.ne o87
  have hs_o87 := o87.small; simp only [flts_length] at hs_o87
  replace hr1 := hr1.below hx
  replace hr2 := hr2.below hx
  replace o3 := o3.ext hx
  replace o7 := o7.ext hx
  replace o12 := o12.ext hx
  replace b16 := b16.ext hx
  replace o20 := o20.ext hx
  replace o27 := o27.ext hx
  replace o35 := o35.ext hx
  replace b42 := b42.ext hx
  replace o47 := o47.ext hx
  replace o58 := o58.ext hx
  replace o75 := o75.ext hx
  replace hx0 := hx0.trans hx
  clear hx
  go_wp2_with fail
  have le_o100 : w.heap.size ≤ w88.heap.size := hx0.size
  refine (implOuterMatrix_any Ax73 n1 kx74 Ax85 n2 kx86 xs1 xs2 _ o75.reads o87.reads).mono ?_
  rw [← Hd.out]
  rintro e w101 ⟨Ax98, kx99, rfl, o100, hx⟩
  have ne102 := o3.ne o100
  have ne103 := o7.ne o100
  have ne104 := o12.ne o100
  have ne105 := o20.ne o100
  have ne106 := o27.ne o100
  have ne107 := o35.ne o100
  have ne108 := o47.ne o100
  have ne109 := o58.ne o100
  have ne110 := o75.ne o100
  have ne111 := o87.ne o100
  have hs_o100 := o100.small; simp only [flts_length] at hs_o100
  replace hr1 := hr1.below hx
  replace hr2 := hr2.below hx
  replace o3 := o3.ext hx
  replace o7 := o7.ext hx
  replace o12 := o12.ext hx
  replace b16 := b16.ext hx
  replace o20 := o20.ext hx
  replace o27 := o27.ext hx
  replace o35 := o35.ext hx
  replace b42 := b42.ext hx
  replace o47 := o47.ext hx
  replace o58 := o58.ext hx
  replace o75 := o75.ext hx
  replace o87 := o87.ext hx
  replace hx0 := hx0.trans hx
  clear hx
  have zb16_0 := b16.cell 0 rfl
  have zb16_1 := b16.cell 1 rfl
  have zb16_2 := b16.cell 2 rfl
  have qb16 := b16.lt
  go_wp2_with fail
  obtain ⟨w113, hw⟩ : ∃ v : World, v = (w101.alloc (.cells #[.int .i64 d.r, .int .i64 d.c, .slice Ax98 d.xs.length kx99] 35)) := ⟨_, rfl⟩
  rw [← hw]
  have hx : Ext w101 w113 := by subst hw; exact (Ext.refl _).alloc _
  have b112 : Blk w113 w101.heap.size #[.int .i64 d.r, .int .i64 d.c, .slice Ax98 d.xs.length kx99] 35 := by subst hw; exact Blk.new _ _ _
  clear hw
  replace hr1 := hr1.below hx
  replace hr2 := hr2.below hx
  replace o3 := o3.ext hx
  replace o7 := o7.ext hx
  replace o12 := o12.ext hx
  replace b16 := b16.ext hx
  replace o20 := o20.ext hx
  replace o27 := o27.ext hx
  replace o35 := o35.ext hx
  replace b42 := b42.ext hx
  replace o47 := o47.ext hx
  replace o58 := o58.ext hx
  replace o75 := o75.ext hx
  replace o87 := o87.ext hx
  replace o100 := o100.ext hx
  replace hx0 := hx0.trans hx
  clear hx
  clear zb16_0 zb16_1 zb16_2 qb16
  refine (eqMatrix_any d.r d.c d.r d.c Ax98 Ax10 d.xs.length d.xs.length kx99 kx11  d.xs d.xs _ o100.reads o12.reads ⟨rfl, rfl, rfl⟩).mono ?_
  rintro e w114 ⟨rfl, hx⟩
  replace hr1 := hr1.below hx
  replace hr2 := hr2.below hx
  replace o3 := o3.ext hx
  replace o7 := o7.ext hx
  replace o12 := o12.ext hx
  replace b16 := b16.ext hx
  replace o20 := o20.ext hx
  replace o27 := o27.ext hx
  replace o35 := o35.ext hx
  replace b42 := b42.ext hx
  replace o47 := o47.ext hx
  replace o58 := o58.ext hx
  replace o75 := o75.ext hx
  replace o87 := o87.ext hx
  replace o100 := o100.ext hx
  replace b112 := b112.ext hx
  replace hx0 := hx0.trans hx
  clear hx
  have zb42_0 := b42.cell 0 rfl
  have zb42_1 := b42.cell 1 rfl
  have zb42_2 := b42.cell 2 rfl
  go_wp2_with fail
  clear zb42_0 zb42_1 zb42_2
  refine (heldMatrix_any d.r d.c Ax33 d.xs.length kx34 1 _ (by omega) (by omega) o35.reads).mono ?_
  rintro e w115 ⟨rfl, hx⟩
  replace hr1 := hr1.below hx
  replace hr2 := hr2.below hx
  replace o3 := o3.ext hx
  replace o7 := o7.ext hx
  replace o12 := o12.ext hx
  replace b16 := b16.ext hx
  replace o20 := o20.ext hx
  replace o27 := o27.ext hx
  replace o35 := o35.ext hx
  replace b42 := b42.ext hx
  replace o47 := o47.ext hx
  replace o58 := o58.ext hx
  replace o75 := o75.ext hx
  replace o87 := o87.ext hx
  replace o100 := o100.ext hx
  replace b112 := b112.ext hx
  replace hx0 := hx0.trans hx
  clear hx
  go_wp2_with fail
  go_ret
  exact ⟨rfl, hx0⟩

end Go.Proofs.Ytgjfdfmbknmpaaa
