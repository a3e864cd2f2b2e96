import Derived.Test.YtgjfdfmbknmpaaaM45
import Derived.Test.YtgjfdfmbknmpaaaB3M
set_option linter.unusedVariables false
set_option linter.unusedSimpArgs false
namespace Go.Proofs.Ytgjfdfmbknmpaaa
open Go.RowKit

set_option maxRecDepth 20000 in
set_option maxHeartbeats 8000000 in
theorem law_CompanionMatrix (A : Option Addr) (n cap : Nat) (xs : List Nat) (w : World) (hr : Rds w A n (flts xs)) :
    Calls Try.prog 6 #[.slice A n cap] w fun e w' => e = .returned (.bool true) ∧ Ext w w' := by
  have hs_hr := hr.small
  obtain ⟨w0, hw0⟩ : ∃ w0 : World, w0 = w := ⟨_, rfl⟩
  have hx0 : Ext w w0 := by subst hw0; exact Ext.refl _
  have Hw0 := Lib.hid hw0
  clear hw0
  have hr0 := hr; replace hr := hr.below hx0
  obtain ⟨d, hd⟩ : ∃ d : MD, d = comD xs := ⟨_, rfl⟩
  have Hd := Lib.hid hd; clear hd
  by_cases hm0 : n ≤ 1048576
  rotate_left
  · go_enter Try.func6, Try.ntmps6
    go_wp2_with fail
    go_ret
    exact ⟨rfl, by first | exact hx0 | (rw [← Hw0.out]; exact hx0) | exact Ext.refl _⟩
  go_enter Try.func6, Try.ntmps6
  go_wp2_with fail
  rw [← Hw0.out]
  have le_o3 : w.heap.size ≤ w0.heap.size := hx0.size
  refine (toFloat32S_any A n cap xs _ hr (by omega)).mono ?_
  rintro e w4 ⟨Ax1, kx2, rfl, o3, hx⟩
  have hs_o3 := o3.small; simp only [flts_length] at hs_o3
  replace hr := hr.below hx
  replace hx0 := hx0.trans hx
  clear hx
  go_wp2_with fail
  have le_o7 : w.heap.size ≤ w4.heap.size := hx0.size
  refine (specCompanionMatrix_any Ax1 n kx2 xs _ o3.reads).mono ?_
  rw [← Hd.out]
  rintro e w8 ⟨Ax5, kx6, rfl, o7, hx⟩
  have ne9 := o3.ne o7
  have hs_o7 := o7.small; simp only [flts_length] at hs_o7
  replace hr := hr.below hx
  replace o3 := o3.ext hx
  replace hx0 := hx0.trans hx
  clear hx
  go_wp2_with fail
  obtain ⟨w11, hw⟩ : ∃ v : World, v = (w8.alloc (.cells #[.int .i64 d.r, .int .i64 d.c, .slice Ax5 d.xs.length kx6] 35)) := ⟨_, rfl⟩
  rw [← hw]
  have hx : Ext w8 w11 := by subst hw; exact (Ext.refl _).alloc _
  have b10 : Blk w11 w8.heap.size #[.int .i64 d.r, .int .i64 d.c, .slice Ax5 d.xs.length kx6] 35 := by subst hw; exact Blk.new _ _ _
  clear hw
  replace hr := hr.below hx
  replace o3 := o3.ext hx
  replace o7 := o7.ext hx
  replace hx0 := hx0.trans hx
  clear hx
  have le_o14 : w.heap.size ≤ w11.heap.size := hx0.size
  refine (toFloat32S_any A n cap xs _ hr (by omega)).mono ?_
  rintro e w15 ⟨Ax12, kx13, rfl, o14, hx⟩
  have ne16 := o3.ne o14
  have ne17 := o7.ne o14
  have hs_o14 := o14.small; simp only [flts_length] at hs_o14
  replace hr := hr.below hx
  replace o3 := o3.ext hx
  replace o7 := o7.ext hx
  replace b10 := b10.ext hx
  replace hx0 := hx0.trans hx
  clear hx
  go_wp2_with fail
  have le_o20 : w.heap.size ≤ w15.heap.size := hx0.size
  refine (implCompanionMatrix_any Ax12 n kx13 xs _ o14.reads).mono ?_
  rw [← Hd.out]
  rintro e w21 ⟨Ax18, kx19, rfl, o20, hx⟩
  have ne22 := o3.ne o20
  have ne23 := o7.ne o20
  have ne24 := o14.ne o20
  have hs_o20 := o20.small; simp only [flts_length] at hs_o20
  replace hr := hr.below hx
  replace o3 := o3.ext hx
  replace o7 := o7.ext hx
  replace b10 := b10.ext hx
  replace o14 := o14.ext hx
  replace hx0 := hx0.trans hx
  clear hx
  have zb10_0 := b10.cell 0 rfl
  have zb10_1 := b10.cell 1 rfl
  have zb10_2 := b10.cell 2 rfl
  have qb10 := b10.lt
  go_wp2_with fail
  obtain ⟨w26, hw⟩ : ∃ v : World, v = (w21.alloc (.cells #[.int .i64 d.r, .int .i64 d.c, .slice Ax18 d.xs.length kx19] 35)) := ⟨_, rfl⟩
  rw [← hw]
  have hx : Ext w21 w26 := by subst hw; exact (Ext.refl _).alloc _
  have b25 : Blk w26 w21.heap.size #[.int .i64 d.r, .int .i64 d.c, .slice Ax18 d.xs.length kx19] 35 := by subst hw; exact Blk.new _ _ _
  clear hw
  replace hr := hr.below hx
  replace o3 := o3.ext hx
  replace o7 := o7.ext hx
  replace b10 := b10.ext hx
  replace o14 := o14.ext hx
  replace o20 := o20.ext hx
  replace hx0 := hx0.trans hx
  clear hx
  clear zb10_0 zb10_1 zb10_2 qb10
  refine (eqMatrix_any d.r d.c d.r d.c Ax18 Ax5 d.xs.length d.xs.length kx19 kx6  d.xs d.xs _ o20.reads o7.reads ⟨rfl, rfl, rfl⟩).mono ?_
  rintro e w27 ⟨rfl, hx⟩
  replace hr := hr.below hx
  replace o3 := o3.ext hx
  replace o7 := o7.ext hx
  replace b10 := b10.ext hx
  replace o14 := o14.ext hx
  replace o20 := o20.ext hx
  replace b25 := b25.ext hx
  replace hx0 := hx0.trans hx
  clear hx
  go_wp2_with fail
  have le_o30 : w.heap.size ≤ w27.heap.size := hx0.size
  refine (toFloat32S_any A n cap xs _ hr (by omega)).mono ?_
  rintro e w31 ⟨Ax28, kx29, rfl, o30, hx⟩
  have ne32 := o3.ne o30
  have ne33 := o7.ne o30
  have ne34 := o14.ne o30
  have ne35 := o20.ne o30
  have hs_o30 := o30.small; simp only [flts_length] at hs_o30
  replace hr := hr.below hx
  replace o3 := o3.ext hx
  replace o7 := o7.ext hx
  replace b10 := b10.ext hx
  replace o14 := o14.ext hx
  replace o20 := o20.ext hx
  replace b25 := b25.ext hx
  replace hx0 := hx0.trans hx
  clear hx
  go_wp2_with fail
  refine (eqFloat32S_any Ax12 Ax28 n n kx13 kx29  xs xs _ o14.reads o30.reads rfl).mono ?_
  rintro e w36 ⟨rfl, hx⟩
  replace hr := hr.below hx
  replace o3 := o3.ext hx
  replace o7 := o7.ext hx
  replace b10 := b10.ext hx
  replace o14 := o14.ext hx
  replace o20 := o20.ext hx
  replace b25 := b25.ext hx
  replace o30 := o30.ext hx
  replace hx0 := hx0.trans hx
  clear hx
  go_wp2_with fail
  refine (markFloat32S_any _ Ax12 n kx13 _ 1 _ (by omega) o14).mono ?_
  rintro e w37 ⟨rfl, o_, hw⟩
  replace o3 := o3.other hw ne16.1
  replace o7 := o7.other hw ne17.1
  replace b10 := b10.wr hw o14 (by decide)
  replace o20 := o20.other hw ne24.2
  replace b25 := b25.wr hw o14 (by decide)
  replace o30 := o30.other hw ne34.2
  replace hx0 := hw.ext hx0 (o14.base le_o14)
  replace hr := hr0.below hx0
  clear o14 hw; have o14 := o_; clear o_
  have zb25_0 := b25.cell 0 rfl
  have zb25_1 := b25.cell 1 rfl
  have zb25_2 := b25.cell 2 rfl
  have zb10_0 := b10.cell 0 rfl
  have zb10_1 := b10.cell 1 rfl
  have zb10_2 := b10.cell 2 rfl
  go_wp2_with fail
  clear zb25_0 zb25_1 zb25_2 zb10_0 zb10_1 zb10_2
  refine (eqMatrix_any d.r d.c d.r d.c Ax18 Ax5 d.xs.length d.xs.length kx19 kx6  d.xs d.xs _ o20.reads o7.reads ⟨rfl, rfl, rfl⟩).mono ?_
  rintro e w38 ⟨rfl, hx⟩
  replace hr := hr.below hx
  replace o3 := o3.ext hx
  replace o7 := o7.ext hx
  replace b10 := b10.ext hx
  replace o14 := o14.ext hx
  replace o20 := o20.ext hx
  replace b25 := b25.ext hx
  replace o30 := o30.ext hx
  replace hx0 := hx0.trans hx
  clear hx
  have zb25_0 := b25.cell 0 rfl
  have zb25_1 := b25.cell 1 rfl
  have zb25_2 := b25.cell 2 rfl
  go_wp2_with fail
  clear zb25_0 zb25_1 zb25_2
  refine (markMatrix_any _ d.r d.c Ax18 d.xs.length kx19 _ 1 _ (by omega) o20).mono ?_
  rintro e w39 ⟨rfl, o_, hw⟩
  replace o3 := o3.other hw ne22.1
  replace o7 := o7.other hw ne23.1
  replace b10 := b10.wr hw o20 (by decide)
  replace o14 := o14.other hw ne24.1
  replace b25 := b25.wr hw o20 (by decide)
  replace o30 := o30.other hw ne35.2
  replace hx0 := hw.ext hx0 (o20.base le_o20)
  replace hr := hr0.below hx0
  clear o20 hw; have o20 := o_; clear o_
  have zb25_0 := b25.cell 0 rfl
  have zb25_1 := b25.cell 1 rfl
  have zb25_2 := b25.cell 2 rfl
  go_wp2_with fail
  clear zb25_0 zb25_1 zb25_2
  refine (heldMatrix_any d.r d.c Ax18 d.xs.length kx19 1 _ (by omega) (by omega) o20.reads).mono ?_
  rintro e w40 ⟨rfl, hx⟩
  replace hr := hr.below hx
  replace o3 := o3.ext hx
  replace o7 := o7.ext hx
  replace b10 := b10.ext hx
  replace o14 := o14.ext hx
  replace o20 := o20.ext hx
  replace b25 := b25.ext hx
  replace o30 := o30.ext hx
  replace hx0 := hx0.trans hx
  clear hx
  go_wp2_with fail
  have le_o43 : w.heap.size ≤ w40.heap.size := hx0.size
  refine (toFloat32S_any A n cap xs _ hr (by omega)).mono ?_
  rintro e w44 ⟨Ax41, kx42, rfl, o43, hx⟩
  have ne45 := o3.ne o43
  have ne46 := o7.ne o43
  have ne47 := o14.ne o43
  have ne48 := o20.ne o43
  have ne49 := o30.ne o43
  have hs_o43 := o43.small; simp only [flts_length] at hs_o43
  replace hr := hr.below hx
  replace o3 := o3.ext hx
  replace o7 := o7.ext hx
  replace b10 := b10.ext hx
  replace o14 := o14.ext hx
  replace o20 := o20.ext hx
  replace b25 := b25.ext hx
  replace o30 := o30.ext hx
  replace hx0 := hx0.trans hx
  clear hx
  go_wp2_with fail
  have le_o52 : w.heap.size ≤ w44.heap.size := hx0.size
  refine (implCompanionMatrix_any Ax41 n kx42 xs _ o43.reads).mono ?_
  rw [← Hd.out]
  rintro e w53 ⟨Ax50, kx51, rfl, o52, hx⟩
  have ne54 := o3.ne o52
  have ne55 := o7.ne o52
  have ne56 := o14.ne o52
  have ne57 := o20.ne o52
  have ne58 := o30.ne o52
  have ne59 := o43.ne o52
  have hs_o52 := o52.small; simp only [flts_length] at hs_o52
  replace hr := hr.below hx
  replace o3 := o3.ext hx
  replace o7 := o7.ext hx
  replace b10 := b10.ext hx
  replace o14 := o14.ext hx
  replace o20 := o20.ext hx
  replace b25 := b25.ext hx
  replace o30 := o30.ext hx
  replace o43 := o43.ext hx
  replace hx0 := hx0.trans hx
  clear hx
  have zb10_0 := b10.cell 0 rfl
  have zb10_1 := b10.cell 1 rfl
  have zb10_2 := b10.cell 2 rfl
  have qb10 := b10.lt
  go_wp2_with fail
  obtain ⟨w61, hw⟩ : ∃ v : World, v = (w53.alloc (.cells #[.int .i64 d.r, .int .i64 d.c, .slice Ax50 d.xs.length kx51] 35)) := ⟨_, rfl⟩
  rw [← hw]
  have hx : Ext w53 w61 := by subst hw; exact (Ext.refl _).alloc _
  have b60 : Blk w61 w53.heap.size #[.int .i64 d.r, .int .i64 d.c, .slice Ax50 d.xs.length kx51] 35 := by subst hw; exact Blk.new _ _ _
  clear hw
  replace hr := hr.below hx
  replace o3 := o3.ext hx
  replace o7 := o7.ext hx
  replace b10 := b10.ext hx
  replace o14 := o14.ext hx
  replace o20 := o20.ext hx
  replace b25 := b25.ext hx
  replace o30 := o30.ext hx
  replace o43 := o43.ext hx
  replace o52 := o52.ext hx
  replace hx0 := hx0.trans hx
  clear hx
  clear zb10_0 zb10_1 zb10_2 qb10
  refine (eqMatrix_any d.r d.c d.r d.c Ax50 Ax5 d.xs.length d.xs.length kx51 kx6  d.xs d.xs _ o52.reads o7.reads ⟨rfl, rfl, rfl⟩).mono ?_
  rintro e w62 ⟨rfl, hx⟩
  replace hr := hr.below hx
  replace o3 := o3.ext hx
  replace o7 := o7.ext hx
  replace b10 := b10.ext hx
  replace o14 := o14.ext hx
  replace o20 := o20.ext hx
  replace b25 := b25.ext hx
  replace o30 := o30.ext hx
  replace o43 := o43.ext hx
  replace o52 := o52.ext hx
  replace b60 := b60.ext hx
  replace hx0 := hx0.trans hx
  clear hx
  have zb25_0 := b25.cell 0 rfl
  have zb25_1 := b25.cell 1 rfl
  have zb25_2 := b25.cell 2 rfl
  go_wp2_with fail
  clear zb25_0 zb25_1 zb25_2
  refine (heldMatrix_any d.r d.c Ax18 d.xs.length kx19 1 _ (by omega) (by omega) o20.reads).mono ?_
  rintro e w63 ⟨rfl, hx⟩
  replace hr := hr.below hx
  replace o3 := o3.ext hx
  replace o7 := o7.ext hx
  replace b10 := b10.ext hx
  replace o14 := o14.ext hx
  replace o20 := o20.ext hx
  replace b25 := b25.ext hx
  replace o30 := o30.ext hx
  replace o43 := o43.ext hx
  replace o52 := o52.ext hx
  replace b60 := b60.ext hx
  replace hx0 := hx0.trans hx
  clear hx
  go_wp2_with fail
  go_ret
  exact ⟨rfl, hx0⟩

end Go.Proofs.Ytgjfdfmbknmpaaa
