import Derived.Test.YtcfimkjkolgboaaE2
set_option linter.unusedVariables false
set_option linter.unusedSimpArgs false
namespace Go.Proofs.Ytcfimkjkolgboaa
open Go.RowKit

set_option maxHeartbeats 8000000 in
theorem law_UnitWhole (x : Int) (w : World)  :
    Calls Try.prog 8 #[.int .i64 x] w fun e w' => e = .returned (.bool true) ∧ Ext w w' := by
  obtain ⟨w0, hw0⟩ : ∃ w0 : World, w0 = w := ⟨_, rfl⟩
  have hx0 : Ext w w0 := by subst hw0; exact Ext.refl _
  have Hw0 := Lib.hid hw0
  clear hw0
  obtain ⟨d, hd⟩ : ∃ d : WD, d = unitD x := ⟨_, rfl⟩
  have Hd := Lib.hid hd; clear hd
  go_enter Try.func8, Try.ntmps8
  go_wp2_with fail
  rw [← Hw0.out]
  have le_o3 : w.heap.size ≤ w0.heap.size := hx0.size
  refine (specUnitWhole_any x _).mono ?_
  rw [← Hd.out]
  rintro e w4 ⟨A1, k2, rfl, o3, hx⟩
  have hs_o3 := o3.small; simp only [ints_length] at hs_o3
  replace hx0 := hx0.trans hx
  clear hx
  go_wp2_with fail
  obtain ⟨w6, hw⟩ : ∃ v : World, v = (w4.alloc (.cells #[.int .i64 d.r, .int .i64 d.c, .slice A1 d.xs.length k2] 31)) := ⟨_, rfl⟩
  rw [← hw]
  have hx : Ext w4 w6 := by subst hw; exact (Ext.refl _).alloc _
  have b5 : Blk w6 w4.heap.size #[.int .i64 d.r, .int .i64 d.c, .slice A1 d.xs.length k2] 31 := by subst hw; exact Blk.new _ _ _
  clear hw
  replace o3 := o3.ext hx
  replace hx0 := hx0.trans hx
  clear hx
  have le_o9 : w.heap.size ≤ w6.heap.size := hx0.size
  refine (implUnitWhole_any x _).mono ?_
  rw [← Hd.out]
  rintro e w10 ⟨A7, k8, rfl, o9, hx⟩
  have ne11 := o3.ne o9
  have hs_o9 := o9.small; simp only [ints_length] at hs_o9
  replace o3 := o3.ext hx
  replace b5 := b5.ext hx
  replace hx0 := hx0.trans hx
  clear hx
  have zb5_0 := b5.cell 0 rfl
  have zb5_1 := b5.cell 1 rfl
  have zb5_2 := b5.cell 2 rfl
  have qb5 := b5.lt
  go_wp2_with fail
  obtain ⟨w13, hw⟩ : ∃ v : World, v = (w10.alloc (.cells #[.int .i64 d.r, .int .i64 d.c, .slice A7 d.xs.length k8] 31)) := ⟨_, rfl⟩
  rw [← hw]
  have hx : Ext w10 w13 := by subst hw; exact (Ext.refl _).alloc _
  have b12 : Blk w13 w10.heap.size #[.int .i64 d.r, .int .i64 d.c, .slice A7 d.xs.length k8] 31 := by subst hw; exact Blk.new _ _ _
  clear hw
  replace o3 := o3.ext hx
  replace b5 := b5.ext hx
  replace o9 := o9.ext hx
  replace hx0 := hx0.trans hx
  clear hx
  clear zb5_0 zb5_1 zb5_2 qb5
  refine (eqWhole_any d.r d.c d.r d.c A7 A1 d.xs.length d.xs.length k8 k2  d.xs d.xs _ o9.reads o3.reads).mono ?_
  rw [eqWB_refl]
  rintro e w14 ⟨rfl, hx⟩
  replace o3 := o3.ext hx
  replace b5 := b5.ext hx
  replace o9 := o9.ext hx
  replace b12 := b12.ext hx
  replace hx0 := hx0.trans hx
  clear hx
  have zb12_0 := b12.cell 0 rfl
  have zb12_1 := b12.cell 1 rfl
  have zb12_2 := b12.cell 2 rfl
  go_wp2_with fail
  clear zb12_0 zb12_1 zb12_2
  refine (markWhole_any _ d.r d.c A7 d.xs.length k8 _ 1 _ (by omega) o9).mono ?_
  rintro e w15 ⟨rfl, o_, hw⟩
  replace o3 := o3.other hw ne11.1
  replace b5 := b5.wr hw o9 (by decide)
  replace b12 := b12.wr hw o9 (by decide)
  replace hx0 := hw.ext hx0 (o9.base le_o9)
  clear o9 hw; have o9 := o_; clear o_
  have zb12_0 := b12.cell 0 rfl
  have zb12_1 := b12.cell 1 rfl
  have zb12_2 := b12.cell 2 rfl
  go_wp2_with fail
  clear zb12_0 zb12_1 zb12_2
  refine (heldWhole_any d.r d.c A7 d.xs.length k8 1 _ (by omega) (by omega) o9.reads).mono ?_
  rintro e w16 ⟨rfl, hx⟩
  replace o3 := o3.ext hx
  replace b5 := b5.ext hx
  replace o9 := o9.ext hx
  replace b12 := b12.ext hx
  replace hx0 := hx0.trans hx
  clear hx
  go_wp2_with fail
  have le_o19 : w.heap.size ≤ w16.heap.size := hx0.size
  refine (implUnitWhole_any x _).mono ?_
  rw [← Hd.out]
  rintro e w20 ⟨A17, k18, rfl, o19, hx⟩
  have ne21 := o3.ne o19
  have ne22 := o9.ne o19
  have hs_o19 := o19.small; simp only [ints_length] at hs_o19
  replace o3 := o3.ext hx
  replace b5 := b5.ext hx
  replace o9 := o9.ext hx
  replace b12 := b12.ext hx
  replace hx0 := hx0.trans hx
  clear hx
  have zb5_0 := b5.cell 0 rfl
  have zb5_1 := b5.cell 1 rfl
  have zb5_2 := b5.cell 2 rfl
  have qb5 := b5.lt
  go_wp2_with fail
  obtain ⟨w24, hw⟩ : ∃ v : World, v = (w20.alloc (.cells #[.int .i64 d.r, .int .i64 d.c, .slice A17 d.xs.length k18] 31)) := ⟨_, rfl⟩
  rw [← hw]
  have hx : Ext w20 w24 := by subst hw; exact (Ext.refl _).alloc _
  have b23 : Blk w24 w20.heap.size #[.int .i64 d.r, .int .i64 d.c, .slice A17 d.xs.length k18] 31 := by subst hw; exact Blk.new _ _ _
  clear hw
  replace o3 := o3.ext hx
  replace b5 := b5.ext hx
  replace o9 := o9.ext hx
  replace b12 := b12.ext hx
  replace o19 := o19.ext hx
  replace hx0 := hx0.trans hx
  clear hx
  clear zb5_0 zb5_1 zb5_2 qb5
  refine (eqWhole_any d.r d.c d.r d.c A17 A1 d.xs.length d.xs.length k18 k2  d.xs d.xs _ o19.reads o3.reads).mono ?_
  rw [eqWB_refl]
  rintro e w25 ⟨rfl, hx⟩
  replace o3 := o3.ext hx
  replace b5 := b5.ext hx
  replace o9 := o9.ext hx
  replace b12 := b12.ext hx
  replace o19 := o19.ext hx
  replace b23 := b23.ext hx
  replace hx0 := hx0.trans hx
  clear hx
  have zb12_0 := b12.cell 0 rfl
  have zb12_1 := b12.cell 1 rfl
  have zb12_2 := b12.cell 2 rfl
  go_wp2_with fail
  clear zb12_0 zb12_1 zb12_2
  refine (heldWhole_any d.r d.c A7 d.xs.length k8 1 _ (by omega) (by omega) o9.reads).mono ?_
  rintro e w26 ⟨rfl, hx⟩
  replace o3 := o3.ext hx
  replace b5 := b5.ext hx
  replace o9 := o9.ext hx
  replace b12 := b12.ext hx
  replace o19 := o19.ext hx
  replace b23 := b23.ext hx
  replace hx0 := hx0.trans hx
  clear hx
  go_wp2_with fail
  go_ret
  exact ⟨rfl, hx0⟩

end Go.Proofs.Ytcfimkjkolgboaa
