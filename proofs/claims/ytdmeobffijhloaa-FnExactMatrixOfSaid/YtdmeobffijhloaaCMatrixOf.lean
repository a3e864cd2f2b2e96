
import Derived.Test.YtdmeobffijhloaaW1

import Derived.Test.YtdmeobffijhloaaB3M

import Derived.Test.YtdmeobffijhloaaB2
set_option linter.unusedVariables false
set_option linter.unusedSimpArgs false

namespace Go.Proofs.Ytdmeobffijhloaa

open Go.RowKit


set_option maxRecDepth 20000 in
set_option maxHeartbeats 8000000 in
theorem law_MatrixOf (r : Int) (c : Int) (A : Option Addr) (n cap : Nat) (xs : List Int) (w : World) (hr : Rds w A n (ints xs)) :
    Calls Try.prog 3 #[.agg #[.int .i64 r, .int .i64 c, .slice A n cap]] w fun e w' => e = .returned (.bool true) ∧ Ext w w' := by
  have hs_hr := hr.small
  obtain ⟨w0, hw0⟩ : ∃ w0 : World, w0 = (w.alloc (.cells #[.int .i64 r, .int .i64 c, .slice A n cap] 24)) := ⟨_, rfl⟩
  have b0 : Blk w0 (w.heap.size) #[.int .i64 r, .int .i64 c, .slice A n cap] 24 := by subst hw0; simpa using (Blk.new w #[.int .i64 r, .int .i64 c, .slice A n cap] 24)
  have hx0 : Ext w w0 := by subst hw0; exact (Ext.refl _).alloc _
  have Hw0 := Lib.hid hw0
  clear hw0
  have hr0 := hr; replace hr := hr.below hx0
  obtain ⟨d, hd⟩ : ∃ d : MD, d = mfD r c xs := ⟨_, rfl⟩
  have Hd := Lib.hid hd; clear hd
  by_cases hn0 : n ≤ 1048576
  rotate_left
  · have HS0 : Hid (szL (n) (1048576) = -1) := by show szL _ _ = -1; unfold szL; rw [if_pos (by omega)]
    go_enter Try.func3, Try.ntmps3
    have zb0_0 := b0.cell 0 rfl
    have zb0_1 := b0.cell 1 rfl
    have zb0_2 := b0.cell 2 rfl
    go_wp2_with fail
    rw [← Hw0.out]
    clear zb0_0 zb0_1 zb0_2
    refine (szWhole_any r c A n cap 1048576 (by omega) (by omega) _).mono ?_
    rw [HS0.out]
    rintro e w1 ⟨rfl, hx⟩
    replace b0 := b0.ext hx
    replace hr := hr.below hx
    replace hx0 := hx0.trans hx
    clear hx
    go_wp2_with fail
    go_ret
    exact ⟨rfl, hx0⟩
  have HS0 : Hid (szL (n) (1048576) = 1048576 - (n : Int)) := by show szL _ _ = _; unfold szL; rw [if_neg (by omega)]
  go_enter Try.func3, Try.ntmps3
  have zb0_0 := b0.cell 0 rfl
  have zb0_1 := b0.cell 1 rfl
  have zb0_2 := b0.cell 2 rfl
  go_wp2_with fail
  rw [← Hw0.out]
  clear zb0_0 zb0_1 zb0_2
  refine (szWhole_any r c A n cap 1048576 (by omega) (by omega) _).mono ?_
  rw [HS0.out]
  rintro e w1 ⟨rfl, hx⟩
  replace b0 := b0.ext hx
  replace hr := hr.below hx
  replace hx0 := hx0.trans hx
  clear hx
  have zb0_0 := b0.cell 0 rfl
  have zb0_1 := b0.cell 1 rfl
  have zb0_2 := b0.cell 2 rfl
  go_wp2_with fail
  clear zb0_0 zb0_1 zb0_2
  have le_o4 : w.heap.size ≤ w1.heap.size := hx0.size
  refine (toWhole_any r c A n cap xs _ hr (by omega)).mono ?_
  rintro e w5 ⟨Ax2, kx3, rfl, o4, hx⟩
  have hs_o4 := o4.small; simp only [ints_length] at hs_o4
  replace b0 := b0.ext hx
  replace hr := hr.below hx
  replace hx0 := hx0.trans hx
  clear hx
  go_wp2_with fail
  have le_o8 : w.heap.size ≤ w5.heap.size := hx0.size
  refine (specMatrixOf_any r c Ax2 n kx3 xs _ o4.reads).mono ?_
  rw [← Hd.out]
  rintro e w9 ⟨Ax6, kx7, rfl, o8, hx⟩
  have ne10 := o4.ne o8
  have hs_o8 := o8.small; simp only [flts_length] at hs_o8
  replace b0 := b0.ext hx
  replace hr := hr.below hx
  replace o4 := o4.ext hx
  replace hx0 := hx0.trans hx
  clear hx
  have zb0_0 := b0.cell 0 rfl
  have zb0_1 := b0.cell 1 rfl
  have zb0_2 := b0.cell 2 rfl
  have qb0 := b0.lt
  go_wp2_with fail
  obtain ⟨w12, hw⟩ : ∃ v : World, v = (w9.alloc (.cells #[.int .i64 d.r, .int .i64 d.c, .slice Ax6 d.xs.length kx7] 28)) := ⟨_, rfl⟩
  rw [← hw]
  have hx : Ext w9 w12 := by subst hw; exact (Ext.refl _).alloc _
  have b11 : Blk w12 w9.heap.size #[.int .i64 d.r, .int .i64 d.c, .slice Ax6 d.xs.length kx7] 28 := by subst hw; exact Blk.new _ _ _
  clear hw
  replace b0 := b0.ext hx
  replace hr := hr.below hx
  replace o4 := o4.ext hx
  replace o8 := o8.ext hx
  replace hx0 := hx0.trans hx
  clear hx
  clear zb0_0 zb0_1 zb0_2 qb0
  have le_o15 : w.heap.size ≤ w12.heap.size := hx0.size
  refine (toWhole_any r c A n cap xs _ hr (by omega)).mono ?_
  rintro e w16 ⟨Ax13, kx14, rfl, o15, hx⟩
  have ne17 := o4.ne o15
  have ne18 := o8.ne o15
  have hs_o15 := o15.small; simp only [ints_length] at hs_o15
  replace b0 := b0.ext hx
  replace hr := hr.below hx
  replace o4 := o4.ext hx
  replace o8 := o8.ext hx
  replace b11 := b11.ext hx
  replace hx0 := hx0.trans hx
  clear hx
  go_wp2_with fail
  obtain ⟨w20, hw⟩ : ∃ v : World, v = (w16.alloc (.cells #[.int .i64 r, .int .i64 c, .slice Ax13 n kx14] 31)) := ⟨_, rfl⟩
  rw [← hw]
  have hx : Ext w16 w20 := by subst hw; exact (Ext.refl _).alloc _
  have b19 : Blk w20 w16.heap.size #[.int .i64 r, .int .i64 c, .slice Ax13 n kx14] 31 := by subst hw; exact Blk.new _ _ _
  clear hw
  replace b0 := b0.ext hx
  replace hr := hr.below hx
  replace o4 := o4.ext hx
  replace o8 := o8.ext hx
  replace b11 := b11.ext hx
  replace o15 := o15.ext hx
  replace hx0 := hx0.trans hx
  clear hx
  have le_o23 : w.heap.size ≤ w20.heap.size := hx0.size
  refine (implMatrixOf_any r c Ax13 n kx14 xs _ o15.reads).mono ?_
  rw [← Hd.out]
  rintro e w24 ⟨Ax21, kx22, rfl, o23, hx⟩
  have ne25 := o4.ne o23
  have ne26 := o8.ne o23
  have ne27 := o15.ne o23
  have hs_o23 := o23.small; simp only [flts_length] at hs_o23
  replace b0 := b0.ext hx
  replace hr := hr.below hx
  replace o4 := o4.ext hx
  replace o8 := o8.ext hx
  replace b11 := b11.ext hx
  replace o15 := o15.ext hx
  replace b19 := b19.ext hx
  replace hx0 := hx0.trans hx
  clear hx
  have zb11_0 := b11.cell 0 rfl
  have zb11_1 := b11.cell 1 rfl
  have zb11_2 := b11.cell 2 rfl
  have qb11 := b11.lt
  go_wp2_with fail
  obtain ⟨w29, hw⟩ : ∃ v : World, v = (w24.alloc (.cells #[.int .i64 d.r, .int .i64 d.c, .slice Ax21 d.xs.length kx22] 28)) := ⟨_, rfl⟩
  rw [← hw]
  have hx : Ext w24 w29 := by subst hw; exact (Ext.refl _).alloc _
  have b28 : Blk w29 w24.heap.size #[.int .i64 d.r, .int .i64 d.c, .slice Ax21 d.xs.length kx22] 28 := by subst hw; exact Blk.new _ _ _
  clear hw
  replace b0 := b0.ext hx
  replace hr := hr.below hx
  replace o4 := o4.ext hx
  replace o8 := o8.ext hx
  replace b11 := b11.ext hx
  replace o15 := o15.ext hx
  replace b19 := b19.ext hx
  replace o23 := o23.ext hx
  replace hx0 := hx0.trans hx
  clear hx
  clear zb11_0 zb11_1 zb11_2 qb11
  refine (eqMatrix_any d.r d.c d.r d.c Ax21 Ax6 d.xs.length d.xs.length kx22 kx7  d.xs d.xs _ o23.reads o8.reads ⟨rfl, rfl, rfl⟩).mono ?_
  rintro e w30 ⟨rfl, hx⟩
  replace b0 := b0.ext hx
  replace hr := hr.below hx
  replace o4 := o4.ext hx
  replace o8 := o8.ext hx
  replace b11 := b11.ext hx
  replace o15 := o15.ext hx
  replace b19 := b19.ext hx
  replace o23 := o23.ext hx
  replace b28 := b28.ext hx
  replace hx0 := hx0.trans hx
  clear hx
  go_wp2_with fail
  have zb19_0 := b19.cell 0 rfl
  have zb19_1 := b19.cell 1 rfl
  have zb19_2 := b19.cell 2 rfl
  have zb0_0 := b0.cell 0 rfl
  have zb0_1 := b0.cell 1 rfl
  have zb0_2 := b0.cell 2 rfl
  refine wp_region_T (cs := []) [0, 1, 2, 3, 4] [] [2, 3] [(3, [2])] (fun i__ v => match i__ with | 2 => ∃ (Ax31 : Option Addr) (kx32 : Nat), v = (.agg #[.int .i64 r, .int .i64 c, .slice Ax31 n kx32]) | 3 => v = (.bool true) | _ => False) (fun i__ v w' => match i__ with | 2 => OwnF w' w30.heap.size 2 v [2] (ints xs) | _ => True) (by kernel_rfl) (by kernel_rfl) (by intro i v w' w2 h hx; revert h; (try dsimp only); split <;> intro h <;> first | trivial | exact RdsF.ext h hx | exact OwnF.ext h hx | exact BlkF.ext h hx | exact ⟨RdsF.ext h.1 hx, RdsF.ext h.2 hx⟩ | exact ⟨OwnF.ext h.1 hx, OwnF.ext h.2 hx⟩ | exact ⟨RdsF.ext h.1 hx, RdsF.ext h.2.1 hx, RdsF.ext h.2.2 hx⟩ | exact ⟨OwnF.ext h.1 hx, OwnF.ext h.2.1 hx, OwnF.ext h.2.2 hx⟩) ?_
  refine' wpT_det (o := ⟨some 41, Op.load 31 (Operand.tmp 6), 31, "exact.go:5928", #[], none⟩) rfl (by rfl) (by rfl) (fun w' hw' => ?_) ?_; rotate_left
  · have zb19_0_ := Ext.cell hw' zb19_0; have zb19_1_ := Ext.cell hw' zb19_1; have zb19_2_ := Ext.cell hw' zb19_2; have zb0_0_ := Ext.cell hw' zb0_0; have zb0_1_ := Ext.cell hw' zb0_1; have zb0_2_ := Ext.cell hw' zb0_2; go_simp <;> first | rfl | exact ⟨rfl, rfl⟩
  simp only [Act.put, List.setIfInBounds_toArray, List.set_cons_zero, List.set_cons_succ]
  refine' wpT_det (o := ⟨some 42, Op.load 24 (Operand.tmp 1), 24, "exact.go:5928", #[], none⟩) rfl (by rfl) (by rfl) (fun w' hw' => ?_) ?_; rotate_left
  · have zb19_0_ := Ext.cell hw' zb19_0; have zb19_1_ := Ext.cell hw' zb19_1; have zb19_2_ := Ext.cell hw' zb19_2; have zb0_0_ := Ext.cell hw' zb0_0; have zb0_1_ := Ext.cell hw' zb0_1; have zb0_2_ := Ext.cell hw' zb0_2; go_simp <;> first | rfl | exact ⟨rfl, rfl⟩
  simp only [Act.put, List.setIfInBounds_toArray, List.set_cons_zero, List.set_cons_succ]
  refine wpT_nd (o := ⟨some 43, Op.call { callee := Callee.value (Operand.func 7), args := #[Operand.tmp 42], argTypes := #[24] }, 31, "exact.go:5928", #[{ on := 1, ground := Ground.data }], none⟩) rfl (by rfl) (by rfl) (fun w' hw' hF R__ hGo => ?_) ⟨_, none, 0, rfl⟩ ?_
  · go_simp
    refine gives_enter rfl ?_
    refine (toWhole_any r c A n cap xs _ (hr.below hw'.undrew) (by omega)).mono ?_
    rintro e w2 ⟨Ax31, kx32, rfl, o33, hx⟩
    exact ⟨_, rfl, hGo _ _ hx ⟨_, _, rfl⟩ (OwnF.of (o33.base hw'.size) rfl)⟩
  rintro _ ⟨Ax31, kx32, rfl⟩
  simp only [Act.put, List.setIfInBounds_toArray, List.set_cons_zero, List.set_cons_succ]
  refine wpT_nd (o := ⟨some 44, Op.call { callee := Callee.value (Operand.func 10), args := #[Operand.tmp 41, Operand.tmp 43], argTypes := #[31, 31] }, 4, "exact.go:5928", #[{ on := 0, ground := Ground.data }, { on := 2, ground := Ground.data }, { on := 2, ground := Ground.chain }], none⟩) rfl (by rfl) (by rfl) (fun w' hw' hF R__ hGo => ?_) ⟨_, rfl⟩ ?_
  · go_simp
    refine gives_enter rfl ?_
    refine (eqWhole_any r c r c Ax13 Ax31 n n kx14 kx32  xs xs _ (o15.reads.below hw'.undrew) ((hF 2 (by simp [uses]) _ rfl) _ _ _ rfl).reads).mono ?_
    rw [eqWB_refl]
    rintro e w2 ⟨rfl, hx⟩
    exact ⟨_, rfl, hGo _ _ hx rfl trivial⟩
  intro v hv
  obtain rfl : v = (.bool true) := hv
  simp only [Act.put, List.setIfInBounds_toArray, List.set_cons_zero, List.set_cons_succ]
  refine' wpT_det (o := ⟨some 45, Op.unOp UnOp.not 4 (Operand.tmp 44), 4, "exact.go:5928", #[{ on := 3, ground := Ground.data }], none⟩) rfl (by rfl) (by rfl) (fun w' hw' => ?_) ?_; rotate_left
  · go_simp <;> first | rfl | exact ⟨rfl, rfl⟩
  simp only [Act.put, List.setIfInBounds_toArray, List.set_cons_zero, List.set_cons_succ]
  refine wpT_nil (fun w34 hw' hF => ?_)
  refine wpList_nil ?_
  clear zb19_0 zb19_1 zb19_2 zb0_0 zb0_1 zb0_2
  have hx := hw'.undrew; clear hw'
  clear hF
  replace b0 := b0.ext hx
  replace hr := hr.below hx
  replace o4 := o4.ext hx
  replace o8 := o8.ext hx
  replace b11 := b11.ext hx
  replace o15 := o15.ext hx
  replace b19 := b19.ext hx
  replace o23 := o23.ext hx
  replace b28 := b28.ext hx
  replace hx0 := hx0.trans hx
  clear hx
  have zb19_0 := b19.cell 0 rfl
  have zb19_1 := b19.cell 1 rfl
  have zb19_2 := b19.cell 2 rfl
  go_wp2_with fail
  clear zb19_0 zb19_1 zb19_2
  refine (markWhole_any _ r c Ax13 n kx14 _ 1 _ (by omega) o15).mono ?_
  rintro e w35 ⟨rfl, o_, hw⟩
  replace b0 := b0.wr hw o15 (by decide)
  replace o4 := o4.other hw ne17.1
  replace o8 := o8.other hw ne18.1
  replace b11 := b11.wr hw o15 (by decide)
  replace b19 := b19.wr hw o15 (by decide)
  replace o23 := o23.other hw ne27.2
  replace b28 := b28.wr hw o15 (by decide)
  replace hx0 := hw.ext hx0 (o15.base le_o15)
  replace hr := hr0.below hx0
  clear o15 hw; have o15 := o_; clear o_
  have zb28_0 := b28.cell 0 rfl
  have zb28_1 := b28.cell 1 rfl
  have zb28_2 := b28.cell 2 rfl
  have zb11_0 := b11.cell 0 rfl
  have zb11_1 := b11.cell 1 rfl
  have zb11_2 := b11.cell 2 rfl
  go_wp2_with fail
  clear zb28_0 zb28_1 zb28_2 zb11_0 zb11_1 zb11_2
  refine (eqMatrix_any d.r d.c d.r d.c Ax21 Ax6 d.xs.length d.xs.length kx22 kx7  d.xs d.xs _ o23.reads o8.reads ⟨rfl, rfl, rfl⟩).mono ?_
  rintro e w36 ⟨rfl, hx⟩
  replace b0 := b0.ext hx
  replace hr := hr.below hx
  replace o4 := o4.ext hx
  replace o8 := o8.ext hx
  replace b11 := b11.ext hx
  replace o15 := o15.ext hx
  replace b19 := b19.ext hx
  replace o23 := o23.ext hx
  replace b28 := b28.ext hx
  replace hx0 := hx0.trans hx
  clear hx
  have zb28_0 := b28.cell 0 rfl
  have zb28_1 := b28.cell 1 rfl
  have zb28_2 := b28.cell 2 rfl
  go_wp2_with fail
  clear zb28_0 zb28_1 zb28_2
  refine (markMatrix_any _ d.r d.c Ax21 d.xs.length kx22 _ 1 _ (by omega) o23).mono ?_
  rintro e w37 ⟨rfl, o_, hw⟩
  replace b0 := b0.wr hw o23 (by decide)
  replace o4 := o4.other hw ne25.1
  replace o8 := o8.other hw ne26.1
  replace b11 := b11.wr hw o23 (by decide)
  replace o15 := o15.other hw ne27.1
  replace b19 := b19.wr hw o23 (by decide)
  replace b28 := b28.wr hw o23 (by decide)
  replace hx0 := hw.ext hx0 (o23.base le_o23)
  replace hr := hr0.below hx0
  clear o23 hw; have o23 := o_; clear o_
  have zb28_0 := b28.cell 0 rfl
  have zb28_1 := b28.cell 1 rfl
  have zb28_2 := b28.cell 2 rfl
  go_wp2_with fail
  clear zb28_0 zb28_1 zb28_2
  refine (heldMatrix_any d.r d.c Ax21 d.xs.length kx22 1 _ (by omega) (by omega) o23.reads).mono ?_
  rintro e w38 ⟨rfl, hx⟩
  replace b0 := b0.ext hx
  replace hr := hr.below hx
  replace o4 := o4.ext hx
  replace o8 := o8.ext hx
  replace b11 := b11.ext hx
  replace o15 := o15.ext hx
  replace b19 := b19.ext hx
  replace o23 := o23.ext hx
  replace b28 := b28.ext hx
  replace hx0 := hx0.trans hx
  clear hx
  have zb0_0 := b0.cell 0 rfl
  have zb0_1 := b0.cell 1 rfl
  have zb0_2 := b0.cell 2 rfl
  go_wp2_with fail
  clear zb0_0 zb0_1 zb0_2
  have le_o41 : w.heap.size ≤ w38.heap.size := hx0.size
  refine (toWhole_any r c A n cap xs _ hr (by omega)).mono ?_
  rintro e w42 ⟨Ax39, kx40, rfl, o41, hx⟩
  have ne43 := o4.ne o41
  have ne44 := o8.ne o41
  have ne45 := o15.ne o41
  have ne46 := o23.ne o41
  have hs_o41 := o41.small; simp only [ints_length] at hs_o41
  replace b0 := b0.ext hx
  replace hr := hr.below hx
  replace o4 := o4.ext hx
  replace o8 := o8.ext hx
  replace b11 := b11.ext hx
  replace o15 := o15.ext hx
  replace b19 := b19.ext hx
  replace o23 := o23.ext hx
  replace b28 := b28.ext hx
  replace hx0 := hx0.trans hx
  clear hx
  go_wp2_with fail
  have le_o49 : w.heap.size ≤ w42.heap.size := hx0.size
  refine (implMatrixOf_any r c Ax39 n kx40 xs _ o41.reads).mono ?_
  rw [← Hd.out]
  rintro e w50 ⟨Ax47, kx48, rfl, o49, hx⟩
  have ne51 := o4.ne o49
  have ne52 := o8.ne o49
  have ne53 := o15.ne o49
  have ne54 := o23.ne o49
  have ne55 := o41.ne o49
  have hs_o49 := o49.small; simp only [flts_length] at hs_o49
  replace b0 := b0.ext hx
  replace hr := hr.below hx
  replace o4 := o4.ext hx
  replace o8 := o8.ext hx
  replace b11 := b11.ext hx
  replace o15 := o15.ext hx
  replace b19 := b19.ext hx
  replace o23 := o23.ext hx
  replace b28 := b28.ext hx
  replace o41 := o41.ext hx
  replace hx0 := hx0.trans hx
  clear hx
  have zb11_0 := b11.cell 0 rfl
  have zb11_1 := b11.cell 1 rfl
  have zb11_2 := b11.cell 2 rfl
  have qb11 := b11.lt
  go_wp2_with fail
  obtain ⟨w57, hw⟩ : ∃ v : World, v = (w50.alloc (.cells #[.int .i64 d.r, .int .i64 d.c, .slice Ax47 d.xs.length kx48] 28)) := ⟨_, rfl⟩
  rw [← hw]
  have hx : Ext w50 w57 := by subst hw; exact (Ext.refl _).alloc _
  have b56 : Blk w57 w50.heap.size #[.int .i64 d.r, .int .i64 d.c, .slice Ax47 d.xs.length kx48] 28 := by subst hw; exact Blk.new _ _ _
  clear hw
  replace b0 := b0.ext hx
  replace hr := hr.below hx
  replace o4 := o4.ext hx
  replace o8 := o8.ext hx
  replace b11 := b11.ext hx
  replace o15 := o15.ext hx
  replace b19 := b19.ext hx
  replace o23 := o23.ext hx
  replace b28 := b28.ext hx
  replace o41 := o41.ext hx
  replace o49 := o49.ext hx
  replace hx0 := hx0.trans hx
  clear hx
  clear zb11_0 zb11_1 zb11_2 qb11
  refine (eqMatrix_any d.r d.c d.r d.c Ax47 Ax6 d.xs.length d.xs.length kx48 kx7  d.xs d.xs _ o49.reads o8.reads ⟨rfl, rfl, rfl⟩).mono ?_
  rintro e w58 ⟨rfl, hx⟩
  replace b0 := b0.ext hx
  replace hr := hr.below hx
  replace o4 := o4.ext hx
  replace o8 := o8.ext hx
  replace b11 := b11.ext hx
  replace o15 := o15.ext hx
  replace b19 := b19.ext hx
  replace o23 := o23.ext hx
  replace b28 := b28.ext hx
  replace o41 := o41.ext hx
  replace o49 := o49.ext hx
  replace b56 := b56.ext hx
  replace hx0 := hx0.trans hx
  clear hx
  have zb28_0 := b28.cell 0 rfl
  have zb28_1 := b28.cell 1 rfl
  have zb28_2 := b28.cell 2 rfl
  go_wp2_with fail
  clear zb28_0 zb28_1 zb28_2
  refine (heldMatrix_any d.r d.c Ax21 d.xs.length kx22 1 _ (by omega) (by omega) o23.reads).mono ?_
  rintro e w59 ⟨rfl, hx⟩
  replace b0 := b0.ext hx
  replace hr := hr.below hx
  replace o4 := o4.ext hx
  replace o8 := o8.ext hx
  replace b11 := b11.ext hx
  replace o15 := o15.ext hx
  replace b19 := b19.ext hx
  replace o23 := o23.ext hx
  replace b28 := b28.ext hx
  replace o41 := o41.ext hx
  replace o49 := o49.ext hx
  replace b56 := b56.ext hx
  replace hx0 := hx0.trans hx
  clear hx
  go_wp2_with fail
  go_ret
  exact ⟨rfl, hx0⟩

end Go.Proofs.Ytdmeobffijhloaa
