
import Derived.Test.YtdmeobffijhloaaW6

import Derived.Test.YtdmeobffijhloaaB2
set_option linter.unusedVariables false
set_option linter.unusedSimpArgs false

namespace Go.Proofs.Ytdmeobffijhloaa

open Go.RowKit


theorem implSho_any (r c : Int) (A : Option Addr) (nn cap : Nat) (reach : Int) (xs : List Int) (w : World) (hr : Rds w A nn (ints xs)) :
    Calls Try.prog 15 #[.agg #[.int .i64 r, .int .i64 c, .slice A nn cap], .int .i64 reach] w (RetSh w (shoD r c xs reach)) := implShortestOf_any r c A nn cap xs reach w hr
theorem specSho_any (r c : Int) (A : Option Addr) (nn cap : Nat) (reach : Int) (xs : List Int) (w : World) (hr : Rds w A nn (ints xs)) :
    Calls Try.prog 14 #[.agg #[.int .i64 r, .int .i64 c, .slice A nn cap], .int .i64 reach] w (RetSh w (shoD r c xs reach)) := specShortestOf_any r c A nn cap xs reach w hr

set_option maxRecDepth 20000 in
set_option maxHeartbeats 8000000 in
theorem law_ShortestOf (r1 : Int) (c1 : Int) (A1 : Option Addr) (n1 cap1 : Nat) (xs1 : List Int) (x2 : Int) (w : World) (hr1 : Rds w A1 n1 (ints xs1)) :
    Calls Try.prog 4 #[.agg #[.int .i64 r1, .int .i64 c1, .slice A1 n1 cap1], .int .i64 x2] w fun e w' => e = .returned (.bool true) ∧ Ext w w' := by
  have hs_hr1 := hr1.small
  obtain ⟨w0, hw0⟩ : ∃ w0 : World, w0 = (w.alloc (.cells #[.int .i64 r1, .int .i64 c1, .slice A1 n1 cap1] 24)) := ⟨_, rfl⟩
  have b0 : Blk w0 (w.heap.size) #[.int .i64 r1, .int .i64 c1, .slice A1 n1 cap1] 24 := by subst hw0; simpa using (Blk.new w #[.int .i64 r1, .int .i64 c1, .slice A1 n1 cap1] 24)
  have hx0 : Ext w w0 := by subst hw0; exact (Ext.refl _).alloc _
  have Hw0 := Lib.hid hw0
  clear hw0
  have hr10 := hr1; replace hr1 := hr1.below hx0
  obtain ⟨d, hd⟩ : ∃ d : List Int × Int × Bool, d = shoD r1 c1 xs1 x2 := ⟨_, rfl⟩
  have Hd := Lib.hid hd; clear hd
  by_cases hn0 : n1 ≤ 1048576
  rotate_left
  · have HS0 : Hid (szL (n1) (1048576) = -1) := by show szL _ _ = -1; unfold szL; rw [if_pos (by omega)]
    go_enter Try.func4, Try.ntmps4
    have zb0_0 := b0.cell 0 rfl
    have zb0_1 := b0.cell 1 rfl
    have zb0_2 := b0.cell 2 rfl
    go_wp2_with fail
    rw [← Hw0.out]
    clear zb0_0 zb0_1 zb0_2
    refine (szWhole_any r1 c1 A1 n1 cap1 1048576 (by omega) (by omega) _).mono ?_
    rw [HS0.out]
    rintro e w1 ⟨rfl, hx⟩
    replace b0 := b0.ext hx
    replace hr1 := hr1.below hx
    replace hx0 := hx0.trans hx
    clear hx
    go_wp2_with fail
    go_ret
    exact ⟨rfl, hx0⟩
  have HS0 : Hid (szL (n1) (1048576) = 1048576 - (n1 : Int)) := by show szL _ _ = _; unfold szL; rw [if_neg (by omega)]
  go_enter Try.func4, Try.ntmps4
  have zb0_0 := b0.cell 0 rfl
  have zb0_1 := b0.cell 1 rfl
  have zb0_2 := b0.cell 2 rfl
  go_wp2_with fail
  rw [← Hw0.out]
  clear zb0_0 zb0_1 zb0_2
  refine (szWhole_any r1 c1 A1 n1 cap1 1048576 (by omega) (by omega) _).mono ?_
  rw [HS0.out]
  rintro e w1 ⟨rfl, hx⟩
  replace b0 := b0.ext hx
  replace hr1 := hr1.below hx
  replace hx0 := hx0.trans hx
  clear hx
  have zb0_0 := b0.cell 0 rfl
  have zb0_1 := b0.cell 1 rfl
  have zb0_2 := b0.cell 2 rfl
  go_wp2_with fail
  clear zb0_0 zb0_1 zb0_2
  have le_o4 : w.heap.size ≤ w1.heap.size := hx0.size
  refine (toWhole_any r1 c1 A1 n1 cap1 xs1 _ hr1 (by omega)).mono ?_
  rintro e w5 ⟨Ax2, kx3, rfl, o4, hx⟩
  have hs_o4 := o4.small; simp only [ints_length] at hs_o4
  replace b0 := b0.ext hx
  replace hr1 := hr1.below hx
  replace hx0 := hx0.trans hx
  clear hx
  go_wp2_with fail
  have le_o8 : w.heap.size ≤ w5.heap.size := hx0.size
  refine (specSho_any r1 c1 Ax2 n1 kx3 x2 xs1 _ o4.reads).mono ?_
  rw [← Hd.out]
  rintro e w9 ⟨Ax6, kx7, rfl, o8, hx⟩
  have ne10 := o4.ne o8
  have hs_o8 := o8.small; simp only [ints_length] at hs_o8
  replace b0 := b0.ext hx
  replace hr1 := hr1.below hx
  replace o4 := o4.ext hx
  replace hx0 := hx0.trans hx
  clear hx
  have zb0_0 := b0.cell 0 rfl
  have zb0_1 := b0.cell 1 rfl
  have zb0_2 := b0.cell 2 rfl
  go_wp2_with fail
  clear zb0_0 zb0_1 zb0_2
  have le_o13 : w.heap.size ≤ w9.heap.size := hx0.size
  refine (toWhole_any r1 c1 A1 n1 cap1 xs1 _ hr1 (by omega)).mono ?_
  rintro e w14 ⟨Ax11, kx12, rfl, o13, hx⟩
  have ne15 := o4.ne o13
  have ne16 := o8.ne o13
  have hs_o13 := o13.small; simp only [ints_length] at hs_o13
  replace b0 := b0.ext hx
  replace hr1 := hr1.below hx
  replace o4 := o4.ext hx
  replace o8 := o8.ext hx
  replace hx0 := hx0.trans hx
  clear hx
  go_wp2_with fail
  obtain ⟨w18, hw⟩ : ∃ v : World, v = (w14.alloc (.cells #[.int .i64 r1, .int .i64 c1, .slice Ax11 n1 kx12] 31)) := ⟨_, rfl⟩
  rw [← hw]
  have hx : Ext w14 w18 := by subst hw; exact (Ext.refl _).alloc _
  have b17 : Blk w18 w14.heap.size #[.int .i64 r1, .int .i64 c1, .slice Ax11 n1 kx12] 31 := by subst hw; exact Blk.new _ _ _
  clear hw
  replace b0 := b0.ext hx
  replace hr1 := hr1.below hx
  replace o4 := o4.ext hx
  replace o8 := o8.ext hx
  replace o13 := o13.ext hx
  replace hx0 := hx0.trans hx
  clear hx
  have le_o21 : w.heap.size ≤ w18.heap.size := hx0.size
  refine (implSho_any r1 c1 Ax11 n1 kx12 x2 xs1 _ o13.reads).mono ?_
  rw [← Hd.out]
  rintro e w22 ⟨Ax19, kx20, rfl, o21, hx⟩
  have ne23 := o4.ne o21
  have ne24 := o8.ne o21
  have ne25 := o13.ne o21
  have hs_o21 := o21.small; simp only [ints_length] at hs_o21
  replace b0 := b0.ext hx
  replace hr1 := hr1.below hx
  replace o4 := o4.ext hx
  replace o8 := o8.ext hx
  replace o13 := o13.ext hx
  replace b17 := b17.ext hx
  replace hx0 := hx0.trans hx
  clear hx
  go_wp2_with fail
  refine (eqInt64S_any Ax19 Ax6 d.1.length d.1.length kx20 kx7  d.1 d.1 _ o21.reads o8.reads).mono ?_
  rintro e w26 ⟨rfl, hx⟩
  replace b0 := b0.ext hx
  replace hr1 := hr1.below hx
  replace o4 := o4.ext hx
  replace o8 := o8.ext hx
  replace o13 := o13.ext hx
  replace b17 := b17.ext hx
  replace o21 := o21.ext hx
  replace hx0 := hx0.trans hx
  clear hx
  go_wp2_with fail
  have zb17_0 := b17.cell 0 rfl
  have zb17_1 := b17.cell 1 rfl
  have zb17_2 := b17.cell 2 rfl
  have zb0_0 := b0.cell 0 rfl
  have zb0_1 := b0.cell 1 rfl
  have zb0_2 := b0.cell 2 rfl
  refine wp_region_T (cs := []) [0, 1, 2, 3, 4] [] [2, 3] [(3, [2])] (fun i__ v => match i__ with | 2 => ∃ (Ax27 : Option Addr) (kx28 : Nat), v = (.agg #[.int .i64 r1, .int .i64 c1, .slice Ax27 n1 kx28]) | 3 => v = (.bool true) | _ => False) (fun i__ v w' => match i__ with | 2 => OwnF w' w26.heap.size 2 v [2] (ints xs1) | _ => True) (by kernel_rfl) (by kernel_rfl) (by intro i v w' w2 h hx; revert h; (try dsimp only); split <;> intro h <;> first | trivial | exact RdsF.ext h hx | exact OwnF.ext h hx | exact BlkF.ext h hx | exact ⟨RdsF.ext h.1 hx, RdsF.ext h.2 hx⟩ | exact ⟨OwnF.ext h.1 hx, OwnF.ext h.2 hx⟩ | exact ⟨RdsF.ext h.1 hx, RdsF.ext h.2.1 hx, RdsF.ext h.2.2 hx⟩ | exact ⟨OwnF.ext h.1 hx, OwnF.ext h.2.1 hx, OwnF.ext h.2.2 hx⟩) ?_
  refine' wpT_det (o := ⟨some 55, Op.load 31 (Operand.tmp 9), 31, "exact.go:6498", #[], none⟩) rfl (by rfl) (by rfl) (fun w' hw' => ?_) ?_; rotate_left
  · have zb17_0_ := Ext.cell hw' zb17_0; have zb17_1_ := Ext.cell hw' zb17_1; have zb17_2_ := Ext.cell hw' zb17_2; have zb0_0_ := Ext.cell hw' zb0_0; have zb0_1_ := Ext.cell hw' zb0_1; have zb0_2_ := Ext.cell hw' zb0_2; go_simp <;> first | rfl | exact ⟨rfl, rfl⟩
  simp only [Act.put, List.setIfInBounds_toArray, List.set_cons_zero, List.set_cons_succ]
  refine' wpT_det (o := ⟨some 56, Op.load 24 (Operand.tmp 2), 24, "exact.go:6498", #[], none⟩) rfl (by rfl) (by rfl) (fun w' hw' => ?_) ?_; rotate_left
  · have zb17_0_ := Ext.cell hw' zb17_0; have zb17_1_ := Ext.cell hw' zb17_1; have zb17_2_ := Ext.cell hw' zb17_2; have zb0_0_ := Ext.cell hw' zb0_0; have zb0_1_ := Ext.cell hw' zb0_1; have zb0_2_ := Ext.cell hw' zb0_2; go_simp <;> first | rfl | exact ⟨rfl, rfl⟩
  simp only [Act.put, List.setIfInBounds_toArray, List.set_cons_zero, List.set_cons_succ]
  refine wpT_nd (o := ⟨some 57, Op.call { callee := Callee.value (Operand.func 7), args := #[Operand.tmp 56], argTypes := #[24] }, 31, "exact.go:6498", #[{ on := 1, ground := Ground.data }], none⟩) rfl (by rfl) (by rfl) (fun w' hw' hF R__ hGo => ?_) ⟨_, none, 0, rfl⟩ ?_
  · go_simp
    refine gives_enter rfl ?_
    refine (toWhole_any r1 c1 A1 n1 cap1 xs1 _ (hr1.below hw'.undrew) (by omega)).mono ?_
    rintro e w2 ⟨Ax27, kx28, rfl, o29, hx⟩
    exact ⟨_, rfl, hGo _ _ hx ⟨_, _, rfl⟩ (OwnF.of (o29.base hw'.size) rfl)⟩
  rintro _ ⟨Ax27, kx28, rfl⟩
  simp only [Act.put, List.setIfInBounds_toArray, List.set_cons_zero, List.set_cons_succ]
  refine wpT_nd (o := ⟨some 58, Op.call { callee := Callee.value (Operand.func 10), args := #[Operand.tmp 55, Operand.tmp 57], argTypes := #[31, 31] }, 4, "exact.go:6498", #[{ on := 0, ground := Ground.data }, { on := 2, ground := Ground.data }, { on := 2, ground := Ground.chain }], none⟩) rfl (by rfl) (by rfl) (fun w' hw' hF R__ hGo => ?_) ⟨_, rfl⟩ ?_
  · go_simp
    refine gives_enter rfl ?_
    refine (eqWhole_any r1 c1 r1 c1 Ax11 Ax27 n1 n1 kx12 kx28  xs1 xs1 _ (o13.reads.below hw'.undrew) ((hF 2 (by simp [uses]) _ rfl) _ _ _ rfl).reads).mono ?_
    rw [eqWB_refl]
    rintro e w2 ⟨rfl, hx⟩
    exact ⟨_, rfl, hGo _ _ hx rfl trivial⟩
  intro v hv
  obtain rfl : v = (.bool true) := hv
  simp only [Act.put, List.setIfInBounds_toArray, List.set_cons_zero, List.set_cons_succ]
  refine' wpT_det (o := ⟨some 59, Op.unOp UnOp.not 4 (Operand.tmp 58), 4, "exact.go:6498", #[{ on := 3, ground := Ground.data }], none⟩) rfl (by rfl) (by rfl) (fun w' hw' => ?_) ?_; rotate_left
  · go_simp <;> first | rfl | exact ⟨rfl, rfl⟩
  simp only [Act.put, List.setIfInBounds_toArray, List.set_cons_zero, List.set_cons_succ]
  refine wpT_nil (fun w30 hw' hF => ?_)
  refine wpList_nil ?_
  clear zb17_0 zb17_1 zb17_2 zb0_0 zb0_1 zb0_2
  have hx := hw'.undrew; clear hw'
  clear hF
  replace b0 := b0.ext hx
  replace hr1 := hr1.below hx
  replace o4 := o4.ext hx
  replace o8 := o8.ext hx
  replace o13 := o13.ext hx
  replace b17 := b17.ext hx
  replace o21 := o21.ext hx
  replace hx0 := hx0.trans hx
  clear hx
  have zb17_0 := b17.cell 0 rfl
  have zb17_1 := b17.cell 1 rfl
  have zb17_2 := b17.cell 2 rfl
  go_wp2_with fail
  clear zb17_0 zb17_1 zb17_2
  refine (markWhole_any _ r1 c1 Ax11 n1 kx12 _ 1 _ (by omega) o13).mono ?_
  rintro e w31 ⟨rfl, o_, hw⟩
  replace b0 := b0.wr hw o13 (by decide)
  replace o4 := o4.other hw ne15.1
  replace o8 := o8.other hw ne16.1
  replace b17 := b17.wr hw o13 (by decide)
  replace o21 := o21.other hw ne25.2
  replace hx0 := hw.ext hx0 (o13.base le_o13)
  replace hr1 := hr10.below hx0
  clear o13 hw; have o13 := o_; clear o_
  go_wp2_with fail
  refine (eqInt64S_any Ax19 Ax6 d.1.length d.1.length kx20 kx7  d.1 d.1 _ o21.reads o8.reads).mono ?_
  rintro e w32 ⟨rfl, hx⟩
  replace b0 := b0.ext hx
  replace hr1 := hr1.below hx
  replace o4 := o4.ext hx
  replace o8 := o8.ext hx
  replace o13 := o13.ext hx
  replace b17 := b17.ext hx
  replace o21 := o21.ext hx
  replace hx0 := hx0.trans hx
  clear hx
  go_wp2_with fail
  refine (markInt64S_any _ Ax19 d.1.length kx20 _ 1 _ (by omega) o21).mono ?_
  rintro e w33 ⟨rfl, o_, hw⟩
  replace b0 := b0.wr hw o21 (by decide)
  replace o4 := o4.other hw ne23.1
  replace o8 := o8.other hw ne24.1
  replace o13 := o13.other hw ne25.1
  replace b17 := b17.wr hw o21 (by decide)
  replace hx0 := hw.ext hx0 (o21.base le_o21)
  replace hr1 := hr10.below hx0
  clear o21 hw; have o21 := o_; clear o_
  go_wp2_with fail
  refine (heldInt64S_any Ax19 d.1.length kx20 1 _ (by omega) (by omega) o21.reads).mono ?_
  rintro e w34 ⟨rfl, hx⟩
  replace b0 := b0.ext hx
  replace hr1 := hr1.below hx
  replace o4 := o4.ext hx
  replace o8 := o8.ext hx
  replace o13 := o13.ext hx
  replace b17 := b17.ext hx
  replace o21 := o21.ext hx
  replace hx0 := hx0.trans hx
  clear hx
  have zb0_0 := b0.cell 0 rfl
  have zb0_1 := b0.cell 1 rfl
  have zb0_2 := b0.cell 2 rfl
  go_wp2_with fail
  clear zb0_0 zb0_1 zb0_2
  have le_o37 : w.heap.size ≤ w34.heap.size := hx0.size
  refine (toWhole_any r1 c1 A1 n1 cap1 xs1 _ hr1 (by omega)).mono ?_
  rintro e w38 ⟨Ax35, kx36, rfl, o37, hx⟩
  have ne39 := o4.ne o37
  have ne40 := o8.ne o37
  have ne41 := o13.ne o37
  have ne42 := o21.ne o37
  have hs_o37 := o37.small; simp only [ints_length] at hs_o37
  replace b0 := b0.ext hx
  replace hr1 := hr1.below hx
  replace o4 := o4.ext hx
  replace o8 := o8.ext hx
  replace o13 := o13.ext hx
  replace b17 := b17.ext hx
  replace o21 := o21.ext hx
  replace hx0 := hx0.trans hx
  clear hx
  go_wp2_with fail
  have le_o45 : w.heap.size ≤ w38.heap.size := hx0.size
  refine (implSho_any r1 c1 Ax35 n1 kx36 x2 xs1 _ o37.reads).mono ?_
  rw [← Hd.out]
  rintro e w46 ⟨Ax43, kx44, rfl, o45, hx⟩
  have ne47 := o4.ne o45
  have ne48 := o8.ne o45
  have ne49 := o13.ne o45
  have ne50 := o21.ne o45
  have ne51 := o37.ne o45
  have hs_o45 := o45.small; simp only [ints_length] at hs_o45
  replace b0 := b0.ext hx
  replace hr1 := hr1.below hx
  replace o4 := o4.ext hx
  replace o8 := o8.ext hx
  replace o13 := o13.ext hx
  replace b17 := b17.ext hx
  replace o21 := o21.ext hx
  replace o37 := o37.ext hx
  replace hx0 := hx0.trans hx
  clear hx
  go_wp2_with fail
  refine (eqInt64S_any Ax43 Ax6 d.1.length d.1.length kx44 kx7  d.1 d.1 _ o45.reads o8.reads).mono ?_
  rintro e w52 ⟨rfl, hx⟩
  replace b0 := b0.ext hx
  replace hr1 := hr1.below hx
  replace o4 := o4.ext hx
  replace o8 := o8.ext hx
  replace o13 := o13.ext hx
  replace b17 := b17.ext hx
  replace o21 := o21.ext hx
  replace o37 := o37.ext hx
  replace o45 := o45.ext hx
  replace hx0 := hx0.trans hx
  clear hx
  go_wp2_with fail
  refine (heldInt64S_any Ax19 d.1.length kx20 1 _ (by omega) (by omega) o21.reads).mono ?_
  rintro e w53 ⟨rfl, hx⟩
  replace b0 := b0.ext hx
  replace hr1 := hr1.below hx
  replace o4 := o4.ext hx
  replace o8 := o8.ext hx
  replace o13 := o13.ext hx
  replace b17 := b17.ext hx
  replace o21 := o21.ext hx
  replace o37 := o37.ext hx
  replace o45 := o45.ext hx
  replace hx0 := hx0.trans hx
  clear hx
  go_wp2_with fail
  go_ret
  exact ⟨rfl, hx0⟩

end Go.Proofs.Ytdmeobffijhloaa
