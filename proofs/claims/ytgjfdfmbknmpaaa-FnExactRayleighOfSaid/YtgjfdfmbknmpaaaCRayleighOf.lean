import Derived.Test.YtgjfdfmbknmpaaaM32
import Derived.Test.YtgjfdfmbknmpaaaB3M
set_option linter.unusedVariables false
set_option linter.unusedSimpArgs false
namespace Go.Proofs.Ytgjfdfmbknmpaaa
open Go.RowKit

set_option maxRecDepth 20000 in
set_option maxHeartbeats 8000000 in
theorem law_RayleighOf (r1 : Int) (c1 : Int) (A1 : Option Addr) (n1 cap1 : Nat) (xs1 : List Nat) (A2 : Option Addr) (n2 cap2 : Nat) (xs2 : List Nat) (w : World) (hr1 : Rds w A1 n1 (flts xs1)) (hr2 : Rds w A2 n2 (flts xs2)) :
    Calls Try.prog 23 #[.agg #[.int .i64 r1, .int .i64 c1, .slice A1 n1 cap1], .slice A2 n2 cap2] w fun e w' => e = .returned (.bool true) ∧ Ext w w' := by
  have hs_hr1 := hr1.small
  have hs_hr2 := hr2.small
  obtain ⟨w0, hw0⟩ : ∃ w0 : World, w0 = (w.alloc (.cells #[.int .i64 r1, .int .i64 c1, .slice A1 n1 cap1] 32)) := ⟨_, rfl⟩
  have b0 : Blk w0 (w.heap.size) #[.int .i64 r1, .int .i64 c1, .slice A1 n1 cap1] 32 := by subst hw0; simpa using (Blk.new w #[.int .i64 r1, .int .i64 c1, .slice A1 n1 cap1] 32)
  have hx0 : Ext w w0 := by subst hw0; exact (Ext.refl _).alloc _
  have Hw0 := Lib.hid hw0
  clear hw0
  have hr10 := hr1; replace hr1 := hr1.below hx0
  have hr20 := hr2; replace hr2 := hr2.below hx0
  obtain ⟨d, hd⟩ : ∃ d : Nat × Bool, d = rayD r1 c1 xs1 xs2 := ⟨_, rfl⟩
  have Hd := Lib.hid hd; clear hd
  have hfn0 : isFin .f32 d.1 = true := by rw [Hd.out]; exact rayD_fin _ _ _ _
  obtain ⟨yv0, hcv0⟩ := conv_fin hfn0
  clear hfn0
  by_cases hm0 : n2 ≤ 1048576
  rotate_left
  · go_enter Try.func23, Try.ntmps23
    go_wp2_with fail
    go_ret
    exact ⟨rfl, by first | exact hx0 | (rw [← Hw0.out]; exact hx0) | exact Ext.refl _⟩
  by_cases hn0 : n1 ≤ 1048576
  rotate_left
  · have HS0 : Hid (szL (n1) (1048576) = -1) := by show szL _ _ = -1; unfold szL; rw [if_pos (by omega)]
    go_enter Try.func23, Try.ntmps23
    have zb0_0 := b0.cell 0 rfl
    have zb0_1 := b0.cell 1 rfl
    have zb0_2 := b0.cell 2 rfl
    go_wp2_with fail
    rw [← Hw0.out]
    clear zb0_0 zb0_1 zb0_2
    refine (szMatrix_any r1 c1 A1 n1 cap1 1048576 (by omega) (by omega) _).mono ?_
    rw [HS0.out]
    rintro e w1 ⟨rfl, hx⟩
    replace b0 := b0.ext hx
    replace hr1 := hr1.below hx
    replace hr2 := hr2.below hx
    replace hx0 := hx0.trans hx
    clear hx
    go_wp2_with fail
    go_ret
    exact ⟨rfl, hx0⟩
  have HS0 : Hid (szL (n1) (1048576) = 1048576 - (n1 : Int)) := by show szL _ _ = _; unfold szL; rw [if_neg (by omega)]
  go_enter Try.func23, Try.ntmps23
  have zb0_0 := b0.cell 0 rfl
  have zb0_1 := b0.cell 1 rfl
  have zb0_2 := b0.cell 2 rfl
  go_wp2_with fail
  rw [← Hw0.out]
  clear zb0_0 zb0_1 zb0_2
  refine (szMatrix_any r1 c1 A1 n1 cap1 1048576 (by omega) (by omega) _).mono ?_
  rw [HS0.out]
  rintro e w1 ⟨rfl, hx⟩
  replace b0 := b0.ext hx
  replace hr1 := hr1.below hx
  replace hr2 := hr2.below hx
  replace hx0 := hx0.trans hx
  clear hx
  have zb0_0 := b0.cell 0 rfl
  have zb0_1 := b0.cell 1 rfl
  have zb0_2 := b0.cell 2 rfl
  go_wp2_with fail
  clear zb0_0 zb0_1 zb0_2
  have le_o4 : w.heap.size ≤ w1.heap.size := hx0.size
  refine (toMatrix_any r1 c1 A1 n1 cap1 xs1 _ hr1 (by omega)).mono ?_
  rintro e w5 ⟨Ax2, kx3, rfl, o4, hx⟩
  have hs_o4 := o4.small; simp only [flts_length] at hs_o4
  replace b0 := b0.ext hx
  replace hr1 := hr1.below hx
  replace hr2 := hr2.below hx
  replace hx0 := hx0.trans hx
  clear hx
  go_wp2_with fail
  have le_o8 : w.heap.size ≤ w5.heap.size := hx0.size
  refine (toFloat32S_any A2 n2 cap2 xs2 _ hr2 (by omega)).mono ?_
  rintro e w9 ⟨Ax6, kx7, rfl, o8, hx⟩
  have ne10 := o4.ne o8
  have hs_o8 := o8.small; simp only [flts_length] at hs_o8
  replace b0 := b0.ext hx
  replace hr1 := hr1.below hx
  replace hr2 := hr2.below hx
  replace o4 := o4.ext hx
  replace hx0 := hx0.trans hx
  clear hx
  go_wp2_with fail
  refine (specRayleighOf_any r1 c1 Ax2 n1 kx3 Ax6 n2 kx7 xs1 xs2 _ o4.reads o8.reads o4.cap o8.cap).mono ?_
  rw [← Hd.out]
  rintro e w11 ⟨rfl, hx⟩
  replace b0 := b0.ext hx
  replace hr1 := hr1.below hx
  replace hr2 := hr2.below hx
  replace o4 := o4.ext hx
  replace o8 := o8.ext hx
  replace hx0 := hx0.trans hx
  clear hx
  have zb0_0 := b0.cell 0 rfl
  have zb0_1 := b0.cell 1 rfl
  have zb0_2 := b0.cell 2 rfl
  go_wp2_with fail
  clear zb0_0 zb0_1 zb0_2
  have le_o14 : w.heap.size ≤ w11.heap.size := hx0.size
  refine (toMatrix_any r1 c1 A1 n1 cap1 xs1 _ hr1 (by omega)).mono ?_
  rintro e w15 ⟨Ax12, kx13, rfl, o14, hx⟩
  have ne16 := o4.ne o14
  have ne17 := o8.ne o14
  have hs_o14 := o14.small; simp only [flts_length] at hs_o14
  replace b0 := b0.ext hx
  replace hr1 := hr1.below hx
  replace hr2 := hr2.below hx
  replace o4 := o4.ext hx
  replace o8 := o8.ext hx
  replace hx0 := hx0.trans hx
  clear hx
  go_wp2_with fail
  obtain ⟨w19, hw⟩ : ∃ v : World, v = (w15.alloc (.cells #[.int .i64 r1, .int .i64 c1, .slice Ax12 n1 kx13] 35)) := ⟨_, rfl⟩
  rw [← hw]
  have hx : Ext w15 w19 := by subst hw; exact (Ext.refl _).alloc _
  have b18 : Blk w19 w15.heap.size #[.int .i64 r1, .int .i64 c1, .slice Ax12 n1 kx13] 35 := by subst hw; exact Blk.new _ _ _
  clear hw
  replace b0 := b0.ext hx
  replace hr1 := hr1.below hx
  replace hr2 := hr2.below hx
  replace o4 := o4.ext hx
  replace o8 := o8.ext hx
  replace o14 := o14.ext hx
  replace hx0 := hx0.trans hx
  clear hx
  have le_o22 : w.heap.size ≤ w19.heap.size := hx0.size
  refine (toFloat32S_any A2 n2 cap2 xs2 _ hr2 (by omega)).mono ?_
  rintro e w23 ⟨Ax20, kx21, rfl, o22, hx⟩
  have ne24 := o4.ne o22
  have ne25 := o8.ne o22
  have ne26 := o14.ne o22
  have hs_o22 := o22.small; simp only [flts_length] at hs_o22
  replace b0 := b0.ext hx
  replace hr1 := hr1.below hx
  replace hr2 := hr2.below hx
  replace o4 := o4.ext hx
  replace o8 := o8.ext hx
  replace o14 := o14.ext hx
  replace b18 := b18.ext hx
  replace hx0 := hx0.trans hx
  clear hx
  have zb18_0 := b18.cell 0 rfl
  have zb18_1 := b18.cell 1 rfl
  have zb18_2 := b18.cell 2 rfl
  go_wp2_with fail
  clear zb18_0 zb18_1 zb18_2
  refine (implRayleighOf_any r1 c1 Ax12 n1 kx13 Ax20 n2 kx21 xs1 xs2 _ o14.reads o22.reads o14.cap o22.cap).mono ?_
  rw [← Hd.out]
  rintro e w27 ⟨rfl, hx⟩
  replace b0 := b0.ext hx
  replace hr1 := hr1.below hx
  replace hr2 := hr2.below hx
  replace o4 := o4.ext hx
  replace o8 := o8.ext hx
  replace o14 := o14.ext hx
  replace b18 := b18.ext hx
  replace o22 := o22.ext hx
  replace hx0 := hx0.trans hx
  clear hx
  go_wp2_with fail
  refine (sameFloat_any yv0 yv0 rfl _).mono ?_
  rintro e w28 ⟨rfl, hx⟩
  replace b0 := b0.ext hx
  replace hr1 := hr1.below hx
  replace hr2 := hr2.below hx
  replace o4 := o4.ext hx
  replace o8 := o8.ext hx
  replace o14 := o14.ext hx
  replace b18 := b18.ext hx
  replace o22 := o22.ext hx
  replace hx0 := hx0.trans hx
  clear hx
  go_wp2_with fail
  have zb18_0 := b18.cell 0 rfl
  have zb18_1 := b18.cell 1 rfl
  have zb18_2 := b18.cell 2 rfl
  have zb0_0 := b0.cell 0 rfl
  have zb0_1 := b0.cell 1 rfl
  have zb0_2 := b0.cell 2 rfl
  refine wp_region_T (cs := []) [0, 1, 2, 3, 4] [] [2, 3] [(3, [2])] (fun i__ v => match i__ with | 2 => ∃ (Ax29 : Option Addr) (kx30 : Nat), v = (.agg #[.int .i64 r1, .int .i64 c1, .slice Ax29 n1 kx30]) | 3 => v = (.bool true) | _ => False) (fun i__ v w' => match i__ with | 2 => OwnF w' w28.heap.size 39 v [2] (flts xs1) | _ => True) (by kernel_rfl) (by kernel_rfl) (by intro i v w' w2 h hx; revert h; (try dsimp only); split <;> intro h <;> first | trivial | exact RdsF.ext h hx | exact OwnF.ext h hx | exact BlkF.ext h hx | exact ⟨RdsF.ext h.1 hx, RdsF.ext h.2 hx⟩ | exact ⟨OwnF.ext h.1 hx, OwnF.ext h.2 hx⟩ | exact ⟨RdsF.ext h.1 hx, RdsF.ext h.2.1 hx, RdsF.ext h.2.2 hx⟩ | exact ⟨OwnF.ext h.1 hx, OwnF.ext h.2.1 hx, OwnF.ext h.2.2 hx⟩) ?_
  refine' wpT_det (o := ⟨some 49, Op.load 35 (Operand.tmp 8), 35, "exact.go:4216", #[], none⟩) rfl (by rfl) (by rfl) (fun w' hw' => ?_) ?_; rotate_left
  · have zb18_0_ := Ext.cell hw' zb18_0; have zb18_1_ := Ext.cell hw' zb18_1; have zb18_2_ := Ext.cell hw' zb18_2; have zb0_0_ := Ext.cell hw' zb0_0; have zb0_1_ := Ext.cell hw' zb0_1; have zb0_2_ := Ext.cell hw' zb0_2; go_simp <;> first | rfl | exact ⟨rfl, rfl⟩
  simp only [Act.put, List.setIfInBounds_toArray, List.set_cons_zero, List.set_cons_succ]
  refine' wpT_det (o := ⟨some 50, Op.load 32 (Operand.tmp 2), 32, "exact.go:4216", #[], none⟩) rfl (by rfl) (by rfl) (fun w' hw' => ?_) ?_; rotate_left
  · have zb18_0_ := Ext.cell hw' zb18_0; have zb18_1_ := Ext.cell hw' zb18_1; have zb18_2_ := Ext.cell hw' zb18_2; have zb0_0_ := Ext.cell hw' zb0_0; have zb0_1_ := Ext.cell hw' zb0_1; have zb0_2_ := Ext.cell hw' zb0_2; go_simp <;> first | rfl | exact ⟨rfl, rfl⟩
  simp only [Act.put, List.setIfInBounds_toArray, List.set_cons_zero, List.set_cons_succ]
  refine wpT_nd (o := ⟨some 51, Op.call { callee := Callee.value (Operand.func 37), args := #[Operand.tmp 50], argTypes := #[32] }, 35, "exact.go:4216", #[{ on := 1, ground := Ground.data }], none⟩) rfl (by rfl) (by rfl) (fun w' hw' hF R__ hGo => ?_) ⟨_, none, 0, rfl⟩ ?_
  · go_simp
    refine gives_enter rfl ?_
    refine (toMatrix_any r1 c1 A1 n1 cap1 xs1 _ (hr1.below hw'.undrew) (by omega)).mono ?_
    rintro e w2 ⟨Ax29, kx30, rfl, o31, hx⟩
    exact ⟨_, rfl, hGo _ _ hx ⟨_, _, rfl⟩ (OwnF.of (o31.base hw'.size) rfl)⟩
  rintro _ ⟨Ax29, kx30, rfl⟩
  simp only [Act.put, List.setIfInBounds_toArray, List.set_cons_zero, List.set_cons_succ]
  refine wpT_nd (o := ⟨some 52, Op.call { callee := Callee.value (Operand.func 39), args := #[Operand.tmp 49, Operand.tmp 51], argTypes := #[35, 35] }, 4, "exact.go:4216", #[{ on := 0, ground := Ground.data }, { on := 2, ground := Ground.data }, { on := 2, ground := Ground.chain }], none⟩) rfl (by rfl) (by rfl) (fun w' hw' hF R__ hGo => ?_) ⟨_, rfl⟩ ?_
  · go_simp
    refine gives_enter rfl ?_
    refine (eqMatrix_any r1 c1 r1 c1 Ax12 Ax29 n1 n1 kx13 kx30  xs1 xs1 _ (o14.reads.below hw'.undrew) ((hF 2 (by simp [uses]) _ rfl) _ _ _ rfl).reads ⟨rfl, rfl, rfl⟩).mono ?_
    rintro e w2 ⟨rfl, hx⟩
    exact ⟨_, rfl, hGo _ _ hx rfl trivial⟩
  intro v hv
  obtain rfl : v = (.bool true) := hv
  simp only [Act.put, List.setIfInBounds_toArray, List.set_cons_zero, List.set_cons_succ]
  refine' wpT_det (o := ⟨some 53, Op.unOp UnOp.not 4 (Operand.tmp 52), 4, "exact.go:4216", #[{ on := 3, ground := Ground.data }], none⟩) rfl (by rfl) (by rfl) (fun w' hw' => ?_) ?_; rotate_left
  · go_simp <;> first | rfl | exact ⟨rfl, rfl⟩
  simp only [Act.put, List.setIfInBounds_toArray, List.set_cons_zero, List.set_cons_succ]
  refine wpT_nil (fun w32 hw' hF => ?_)
  refine wpList_nil ?_
  clear zb18_0 zb18_1 zb18_2 zb0_0 zb0_1 zb0_2
  have hx := hw'.undrew; clear hw'
  clear hF
  replace b0 := b0.ext hx
  replace hr1 := hr1.below hx
  replace hr2 := hr2.below hx
  replace o4 := o4.ext hx
  replace o8 := o8.ext hx
  replace o14 := o14.ext hx
  replace b18 := b18.ext hx
  replace o22 := o22.ext hx
  replace hx0 := hx0.trans hx
  clear hx
  go_wp2_with fail
  have le_o35 : w.heap.size ≤ w32.heap.size := hx0.size
  refine (toFloat32S_any A2 n2 cap2 xs2 _ hr2 (by omega)).mono ?_
  rintro e w36 ⟨Ax33, kx34, rfl, o35, hx⟩
  have ne37 := o4.ne o35
  have ne38 := o8.ne o35
  have ne39 := o14.ne o35
  have ne40 := o22.ne o35
  have hs_o35 := o35.small; simp only [flts_length] at hs_o35
  replace b0 := b0.ext hx
  replace hr1 := hr1.below hx
  replace hr2 := hr2.below hx
  replace o4 := o4.ext hx
  replace o8 := o8.ext hx
  replace o14 := o14.ext hx
  replace b18 := b18.ext hx
  replace o22 := o22.ext hx
  replace hx0 := hx0.trans hx
  clear hx
  go_wp2_with fail
  refine (eqFloat32S_any Ax20 Ax33 n2 n2 kx21 kx34  xs2 xs2 _ o22.reads o35.reads rfl).mono ?_
  rintro e w41 ⟨rfl, hx⟩
  replace b0 := b0.ext hx
  replace hr1 := hr1.below hx
  replace hr2 := hr2.below hx
  replace o4 := o4.ext hx
  replace o8 := o8.ext hx
  replace o14 := o14.ext hx
  replace b18 := b18.ext hx
  replace o22 := o22.ext hx
  replace o35 := o35.ext hx
  replace hx0 := hx0.trans hx
  clear hx
  go_wp2_with fail
  go_ret
  exact ⟨rfl, hx0⟩

end Go.Proofs.Ytgjfdfmbknmpaaa
