import Derived.Test.YtgjfdfmbknmpaaaM54
import Derived.Test.YtgjfdfmbknmpaaaB3M
set_option linter.unusedVariables false
set_option linter.unusedSimpArgs false
namespace Go.Proofs.Ytgjfdfmbknmpaaa
open Go.RowKit

set_option maxRecDepth 20000 in
set_option maxHeartbeats 8000000 in
theorem law_RootSolve (r1 : Int) (c1 : Int) (A1 : Option Addr) (n1 cap1 : Nat) (xs1 : List Nat) (A2 : Option Addr) (n2 cap2 : Nat) (xs2 : List Nat) (w : World) (hr1 : Rds w A1 n1 (flts xs1)) (hr2 : Rds w A2 n2 (flts xs2)) :
    Calls Try.prog 25 #[.agg #[.int .i64 r1, .int .i64 c1, .slice A1 n1 cap1], .slice A2 n2 cap2] w fun e w' => e = .returned (.bool true) ∧ Ext w w' := by
  have hs_hr1 := hr1.small
  have hs_hr2 := hr2.small
  obtain ⟨w0, hw0⟩ : ∃ w0 : World, w0 = (w.alloc (.cells #[.int .i64 r1, .int .i64 c1, .slice A1 n1 cap1] 32)) := ⟨_, rfl⟩
  have b0 : Blk w0 (w.heap.size) #[.int .i64 r1, .int .i64 c1, .slice A1 n1 cap1] 32 := by subst hw0; simpa using (Blk.new w #[.int .i64 r1, .int .i64 c1, .slice A1 n1 cap1] 32)
  have hx0 : Ext w w0 := by subst hw0; exact (Ext.refl _).alloc _
  have Hw0 := Lib.hid hw0
  clear hw0
  have hr10 := hr1; replace hr1 := hr1.below hx0
  have hr20 := hr2; replace hr2 := hr2.below hx0
  obtain ⟨d, hd⟩ : ∃ d : List Nat × Bool, d = rtD r1 c1 xs1 xs2 := ⟨_, rfl⟩
  have Hd := Lib.hid hd; clear hd
  by_cases hm0 : n2 ≤ 1048576
  rotate_left
  · go_enter Try.func25, Try.ntmps25
    go_wp2_with fail
    go_ret
    exact ⟨rfl, by first | exact hx0 | (rw [← Hw0.out]; exact hx0) | exact Ext.refl _⟩
  by_cases hn0 : n1 ≤ 1048576
  rotate_left
  · have HS0 : Hid (szL (n1) (1048576) = -1) := by show szL _ _ = -1; unfold szL; rw [if_pos (by omega)]
    go_enter Try.func25, Try.ntmps25
    have zb0_0 := b0.cell 0 rfl
    have zb0_1 := b0.cell 1 rfl
    have zb0_2 := b0.cell 2 rfl
    go_wp2_with fail
    rw [← Hw0.out]
    clear zb0_0 zb0_1 zb0_2
    refine (szMatrix_any r1 c1 A1 n1 cap1 1048576 (by omega) (by omega) _).mono ?_
    rw [HS0.out]
    rintro e w1 ⟨rfl, hx⟩
    replace b0 := b0.ext hx
    replace hr1 := hr1.below hx
    replace hr2 := hr2.below hx
    replace hx0 := hx0.trans hx
    clear hx
    go_wp2_with fail
    go_ret
    exact ⟨rfl, hx0⟩
  have HS0 : Hid (szL (n1) (1048576) = 1048576 - (n1 : Int)) := by show szL _ _ = _; unfold szL; rw [if_neg (by omega)]
  go_enter Try.func25, Try.ntmps25
  have zb0_0 := b0.cell 0 rfl
  have zb0_1 := b0.cell 1 rfl
  have zb0_2 := b0.cell 2 rfl
  go_wp2_with fail
  rw [← Hw0.out]
  clear zb0_0 zb0_1 zb0_2
  refine (szMatrix_any r1 c1 A1 n1 cap1 1048576 (by omega) (by omega) _).mono ?_
  rw [HS0.out]
  rintro e w1 ⟨rfl, hx⟩
  replace b0 := b0.ext hx
  replace hr1 := hr1.below hx
  replace hr2 := hr2.below hx
  replace hx0 := hx0.trans hx
  clear hx
  have zb0_0 := b0.cell 0 rfl
  have zb0_1 := b0.cell 1 rfl
  have zb0_2 := b0.cell 2 rfl
  go_wp2_with fail
  clear zb0_0 zb0_1 zb0_2
  have le_o4 : w.heap.size ≤ w1.heap.size := hx0.size
  refine (toMatrix_any r1 c1 A1 n1 cap1 xs1 _ hr1 (by omega)).mono ?_
  rintro e w5 ⟨Ax2, kx3, rfl, o4, hx⟩
  have hs_o4 := o4.small; simp only [flts_length] at hs_o4
  replace b0 := b0.ext hx
  replace hr1 := hr1.below hx
  replace hr2 := hr2.below hx
  replace hx0 := hx0.trans hx
  clear hx
  go_wp2_with fail
  have le_o8 : w.heap.size ≤ w5.heap.size := hx0.size
  refine (toFloat32S_any A2 n2 cap2 xs2 _ hr2 (by omega)).mono ?_
  rintro e w9 ⟨Ax6, kx7, rfl, o8, hx⟩
  have ne10 := o4.ne o8
  have hs_o8 := o8.small; simp only [flts_length] at hs_o8
  replace b0 := b0.ext hx
  replace hr1 := hr1.below hx
  replace hr2 := hr2.below hx
  replace o4 := o4.ext hx
  replace hx0 := hx0.trans hx
  clear hx
  go_wp2_with fail
  have le_o13 : w.heap.size ≤ w9.heap.size := hx0.size
  refine (specRootSolve_any r1 c1 Ax2 n1 kx3 Ax6 n2 kx7 xs1 xs2 _ o4.reads o8.reads).mono ?_
  rw [← Hd.out]
  rintro e w14 ⟨Ax11, kx12, rfl, o13, hx⟩
  have ne15 := o4.ne o13
  have ne16 := o8.ne o13
  have hs_o13 := o13.small; simp only [flts_length] at hs_o13
  replace b0 := b0.ext hx
  replace hr1 := hr1.below hx
  replace hr2 := hr2.below hx
  replace o4 := o4.ext hx
  replace o8 := o8.ext hx
  replace hx0 := hx0.trans hx
  clear hx
  have zb0_0 := b0.cell 0 rfl
  have zb0_1 := b0.cell 1 rfl
  have zb0_2 := b0.cell 2 rfl
  go_wp2_with fail
  clear zb0_0 zb0_1 zb0_2
  have le_o19 : w.heap.size ≤ w14.heap.size := hx0.size
  refine (toMatrix_any r1 c1 A1 n1 cap1 xs1 _ hr1 (by omega)).mono ?_
  rintro e w20 ⟨Ax17, kx18, rfl, o19, hx⟩
  have ne21 := o4.ne o19
  have ne22 := o8.ne o19
  have ne23 := o13.ne o19
  have hs_o19 := o19.small; simp only [flts_length] at hs_o19
  replace b0 := b0.ext hx
  replace hr1 := hr1.below hx
  replace hr2 := hr2.below hx
  replace o4 := o4.ext hx
  replace o8 := o8.ext hx
  replace o13 := o13.ext hx
  replace hx0 := hx0.trans hx
  clear hx
  go_wp2_with fail
  obtain ⟨w25, hw⟩ : ∃ v : World, v = (w20.alloc (.cells #[.int .i64 r1, .int .i64 c1, .slice Ax17 n1 kx18] 35)) := ⟨_, rfl⟩
  rw [← hw]
  have hx : Ext w20 w25 := by subst hw; exact (Ext.refl _).alloc _
  have b24 : Blk w25 w20.heap.size #[.int .i64 r1, .int .i64 c1, .slice Ax17 n1 kx18] 35 := by subst hw; exact Blk.new _ _ _
  clear hw
  replace b0 := b0.ext hx
  replace hr1 := hr1.below hx
  replace hr2 := hr2.below hx
  replace o4 := o4.ext hx
  replace o8 := o8.ext hx
  replace o13 := o13.ext hx
  replace o19 := o19.ext hx
  replace hx0 := hx0.trans hx
  clear hx
  have le_o28 : w.heap.size ≤ w25.heap.size := hx0.size
  refine (toFloat32S_any A2 n2 cap2 xs2 _ hr2 (by omega)).mono ?_
  rintro e w29 ⟨Ax26, kx27, rfl, o28, hx⟩
  have ne30 := o4.ne o28
  have ne31 := o8.ne o28
  have ne32 := o13.ne o28
  have ne33 := o19.ne o28
  have hs_o28 := o28.small; simp only [flts_length] at hs_o28
  replace b0 := b0.ext hx
  replace hr1 := hr1.below hx
  replace hr2 := hr2.below hx
  replace o4 := o4.ext hx
  replace o8 := o8.ext hx
  replace o13 := o13.ext hx
  replace o19 := o19.ext hx
  replace b24 := b24.ext hx
  replace hx0 := hx0.trans hx
  clear hx
  have zb24_0 := b24.cell 0 rfl
  have zb24_1 := b24.cell 1 rfl
  have zb24_2 := b24.cell 2 rfl
  go_wp2_with fail
  clear zb24_0 zb24_1 zb24_2
  have le_o36 : w.heap.size ≤ w29.heap.size := hx0.size
  refine (implRootSolve_any r1 c1 Ax17 n1 kx18 Ax26 n2 kx27 xs1 xs2 _ o19.reads o28.reads).mono ?_
  rw [← Hd.out]
  rintro e w37 ⟨Ax34, kx35, rfl, o36, hx⟩
  have ne38 := o4.ne o36
  have ne39 := o8.ne o36
  have ne40 := o13.ne o36
  have ne41 := o19.ne o36
  have ne42 := o28.ne o36
  have hs_o36 := o36.small; simp only [flts_length] at hs_o36
  replace b0 := b0.ext hx
  replace hr1 := hr1.below hx
  replace hr2 := hr2.below hx
  replace o4 := o4.ext hx
  replace o8 := o8.ext hx
  replace o13 := o13.ext hx
  replace o19 := o19.ext hx
  replace b24 := b24.ext hx
  replace o28 := o28.ext hx
  replace hx0 := hx0.trans hx
  clear hx
  go_wp2_with fail
  refine (eqFloat32S_any Ax34 Ax11 d.1.length d.1.length kx35 kx12  d.1 d.1 _ o36.reads o13.reads rfl).mono ?_
  rintro e w43 ⟨rfl, hx⟩
  replace b0 := b0.ext hx
  replace hr1 := hr1.below hx
  replace hr2 := hr2.below hx
  replace o4 := o4.ext hx
  replace o8 := o8.ext hx
  replace o13 := o13.ext hx
  replace o19 := o19.ext hx
  replace b24 := b24.ext hx
  replace o28 := o28.ext hx
  replace o36 := o36.ext hx
  replace hx0 := hx0.trans hx
  clear hx
  go_wp2_with fail
  have zb24_0 := b24.cell 0 rfl
  have zb24_1 := b24.cell 1 rfl
  have zb24_2 := b24.cell 2 rfl
  have zb0_0 := b0.cell 0 rfl
  have zb0_1 := b0.cell 1 rfl
  have zb0_2 := b0.cell 2 rfl
  refine wp_region_T (cs := []) [0, 1, 2, 3, 4] [] [2, 3] [(3, [2])] (fun i__ v => match i__ with | 2 => ∃ (Ax44 : Option Addr) (kx45 : Nat), v = (.agg #[.int .i64 r1, .int .i64 c1, .slice Ax44 n1 kx45]) | 3 => v = (.bool true) | _ => False) (fun i__ v w' => match i__ with | 2 => OwnF w' w43.heap.size 39 v [2] (flts xs1) | _ => True) (by kernel_rfl) (by kernel_rfl) (by intro i v w' w2 h hx; revert h; (try dsimp only); split <;> intro h <;> first | trivial | exact RdsF.ext h hx | exact OwnF.ext h hx | exact BlkF.ext h hx | exact ⟨RdsF.ext h.1 hx, RdsF.ext h.2 hx⟩ | exact ⟨OwnF.ext h.1 hx, OwnF.ext h.2 hx⟩ | exact ⟨RdsF.ext h.1 hx, RdsF.ext h.2.1 hx, RdsF.ext h.2.2 hx⟩ | exact ⟨OwnF.ext h.1 hx, OwnF.ext h.2.1 hx, OwnF.ext h.2.2 hx⟩) ?_
  refine' wpT_det (o := ⟨some 52, Op.load 35 (Operand.tmp 8), 35, "exact.go:3285", #[], none⟩) rfl (by rfl) (by rfl) (fun w' hw' => ?_) ?_; rotate_left
  · have zb24_0_ := Ext.cell hw' zb24_0; have zb24_1_ := Ext.cell hw' zb24_1; have zb24_2_ := Ext.cell hw' zb24_2; have zb0_0_ := Ext.cell hw' zb0_0; have zb0_1_ := Ext.cell hw' zb0_1; have zb0_2_ := Ext.cell hw' zb0_2; go_simp <;> first | rfl | exact ⟨rfl, rfl⟩
  simp only [Act.put, List.setIfInBounds_toArray, List.set_cons_zero, List.set_cons_succ]
  refine' wpT_det (o := ⟨some 53, Op.load 32 (Operand.tmp 2), 32, "exact.go:3285", #[], none⟩) rfl (by rfl) (by rfl) (fun w' hw' => ?_) ?_; rotate_left
  · have zb24_0_ := Ext.cell hw' zb24_0; have zb24_1_ := Ext.cell hw' zb24_1; have zb24_2_ := Ext.cell hw' zb24_2; have zb0_0_ := Ext.cell hw' zb0_0; have zb0_1_ := Ext.cell hw' zb0_1; have zb0_2_ := Ext.cell hw' zb0_2; go_simp <;> first | rfl | exact ⟨rfl, rfl⟩
  simp only [Act.put, List.setIfInBounds_toArray, List.set_cons_zero, List.set_cons_succ]
  refine wpT_nd (o := ⟨some 54, Op.call { callee := Callee.value (Operand.func 37), args := #[Operand.tmp 53], argTypes := #[32] }, 35, "exact.go:3285", #[{ on := 1, ground := Ground.data }], none⟩) rfl (by rfl) (by rfl) (fun w' hw' hF R__ hGo => ?_) ⟨_, none, 0, rfl⟩ ?_
  · go_simp
    refine gives_enter rfl ?_
    refine (toMatrix_any r1 c1 A1 n1 cap1 xs1 _ (hr1.below hw'.undrew) (by omega)).mono ?_
    rintro e w2 ⟨Ax44, kx45, rfl, o46, hx⟩
    exact ⟨_, rfl, hGo _ _ hx ⟨_, _, rfl⟩ (OwnF.of (o46.base hw'.size) rfl)⟩
  rintro _ ⟨Ax44, kx45, rfl⟩
  simp only [Act.put, List.setIfInBounds_toArray, List.set_cons_zero, List.set_cons_succ]
  refine wpT_nd (o := ⟨some 55, Op.call { callee := Callee.value (Operand.func 39), args := #[Operand.tmp 52, Operand.tmp 54], argTypes := #[35, 35] }, 4, "exact.go:3285", #[{ on := 0, ground := Ground.data }, { on := 2, ground := Ground.data }, { on := 2, ground := Ground.chain }], none⟩) rfl (by rfl) (by rfl) (fun w' hw' hF R__ hGo => ?_) ⟨_, rfl⟩ ?_
  · go_simp
    refine gives_enter rfl ?_
    refine (eqMatrix_any r1 c1 r1 c1 Ax17 Ax44 n1 n1 kx18 kx45  xs1 xs1 _ (o19.reads.below hw'.undrew) ((hF 2 (by simp [uses]) _ rfl) _ _ _ rfl).reads ⟨rfl, rfl, rfl⟩).mono ?_
    rintro e w2 ⟨rfl, hx⟩
    exact ⟨_, rfl, hGo _ _ hx rfl trivial⟩
  intro v hv
  obtain rfl : v = (.bool true) := hv
  simp only [Act.put, List.setIfInBounds_toArray, List.set_cons_zero, List.set_cons_succ]
  refine' wpT_det (o := ⟨some 56, Op.unOp UnOp.not 4 (Operand.tmp 55), 4, "exact.go:3285", #[{ on := 3, ground := Ground.data }], none⟩) rfl (by rfl) (by rfl) (fun w' hw' => ?_) ?_; rotate_left
  · go_simp <;> first | rfl | exact ⟨rfl, rfl⟩
  simp only [Act.put, List.setIfInBounds_toArray, List.set_cons_zero, List.set_cons_succ]
  refine wpT_nil (fun w47 hw' hF => ?_)
  refine wpList_nil ?_
  clear zb24_0 zb24_1 zb24_2 zb0_0 zb0_1 zb0_2
  have hx := hw'.undrew; clear hw'
  clear hF
  replace b0 := b0.ext hx
  replace hr1 := hr1.below hx
  replace hr2 := hr2.below hx
  replace o4 := o4.ext hx
  replace o8 := o8.ext hx
  replace o13 := o13.ext hx
  replace o19 := o19.ext hx
  replace b24 := b24.ext hx
  replace o28 := o28.ext hx
  replace o36 := o36.ext hx
  replace hx0 := hx0.trans hx
  clear hx
  go_wp2_with fail
  have le_o50 : w.heap.size ≤ w47.heap.size := hx0.size
  refine (toFloat32S_any A2 n2 cap2 xs2 _ hr2 (by omega)).mono ?_
  rintro e w51 ⟨Ax48, kx49, rfl, o50, hx⟩
  have ne52 := o4.ne o50
  have ne53 := o8.ne o50
  have ne54 := o13.ne o50
  have ne55 := o19.ne o50
  have ne56 := o28.ne o50
  have ne57 := o36.ne o50
  have hs_o50 := o50.small; simp only [flts_length] at hs_o50
  replace b0 := b0.ext hx
  replace hr1 := hr1.below hx
  replace hr2 := hr2.below hx
  replace o4 := o4.ext hx
  replace o8 := o8.ext hx
  replace o13 := o13.ext hx
  replace o19 := o19.ext hx
  replace b24 := b24.ext hx
  replace o28 := o28.ext hx
  replace o36 := o36.ext hx
  replace hx0 := hx0.trans hx
  clear hx
  go_wp2_with fail
  refine (eqFloat32S_any Ax26 Ax48 n2 n2 kx27 kx49  xs2 xs2 _ o28.reads o50.reads rfl).mono ?_
  rintro e w58 ⟨rfl, hx⟩
  replace b0 := b0.ext hx
  replace hr1 := hr1.below hx
  replace hr2 := hr2.below hx
  replace o4 := o4.ext hx
  replace o8 := o8.ext hx
  replace o13 := o13.ext hx
  replace o19 := o19.ext hx
  replace b24 := b24.ext hx
  replace o28 := o28.ext hx
  replace o36 := o36.ext hx
  replace o50 := o50.ext hx
  replace hx0 := hx0.trans hx
  clear hx
  have zb24_0 := b24.cell 0 rfl
  have zb24_1 := b24.cell 1 rfl
  have zb24_2 := b24.cell 2 rfl
  go_wp2_with fail
  clear zb24_0 zb24_1 zb24_2
  refine (markMatrix_any _ r1 c1 Ax17 n1 kx18 _ 1 _ (by omega) o19).mono ?_
  rintro e w59 ⟨rfl, o_, hw⟩
  replace b0 := b0.wr hw o19 (by decide)
  replace o4 := o4.other hw ne21.1
  replace o8 := o8.other hw ne22.1
  replace o13 := o13.other hw ne23.1
  replace b24 := b24.wr hw o19 (by decide)
  replace o28 := o28.other hw ne33.2
  replace o36 := o36.other hw ne41.2
  replace o50 := o50.other hw ne55.2
  replace hx0 := hw.ext hx0 (o19.base le_o19)
  replace hr1 := hr10.below hx0
  replace hr2 := hr20.below hx0
  clear o19 hw; have o19 := o_; clear o_
  go_wp2_with fail
  refine (markFloat32S_any _ Ax26 n2 kx27 _ (1 + n1) _ (by omega) o28).mono ?_
  rintro e w60 ⟨rfl, o_, hw⟩
  replace b0 := b0.wr hw o28 (by decide)
  replace o4 := o4.other hw ne30.1
  replace o8 := o8.other hw ne31.1
  replace o13 := o13.other hw ne32.1
  replace o19 := o19.other hw ne33.1
  replace b24 := b24.wr hw o28 (by decide)
  replace o36 := o36.other hw ne42.2
  replace o50 := o50.other hw ne56.2
  replace hx0 := hw.ext hx0 (o28.base le_o28)
  replace hr1 := hr10.below hx0
  replace hr2 := hr20.below hx0
  clear o28 hw; have o28 := o_; clear o_
  go_wp2_with fail
  refine (eqFloat32S_any Ax34 Ax11 d.1.length d.1.length kx35 kx12  d.1 d.1 _ o36.reads o13.reads rfl).mono ?_
  rintro e w61 ⟨rfl, hx⟩
  replace b0 := b0.ext hx
  replace hr1 := hr1.below hx
  replace hr2 := hr2.below hx
  replace o4 := o4.ext hx
  replace o8 := o8.ext hx
  replace o13 := o13.ext hx
  replace o19 := o19.ext hx
  replace b24 := b24.ext hx
  replace o28 := o28.ext hx
  replace o36 := o36.ext hx
  replace o50 := o50.ext hx
  replace hx0 := hx0.trans hx
  clear hx
  go_wp2_with fail
  refine (markFloat32S_any _ Ax34 d.1.length kx35 _ 1 _ (by omega) o36).mono ?_
  rintro e w62 ⟨rfl, o_, hw⟩
  replace b0 := b0.wr hw o36 (by decide)
  replace o4 := o4.other hw ne38.1
  replace o8 := o8.other hw ne39.1
  replace o13 := o13.other hw ne40.1
  replace o19 := o19.other hw ne41.1
  replace b24 := b24.wr hw o36 (by decide)
  replace o28 := o28.other hw ne42.1
  replace o50 := o50.other hw ne57.2
  replace hx0 := hw.ext hx0 (o36.base le_o36)
  replace hr1 := hr10.below hx0
  replace hr2 := hr20.below hx0
  clear o36 hw; have o36 := o_; clear o_
  go_wp2_with fail
  refine (heldFloat32S_any Ax34 d.1.length kx35 1 _ (by omega) (by omega) o36.reads).mono ?_
  rintro e w63 ⟨rfl, hx⟩
  replace b0 := b0.ext hx
  replace hr1 := hr1.below hx
  replace hr2 := hr2.below hx
  replace o4 := o4.ext hx
  replace o8 := o8.ext hx
  replace o13 := o13.ext hx
  replace o19 := o19.ext hx
  replace b24 := b24.ext hx
  replace o28 := o28.ext hx
  replace o36 := o36.ext hx
  replace o50 := o50.ext hx
  replace hx0 := hx0.trans hx
  clear hx
  have zb0_0 := b0.cell 0 rfl
  have zb0_1 := b0.cell 1 rfl
  have zb0_2 := b0.cell 2 rfl
  go_wp2_with fail
  clear zb0_0 zb0_1 zb0_2
  have le_o66 : w.heap.size ≤ w63.heap.size := hx0.size
  refine (toMatrix_any r1 c1 A1 n1 cap1 xs1 _ hr1 (by omega)).mono ?_
  rintro e w67 ⟨Ax64, kx65, rfl, o66, hx⟩
  have ne68 := o4.ne o66
  have ne69 := o8.ne o66
  have ne70 := o13.ne o66
  have ne71 := o19.ne o66
  have ne72 := o28.ne o66
  have ne73 := o36.ne o66
  have ne74 := o50.ne o66
  have hs_o66 := o66.small; simp only [flts_length] at hs_o66
  replace b0 := b0.ext hx
  replace hr1 := hr1.below hx
  replace hr2 := hr2.below hx
  replace o4 := o4.ext hx
  replace o8 := o8.ext hx
  replace o13 := o13.ext hx
  replace o19 := o19.ext hx
  replace b24 := b24.ext hx
  replace o28 := o28.ext hx
  replace o36 := o36.ext hx
  replace o50 := o50.ext hx
  replace hx0 := hx0.trans hx
  clear hx
  go_wp2_with fail
  have le_o77 : w.heap.size ≤ w67.heap.size := hx0.size
  refine (toFloat32S_any A2 n2 cap2 xs2 _ hr2 (by omega)).mono ?_
  rintro e w78 ⟨Ax75, kx76, rfl, o77, hx⟩
  have ne79 := o4.ne o77
  have ne80 := o8.ne o77
  have ne81 := o13.ne o77
  have ne82 := o19.ne o77
  have ne83 := o28.ne o77
  have ne84 := o36.ne o77
  have ne85 := o50.ne o77
  have ne86 := o66.ne o77
  have hs_o77 := o77.small; simp only [flts_length] at hs_o77
  replace b0 := b0.ext hx
  replace hr1 := hr1.below hx
  replace hr2 := hr2.below hx
  replace o4 := o4.ext hx
  replace o8 := o8.ext hx
  replace o13 := o13.ext hx
  replace o19 := o19.ext hx
  replace b24 := b24.ext hx
  replace o28 := o28.ext hx
  replace o36 := o36.ext hx
  replace o50 := o50.ext hx
  replace o66 := o66.ext hx
  replace hx0 := hx0.trans hx
  clear hx
  go_wp2_with fail
  have le_o89 : w.heap.size ≤ w78.heap.size := hx0.size
  refine (implRootSolve_any r1 c1 Ax64 n1 kx65 Ax75 n2 kx76 xs1 xs2 _ o66.reads o77.reads).mono ?_
  rw [← Hd.out]
  rintro e w90 ⟨Ax87, kx88, rfl, o89, hx⟩
  have ne91 := o4.ne o89
  have ne92 := o8.ne o89
  have ne93 := o13.ne o89
  have ne94 := o19.ne o89
  have ne95 := o28.ne o89
  have ne96 := o36.ne o89
  have ne97 := o50.ne o89
  have ne98 := o66.ne o89
  have ne99 := o77.ne o89
  have hs_o89 := o89.small; simp only [flts_length] at hs_o89
  replace b0 := b0.ext hx
  replace hr1 := hr1.below hx
  replace hr2 := hr2.below hx
  replace o4 := o4.ext hx
  replace o8 := o8.ext hx
  replace o13 := o13.ext hx
  replace o19 := o19.ext hx
  replace b24 := b24.ext hx
  replace o28 := o28.ext hx
  replace o36 := o36.ext hx
  replace o50 := o50.ext hx
  replace o66 := o66.ext hx
  replace o77 := o77.ext hx
  replace hx0 := hx0.trans hx
  clear hx
  go_wp2_with fail
  refine (eqFloat32S_any Ax87 Ax11 d.1.length d.1.length kx88 kx12  d.1 d.1 _ o89.reads o13.reads rfl).mono ?_
  rintro e w100 ⟨rfl, hx⟩
  replace b0 := b0.ext hx
  replace hr1 := hr1.below hx
  replace hr2 := hr2.below hx
  replace o4 := o4.ext hx
  replace o8 := o8.ext hx
  replace o13 := o13.ext hx
  replace o19 := o19.ext hx
  replace b24 := b24.ext hx
  replace o28 := o28.ext hx
  replace o36 := o36.ext hx
  replace o50 := o50.ext hx
  replace o66 := o66.ext hx
  replace o77 := o77.ext hx
  replace o89 := o89.ext hx
  replace hx0 := hx0.trans hx
  clear hx
  go_wp2_with fail
  refine (heldFloat32S_any Ax34 d.1.length kx35 1 _ (by omega) (by omega) o36.reads).mono ?_
  rintro e w101 ⟨rfl, hx⟩
  replace b0 := b0.ext hx
  replace hr1 := hr1.below hx
  replace hr2 := hr2.below hx
  replace o4 := o4.ext hx
  replace o8 := o8.ext hx
  replace o13 := o13.ext hx
  replace o19 := o19.ext hx
  replace b24 := b24.ext hx
  replace o28 := o28.ext hx
  replace o36 := o36.ext hx
  replace o50 := o50.ext hx
  replace o66 := o66.ext hx
  replace o77 := o77.ext hx
  replace o89 := o89.ext hx
  replace hx0 := hx0.trans hx
  clear hx
  go_wp2_with fail
  go_ret
  exact ⟨rfl, hx0⟩

end Go.Proofs.Ytgjfdfmbknmpaaa
