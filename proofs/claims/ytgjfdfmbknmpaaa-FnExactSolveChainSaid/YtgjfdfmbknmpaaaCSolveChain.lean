import Derived.Test.YtgjfdfmbknmpaaaM52
import Derived.Test.YtgjfdfmbknmpaaaB3M
import Derived.Test.YtgjfdfmbknmpaaaB4M
set_option linter.unusedVariables false
set_option linter.unusedSimpArgs false
namespace Go.Proofs.Ytgjfdfmbknmpaaa
open Go.RowKit

set_option maxRecDepth 20000 in
set_option maxHeartbeats 8000000 in
theorem law_SolveChain (A1a : Option Addr) (n1a cap1a : Nat) (xs1a : List Nat) (A1b : Option Addr) (n1b cap1b : Nat) (xs1b : List Nat) (A2 : Option Addr) (n2 cap2 : Nat) (xs2 : List Nat) (w : World) (hr1a : Rds w A1a n1a (flts xs1a)) (hr1b : Rds w A1b n1b (flts xs1b)) (hr2 : Rds w A2 n2 (flts xs2)) :
    Calls Try.prog 17 #[.agg #[.slice A1a n1a cap1a, .slice A1b n1b cap1b], .slice A2 n2 cap2] w fun e w' => e = .returned (.bool true) ∧ Ext w w' := by
  have hs_hr1a := hr1a.small
  have hs_hr1b := hr1b.small
  have hs_hr2 := hr2.small
  obtain ⟨w0, hw0⟩ : ∃ w0 : World, w0 = (w.alloc (.cells #[.slice A1a n1a cap1a, .slice A1b n1b cap1b] 24)) := ⟨_, rfl⟩
  have b0 : Blk w0 (w.heap.size) #[.slice A1a n1a cap1a, .slice A1b n1b cap1b] 24 := by subst hw0; simpa using (Blk.new w #[.slice A1a n1a cap1a, .slice A1b n1b cap1b] 24)
  have hx0 : Ext w w0 := by subst hw0; exact (Ext.refl _).alloc _
  have Hw0 := Lib.hid hw0
  clear hw0
  have hr1a0 := hr1a; replace hr1a := hr1a.below hx0
  have hr1b0 := hr1b; replace hr1b := hr1b.below hx0
  have hr20 := hr2; replace hr2 := hr2.below hx0
  obtain ⟨d, hd⟩ : ∃ d : List Nat × Bool, d = solD xs1a xs1b xs2 := ⟨_, rfl⟩
  have Hd := Lib.hid hd; clear hd
  by_cases hm0 : n2 ≤ 1048576
  rotate_left
  · go_enter Try.func17, Try.ntmps17
    go_wp2_with fail
    go_ret
    exact ⟨rfl, by first | exact hx0 | (rw [← Hw0.out]; exact hx0) | exact Ext.refl _⟩
  by_cases hn0 : n1a + n1b ≤ 1048576
  rotate_left
  · have HS0 : Hid (szL (n1a + n1b) (1048576) = -1) := by show szL _ _ = -1; unfold szL; rw [if_pos (by omega)]
    go_enter Try.func17, Try.ntmps17
    have zb0_0 := b0.cell 0 rfl
    have zb0_1 := b0.cell 1 rfl
    go_wp2_with fail
    rw [← Hw0.out]
    clear zb0_0 zb0_1
    refine (szChain_any A1a n1a cap1a A1b n1b cap1b 1048576 (by omega) (by omega) (by omega) _).mono ?_
    rw [HS0.out]
    rintro e w1 ⟨rfl, hx⟩
    replace b0 := b0.ext hx
    replace hr1a := hr1a.below hx
    replace hr1b := hr1b.below hx
    replace hr2 := hr2.below hx
    replace hx0 := hx0.trans hx
    clear hx
    go_wp2_with fail
    go_ret
    exact ⟨rfl, hx0⟩
  have HS0 : Hid (szL (n1a + n1b) (1048576) = 1048576 - (n1a + n1b : Nat)) := by show szL _ _ = _; unfold szL; rw [if_neg (by omega)]
  go_enter Try.func17, Try.ntmps17
  have zb0_0 := b0.cell 0 rfl
  have zb0_1 := b0.cell 1 rfl
  go_wp2_with fail
  rw [← Hw0.out]
  clear zb0_0 zb0_1
  refine (szChain_any A1a n1a cap1a A1b n1b cap1b 1048576 (by omega) (by omega) (by omega) _).mono ?_
  rw [HS0.out]
  rintro e w1 ⟨rfl, hx⟩
  replace b0 := b0.ext hx
  replace hr1a := hr1a.below hx
  replace hr1b := hr1b.below hx
  replace hr2 := hr2.below hx
  replace hx0 := hx0.trans hx
  clear hx
  have zb0_0 := b0.cell 0 rfl
  have zb0_1 := b0.cell 1 rfl
  go_wp2_with fail
  clear zb0_0 zb0_1
  have le_o4 : w.heap.size ≤ w1.heap.size := hx0.size
  have le_o7 : w.heap.size ≤ w1.heap.size := hx0.size
  refine (toChain_any A1a n1a cap1a A1b n1b cap1b xs1a xs1b _ hr1a hr1b (by omega) (by omega)).mono ?_
  rintro e w9 ⟨Ax2, kx3, Ax5, kx6, rfl, o4, o7, ne8, hx⟩
  have hs_o4 := o4.small; simp only [flts_length] at hs_o4
  have hs_o7 := o7.small; simp only [flts_length] at hs_o7
  replace b0 := b0.ext hx
  replace hr1a := hr1a.below hx
  replace hr1b := hr1b.below hx
  replace hr2 := hr2.below hx
  replace hx0 := hx0.trans hx
  clear hx
  go_wp2_with fail
  have le_o12 : w.heap.size ≤ w9.heap.size := hx0.size
  refine (toFloat32S_any A2 n2 cap2 xs2 _ hr2 (by omega)).mono ?_
  rintro e w13 ⟨Ax10, kx11, rfl, o12, hx⟩
  have ne14 := o4.ne o12
  have ne15 := o7.ne o12
  have hs_o12 := o12.small; simp only [flts_length] at hs_o12
  replace b0 := b0.ext hx
  replace hr1a := hr1a.below hx
  replace hr1b := hr1b.below hx
  replace hr2 := hr2.below hx
  replace o4 := o4.ext hx
  replace o7 := o7.ext hx
  replace hx0 := hx0.trans hx
  clear hx
  go_wp2_with fail
  have le_o18 : w.heap.size ≤ w13.heap.size := hx0.size
  refine (specSolveChain_any Ax2 n1a kx3 Ax5 n1b kx6 Ax10 n2 kx11 xs1a xs1b xs2 _ o4.reads o7.reads o12.reads).mono ?_
  rw [← Hd.out]
  rintro e w19 ⟨Ax16, kx17, rfl, o18, hx⟩
  have ne20 := o4.ne o18
  have ne21 := o7.ne o18
  have ne22 := o12.ne o18
  have hs_o18 := o18.small; simp only [flts_length] at hs_o18
  replace b0 := b0.ext hx
  replace hr1a := hr1a.below hx
  replace hr1b := hr1b.below hx
  replace hr2 := hr2.below hx
  replace o4 := o4.ext hx
  replace o7 := o7.ext hx
  replace o12 := o12.ext hx
  replace hx0 := hx0.trans hx
  clear hx
  have zb0_0 := b0.cell 0 rfl
  have zb0_1 := b0.cell 1 rfl
  go_wp2_with fail
  clear zb0_0 zb0_1
  have le_o25 : w.heap.size ≤ w19.heap.size := hx0.size
  have le_o28 : w.heap.size ≤ w19.heap.size := hx0.size
  refine (toChain_any A1a n1a cap1a A1b n1b cap1b xs1a xs1b _ hr1a hr1b (by omega) (by omega)).mono ?_
  rintro e w30 ⟨Ax23, kx24, Ax26, kx27, rfl, o25, o28, ne29, hx⟩
  have ne31 := o4.ne o25
  have ne32 := o7.ne o25
  have ne33 := o12.ne o25
  have ne34 := o18.ne o25
  have hs_o25 := o25.small; simp only [flts_length] at hs_o25
  have ne35 := o4.ne o28
  have ne36 := o7.ne o28
  have ne37 := o12.ne o28
  have ne38 := o18.ne o28
  have hs_o28 := o28.small; simp only [flts_length] at hs_o28
  replace b0 := b0.ext hx
  replace hr1a := hr1a.below hx
  replace hr1b := hr1b.below hx
  replace hr2 := hr2.below hx
  replace o4 := o4.ext hx
  replace o7 := o7.ext hx
  replace o12 := o12.ext hx
  replace o18 := o18.ext hx
  replace hx0 := hx0.trans hx
  clear hx
  go_wp2_with fail
  obtain ⟨w40, hw⟩ : ∃ v : World, v = (w30.alloc (.cells #[.slice Ax23 n1a kx24, .slice Ax26 n1b kx27] 27)) := ⟨_, rfl⟩
  rw [← hw]
  have hx : Ext w30 w40 := by subst hw; exact (Ext.refl _).alloc _
  have b39 : Blk w40 w30.heap.size #[.slice Ax23 n1a kx24, .slice Ax26 n1b kx27] 27 := by subst hw; exact Blk.new _ _ _
  clear hw
  replace b0 := b0.ext hx
  replace hr1a := hr1a.below hx
  replace hr1b := hr1b.below hx
  replace hr2 := hr2.below hx
  replace o4 := o4.ext hx
  replace o7 := o7.ext hx
  replace o12 := o12.ext hx
  replace o18 := o18.ext hx
  replace o25 := o25.ext hx
  replace o28 := o28.ext hx
  replace hx0 := hx0.trans hx
  clear hx
  have le_o43 : w.heap.size ≤ w40.heap.size := hx0.size
  refine (toFloat32S_any A2 n2 cap2 xs2 _ hr2 (by omega)).mono ?_
  rintro e w44 ⟨Ax41, kx42, rfl, o43, hx⟩
  have ne45 := o4.ne o43
  have ne46 := o7.ne o43
  have ne47 := o12.ne o43
  have ne48 := o18.ne o43
  have ne49 := o25.ne o43
  have ne50 := o28.ne o43
  have hs_o43 := o43.small; simp only [flts_length] at hs_o43
  replace b0 := b0.ext hx
  replace hr1a := hr1a.below hx
  replace hr1b := hr1b.below hx
  replace hr2 := hr2.below hx
  replace o4 := o4.ext hx
  replace o7 := o7.ext hx
  replace o12 := o12.ext hx
  replace o18 := o18.ext hx
  replace o25 := o25.ext hx
  replace o28 := o28.ext hx
  replace b39 := b39.ext hx
  replace hx0 := hx0.trans hx
  clear hx
  have zb39_0 := b39.cell 0 rfl
  have zb39_1 := b39.cell 1 rfl
  go_wp2_with fail
  clear zb39_0 zb39_1
  have le_o53 : w.heap.size ≤ w44.heap.size := hx0.size
  refine (implSolveChain_any Ax23 n1a kx24 Ax26 n1b kx27 Ax41 n2 kx42 xs1a xs1b xs2 _ o25.reads o28.reads o43.reads).mono ?_
  rw [← Hd.out]
  rintro e w54 ⟨Ax51, kx52, rfl, o53, hx⟩
  have ne55 := o4.ne o53
  have ne56 := o7.ne o53
  have ne57 := o12.ne o53
  have ne58 := o18.ne o53
  have ne59 := o25.ne o53
  have ne60 := o28.ne o53
  have ne61 := o43.ne o53
  have hs_o53 := o53.small; simp only [flts_length] at hs_o53
  replace b0 := b0.ext hx
  replace hr1a := hr1a.below hx
  replace hr1b := hr1b.below hx
  replace hr2 := hr2.below hx
  replace o4 := o4.ext hx
  replace o7 := o7.ext hx
  replace o12 := o12.ext hx
  replace o18 := o18.ext hx
  replace o25 := o25.ext hx
  replace o28 := o28.ext hx
  replace b39 := b39.ext hx
  replace o43 := o43.ext hx
  replace hx0 := hx0.trans hx
  clear hx
  go_wp2_with fail
  refine (eqFloat32S_any Ax51 Ax16 d.1.length d.1.length kx52 kx17  d.1 d.1 _ o53.reads o18.reads rfl).mono ?_
  rintro e w62 ⟨rfl, hx⟩
  replace b0 := b0.ext hx
  replace hr1a := hr1a.below hx
  replace hr1b := hr1b.below hx
  replace hr2 := hr2.below hx
  replace o4 := o4.ext hx
  replace o7 := o7.ext hx
  replace o12 := o12.ext hx
  replace o18 := o18.ext hx
  replace o25 := o25.ext hx
  replace o28 := o28.ext hx
  replace b39 := b39.ext hx
  replace o43 := o43.ext hx
  replace o53 := o53.ext hx
  replace hx0 := hx0.trans hx
  clear hx
  go_wp2_with fail
  have zb39_0 := b39.cell 0 rfl
  have zb39_1 := b39.cell 1 rfl
  have zb0_0 := b0.cell 0 rfl
  have zb0_1 := b0.cell 1 rfl
  refine wp_region_T (cs := []) [0, 1, 2, 3, 4] [] [2, 3] [(3, [2])] (fun i__ v => match i__ with | 2 => ∃ (Ax63 : Option Addr) (kx64 : Nat) (Ax66 : Option Addr) (kx67 : Nat), v = (.agg #[.slice Ax63 n1a kx64, .slice Ax66 n1b kx67]) | 3 => v = (.bool true) | _ => False) (fun i__ v w' => match i__ with | 2 => OwnF w' w62.heap.size 39 v [0] (flts xs1a) ∧ OwnF w' w62.heap.size 39 v [1] (flts xs1b) | _ => True) (by kernel_rfl) (by kernel_rfl) (by intro i v w' w2 h hx; revert h; (try dsimp only); split <;> intro h <;> first | trivial | exact RdsF.ext h hx | exact OwnF.ext h hx | exact BlkF.ext h hx | exact ⟨RdsF.ext h.1 hx, RdsF.ext h.2 hx⟩ | exact ⟨OwnF.ext h.1 hx, OwnF.ext h.2 hx⟩ | exact ⟨RdsF.ext h.1 hx, RdsF.ext h.2.1 hx, RdsF.ext h.2.2 hx⟩ | exact ⟨OwnF.ext h.1 hx, OwnF.ext h.2.1 hx, OwnF.ext h.2.2 hx⟩) ?_
  refine' wpT_det (o := ⟨some 52, Op.load 27 (Operand.tmp 8), 27, "exact.go:3914", #[], none⟩) rfl (by rfl) (by rfl) (fun w' hw' => ?_) ?_; rotate_left
  · have zb39_0_ := Ext.cell hw' zb39_0; have zb39_1_ := Ext.cell hw' zb39_1; have zb0_0_ := Ext.cell hw' zb0_0; have zb0_1_ := Ext.cell hw' zb0_1; go_simp <;> first | rfl | exact ⟨rfl, rfl⟩
  simp only [Act.put, List.setIfInBounds_toArray, List.set_cons_zero, List.set_cons_succ]
  refine' wpT_det (o := ⟨some 53, Op.load 24 (Operand.tmp 2), 24, "exact.go:3914", #[], none⟩) rfl (by rfl) (by rfl) (fun w' hw' => ?_) ?_; rotate_left
  · have zb39_0_ := Ext.cell hw' zb39_0; have zb39_1_ := Ext.cell hw' zb39_1; have zb0_0_ := Ext.cell hw' zb0_0; have zb0_1_ := Ext.cell hw' zb0_1; go_simp <;> first | rfl | exact ⟨rfl, rfl⟩
  simp only [Act.put, List.setIfInBounds_toArray, List.set_cons_zero, List.set_cons_succ]
  refine wpT_nd (o := ⟨some 54, Op.call { callee := Callee.value (Operand.func 32), args := #[Operand.tmp 53], argTypes := #[24] }, 27, "exact.go:3914", #[{ on := 1, ground := Ground.data }], none⟩) rfl (by rfl) (by rfl) (fun w' hw' hF R__ hGo => ?_) ⟨_, none, 0, none, 0, rfl⟩ ?_
  · go_simp
    refine gives_enter rfl ?_
    refine (toChain_any A1a n1a cap1a A1b n1b cap1b xs1a xs1b _ (hr1a.below hw'.undrew) (hr1b.below hw'.undrew) (by omega) (by omega)).mono ?_
    rintro e w2 ⟨Ax63, kx64, Ax66, kx67, rfl, o65, o68, ne69, hx⟩
    exact ⟨_, rfl, hGo _ _ hx ⟨_, _, _, _, rfl⟩ ⟨OwnF.of (o65.base hw'.size) rfl, OwnF.of (o68.base hw'.size) rfl⟩⟩
  rintro _ ⟨Ax63, kx64, Ax66, kx67, rfl⟩
  simp only [Act.put, List.setIfInBounds_toArray, List.set_cons_zero, List.set_cons_succ]
  refine wpT_nd (o := ⟨some 55, Op.call { callee := Callee.value (Operand.func 34), args := #[Operand.tmp 52, Operand.tmp 54], argTypes := #[27, 27] }, 4, "exact.go:3914", #[{ on := 0, ground := Ground.data }, { on := 2, ground := Ground.data }, { on := 2, ground := Ground.chain }], none⟩) rfl (by rfl) (by rfl) (fun w' hw' hF R__ hGo => ?_) ⟨_, rfl⟩ ?_
  · go_simp
    refine gives_enter rfl ?_
    refine (eqChain_any Ax23 Ax26 Ax63 Ax66 n1a n1b n1a n1b kx24 kx27 kx64 kx67  xs1a xs1b xs1a xs1b _ (o25.reads.below hw'.undrew) (o28.reads.below hw'.undrew) ((hF 2 (by simp [uses]) _ rfl).1 _ _ _ rfl).reads ((hF 2 (by simp [uses]) _ rfl).2 _ _ _ rfl).reads ⟨rfl, rfl⟩).mono ?_
    rintro e w2 ⟨rfl, hx⟩
    exact ⟨_, rfl, hGo _ _ hx rfl trivial⟩
  intro v hv
  obtain rfl : v = (.bool true) := hv
  simp only [Act.put, List.setIfInBounds_toArray, List.set_cons_zero, List.set_cons_succ]
  refine' wpT_det (o := ⟨some 56, Op.unOp UnOp.not 4 (Operand.tmp 55), 4, "exact.go:3914", #[{ on := 3, ground := Ground.data }], none⟩) rfl (by rfl) (by rfl) (fun w' hw' => ?_) ?_; rotate_left
  · go_simp <;> first | rfl | exact ⟨rfl, rfl⟩
  simp only [Act.put, List.setIfInBounds_toArray, List.set_cons_zero, List.set_cons_succ]
  refine wpT_nil (fun w70 hw' hF => ?_)
  refine wpList_nil ?_
  clear zb39_0 zb39_1 zb0_0 zb0_1
  have hx := hw'.undrew; clear hw'
  clear hF
  replace b0 := b0.ext hx
  replace hr1a := hr1a.below hx
  replace hr1b := hr1b.below hx
  replace hr2 := hr2.below hx
  replace o4 := o4.ext hx
  replace o7 := o7.ext hx
  replace o12 := o12.ext hx
  replace o18 := o18.ext hx
  replace o25 := o25.ext hx
  replace o28 := o28.ext hx
  replace b39 := b39.ext hx
  replace o43 := o43.ext hx
  replace o53 := o53.ext hx
  replace hx0 := hx0.trans hx
  clear hx
  go_wp2_with fail
  have le_o73 : w.heap.size ≤ w70.heap.size := hx0.size
  refine (toFloat32S_any A2 n2 cap2 xs2 _ hr2 (by omega)).mono ?_
  rintro e w74 ⟨Ax71, kx72, rfl, o73, hx⟩
  have ne75 := o4.ne o73
  have ne76 := o7.ne o73
  have ne77 := o12.ne o73
  have ne78 := o18.ne o73
  have ne79 := o25.ne o73
  have ne80 := o28.ne o73
  have ne81 := o43.ne o73
  have ne82 := o53.ne o73
  have hs_o73 := o73.small; simp only [flts_length] at hs_o73
  replace b0 := b0.ext hx
  replace hr1a := hr1a.below hx
  replace hr1b := hr1b.below hx
  replace hr2 := hr2.below hx
  replace o4 := o4.ext hx
  replace o7 := o7.ext hx
  replace o12 := o12.ext hx
  replace o18 := o18.ext hx
  replace o25 := o25.ext hx
  replace o28 := o28.ext hx
  replace b39 := b39.ext hx
  replace o43 := o43.ext hx
  replace o53 := o53.ext hx
  replace hx0 := hx0.trans hx
  clear hx
  go_wp2_with fail
  refine (eqFloat32S_any Ax41 Ax71 n2 n2 kx42 kx72  xs2 xs2 _ o43.reads o73.reads rfl).mono ?_
  rintro e w83 ⟨rfl, hx⟩
  replace b0 := b0.ext hx
  replace hr1a := hr1a.below hx
  replace hr1b := hr1b.below hx
  replace hr2 := hr2.below hx
  replace o4 := o4.ext hx
  replace o7 := o7.ext hx
  replace o12 := o12.ext hx
  replace o18 := o18.ext hx
  replace o25 := o25.ext hx
  replace o28 := o28.ext hx
  replace b39 := b39.ext hx
  replace o43 := o43.ext hx
  replace o53 := o53.ext hx
  replace o73 := o73.ext hx
  replace hx0 := hx0.trans hx
  clear hx
  have zb39_0 := b39.cell 0 rfl
  have zb39_1 := b39.cell 1 rfl
  go_wp2_with fail
  clear zb39_0 zb39_1
  refine (markChain_any _ Ax23 n1a kx24 Ax26 n1b kx27 _ _ 1 _ (by omega) o25 o28 ne29.2).mono ?_
  rintro e w84 ⟨rfl, w85, o_, hw, o2_, hw2⟩
  replace b0 := b0.wr hw o25 (by decide)
  replace o4 := o4.other hw ne31.1
  replace o7 := o7.other hw ne32.1
  replace o12 := o12.other hw ne33.1
  replace o18 := o18.other hw ne34.1
  replace o28 := o28.other hw ne29.2
  replace b39 := b39.wr hw o25 (by decide)
  replace o43 := o43.other hw ne49.2
  replace o53 := o53.other hw ne59.2
  replace o73 := o73.other hw ne79.2
  replace hx0 := hw.ext hx0 (o25.base le_o25)
  replace hr1a := hr1a0.below hx0
  replace hr1b := hr1b0.below hx0
  replace hr2 := hr20.below hx0
  clear o25 hw; have o25 := o_; clear o_; have hw := hw2; clear hw2
  replace b0 := b0.wr hw o28 (by decide)
  replace o4 := o4.other hw ne35.1
  replace o7 := o7.other hw ne36.1
  replace o12 := o12.other hw ne37.1
  replace o18 := o18.other hw ne38.1
  replace o25 := o25.other hw ne29.1
  replace b39 := b39.wr hw o28 (by decide)
  replace o43 := o43.other hw ne50.2
  replace o53 := o53.other hw ne60.2
  replace o73 := o73.other hw ne80.2
  replace hx0 := hw.ext hx0 (o28.base le_o28)
  replace hr1a := hr1a0.below hx0
  replace hr1b := hr1b0.below hx0
  replace hr2 := hr20.below hx0
  clear o28 hw; have o28 := o2_; clear o2_
  go_wp2_with fail
  refine (markFloat32S_any _ Ax41 n2 kx42 _ (1 + n1a + n1b) _ (by omega) o43).mono ?_
  rintro e w86 ⟨rfl, o_, hw⟩
  replace b0 := b0.wr hw o43 (by decide)
  replace o4 := o4.other hw ne45.1
  replace o7 := o7.other hw ne46.1
  replace o12 := o12.other hw ne47.1
  replace o18 := o18.other hw ne48.1
  replace o25 := o25.other hw ne49.1
  replace o28 := o28.other hw ne50.1
  replace b39 := b39.wr hw o43 (by decide)
  replace o53 := o53.other hw ne61.2
  replace o73 := o73.other hw ne81.2
  replace hx0 := hw.ext hx0 (o43.base le_o43)
  replace hr1a := hr1a0.below hx0
  replace hr1b := hr1b0.below hx0
  replace hr2 := hr20.below hx0
  clear o43 hw; have o43 := o_; clear o_
  go_wp2_with fail
  refine (eqFloat32S_any Ax51 Ax16 d.1.length d.1.length kx52 kx17  d.1 d.1 _ o53.reads o18.reads rfl).mono ?_
  rintro e w87 ⟨rfl, hx⟩
  replace b0 := b0.ext hx
  replace hr1a := hr1a.below hx
  replace hr1b := hr1b.below hx
  replace hr2 := hr2.below hx
  replace o4 := o4.ext hx
  replace o7 := o7.ext hx
  replace o12 := o12.ext hx
  replace o18 := o18.ext hx
  replace o25 := o25.ext hx
  replace o28 := o28.ext hx
  replace b39 := b39.ext hx
  replace o43 := o43.ext hx
  replace o53 := o53.ext hx
  replace o73 := o73.ext hx
  replace hx0 := hx0.trans hx
  clear hx
  go_wp2_with fail
  refine (markFloat32S_any _ Ax51 d.1.length kx52 _ 1 _ (by omega) o53).mono ?_
  rintro e w88 ⟨rfl, o_, hw⟩
  replace b0 := b0.wr hw o53 (by decide)
  replace o4 := o4.other hw ne55.1
  replace o7 := o7.other hw ne56.1
  replace o12 := o12.other hw ne57.1
  replace o18 := o18.other hw ne58.1
  replace o25 := o25.other hw ne59.1
  replace o28 := o28.other hw ne60.1
  replace b39 := b39.wr hw o53 (by decide)
  replace o43 := o43.other hw ne61.1
  replace o73 := o73.other hw ne82.2
  replace hx0 := hw.ext hx0 (o53.base le_o53)
  replace hr1a := hr1a0.below hx0
  replace hr1b := hr1b0.below hx0
  replace hr2 := hr20.below hx0
  clear o53 hw; have o53 := o_; clear o_
  go_wp2_with fail
  refine (heldFloat32S_any Ax51 d.1.length kx52 1 _ (by omega) (by omega) o53.reads).mono ?_
  rintro e w89 ⟨rfl, hx⟩
  replace b0 := b0.ext hx
  replace hr1a := hr1a.below hx
  replace hr1b := hr1b.below hx
  replace hr2 := hr2.below hx
  replace o4 := o4.ext hx
  replace o7 := o7.ext hx
  replace o12 := o12.ext hx
  replace o18 := o18.ext hx
  replace o25 := o25.ext hx
  replace o28 := o28.ext hx
  replace b39 := b39.ext hx
  replace o43 := o43.ext hx
  replace o53 := o53.ext hx
  replace o73 := o73.ext hx
  replace hx0 := hx0.trans hx
  clear hx
  have zb0_0 := b0.cell 0 rfl
  have zb0_1 := b0.cell 1 rfl
  go_wp2_with fail
  clear zb0_0 zb0_1
  have le_o92 : w.heap.size ≤ w89.heap.size := hx0.size
  have le_o95 : w.heap.size ≤ w89.heap.size := hx0.size
  refine (toChain_any A1a n1a cap1a A1b n1b cap1b xs1a xs1b _ hr1a hr1b (by omega) (by omega)).mono ?_
  rintro e w97 ⟨Ax90, kx91, Ax93, kx94, rfl, o92, o95, ne96, hx⟩
  have ne98 := o4.ne o92
  have ne99 := o7.ne o92
  have ne100 := o12.ne o92
  have ne101 := o18.ne o92
  have ne102 := o25.ne o92
  have ne103 := o28.ne o92
  have ne104 := o43.ne o92
  have ne105 := o53.ne o92
  have ne106 := o73.ne o92
  have hs_o92 := o92.small; simp only [flts_length] at hs_o92
  have ne107 := o4.ne o95
  have ne108 := o7.ne o95
  have ne109 := o12.ne o95
  have ne110 := o18.ne o95
  have ne111 := o25.ne o95
  have ne112 := o28.ne o95
  have ne113 := o43.ne o95
  have ne114 := o53.ne o95
  have ne115 := o73.ne o95
  have hs_o95 := o95.small; simp only [flts_length] at hs_o95
  replace b0 := b0.ext hx
  replace hr1a := hr1a.below hx
  replace hr1b := hr1b.below hx
  replace hr2 := hr2.below hx
  replace o4 := o4.ext hx
  replace o7 := o7.ext hx
  replace o12 := o12.ext hx
  replace o18 := o18.ext hx
  replace o25 := o25.ext hx
  replace o28 := o28.ext hx
  replace b39 := b39.ext hx
  replace o43 := o43.ext hx
  replace o53 := o53.ext hx
  replace o73 := o73.ext hx
  replace hx0 := hx0.trans hx
  clear hx
  go_wp2_with fail
  have le_o118 : w.heap.size ≤ w97.heap.size := hx0.size
  refine (toFloat32S_any A2 n2 cap2 xs2 _ hr2 (by omega)).mono ?_
  rintro e w119 ⟨Ax116, kx117, rfl, o118, hx⟩
  have ne120 := o4.ne o118
  have ne121 := o7.ne o118
  have ne122 := o12.ne o118
  have ne123 := o18.ne o118
  have ne124 := o25.ne o118
  have ne125 := o28.ne o118
  have ne126 := o43.ne o118
  have ne127 := o53.ne o118
  have ne128 := o73.ne o118
  have ne129 := o92.ne o118
  have ne130 := o95.ne o118
  have hs_o118 := o118.small; simp only [flts_length] at hs_o118
  replace b0 := b0.ext hx
  replace hr1a := hr1a.below hx
  replace hr1b := hr1b.below hx
  replace hr2 := hr2.below hx
  replace o4 := o4.ext hx
  replace o7 := o7.ext hx
  replace o12 := o12.ext hx
  replace o18 := o18.ext hx
  replace o25 := o25.ext hx
  replace o28 := o28.ext hx
  replace b39 := b39.ext hx
  replace o43 := o43.ext hx
  replace o53 := o53.ext hx
  replace o73 := o73.ext hx
  replace o92 := o92.ext hx
  replace o95 := o95.ext hx
  replace hx0 := hx0.trans hx
  clear hx
  go_wp2_with fail
  have le_o133 : w.heap.size ≤ w119.heap.size := hx0.size
  refine (implSolveChain_any Ax90 n1a kx91 Ax93 n1b kx94 Ax116 n2 kx117 xs1a xs1b xs2 _ o92.reads o95.reads o118.reads).mono ?_
  rw [← Hd.out]
  rintro e w134 ⟨Ax131, kx132, rfl, o133, hx⟩
  have ne135 := o4.ne o133
  have ne136 := o7.ne o133
  have ne137 := o12.ne o133
  have ne138 := o18.ne o133
  have ne139 := o25.ne o133
  have ne140 := o28.ne o133
  have ne141 := o43.ne o133
  have ne142 := o53.ne o133
  have ne143 := o73.ne o133
  have ne144 := o92.ne o133
  have ne145 := o95.ne o133
  have ne146 := o118.ne o133
  have hs_o133 := o133.small; simp only [flts_length] at hs_o133
  replace b0 := b0.ext hx
  replace hr1a := hr1a.below hx
  replace hr1b := hr1b.below hx
  replace hr2 := hr2.below hx
  replace o4 := o4.ext hx
  replace o7 := o7.ext hx
  replace o12 := o12.ext hx
  replace o18 := o18.ext hx
  replace o25 := o25.ext hx
  replace o28 := o28.ext hx
  replace b39 := b39.ext hx
  replace o43 := o43.ext hx
  replace o53 := o53.ext hx
  replace o73 := o73.ext hx
  replace o92 := o92.ext hx
  replace o95 := o95.ext hx
  replace o118 := o118.ext hx
  replace hx0 := hx0.trans hx
  clear hx
  go_wp2_with fail
  refine (eqFloat32S_any Ax131 Ax16 d.1.length d.1.length kx132 kx17  d.1 d.1 _ o133.reads o18.reads rfl).mono ?_
  rintro e w147 ⟨rfl, hx⟩
  replace b0 := b0.ext hx
  replace hr1a := hr1a.below hx
  replace hr1b := hr1b.below hx
  replace hr2 := hr2.below hx
  replace o4 := o4.ext hx
  replace o7 := o7.ext hx
  replace o12 := o12.ext hx
  replace o18 := o18.ext hx
  replace o25 := o25.ext hx
  replace o28 := o28.ext hx
  replace b39 := b39.ext hx
  replace o43 := o43.ext hx
  replace o53 := o53.ext hx
  replace o73 := o73.ext hx
  replace o92 := o92.ext hx
  replace o95 := o95.ext hx
  replace o118 := o118.ext hx
  replace o133 := o133.ext hx
  replace hx0 := hx0.trans hx
  clear hx
  go_wp2_with fail
  refine (heldFloat32S_any Ax51 d.1.length kx52 1 _ (by omega) (by omega) o53.reads).mono ?_
  rintro e w148 ⟨rfl, hx⟩
  replace b0 := b0.ext hx
  replace hr1a := hr1a.below hx
  replace hr1b := hr1b.below hx
  replace hr2 := hr2.below hx
  replace o4 := o4.ext hx
  replace o7 := o7.ext hx
  replace o12 := o12.ext hx
  replace o18 := o18.ext hx
  replace o25 := o25.ext hx
  replace o28 := o28.ext hx
  replace b39 := b39.ext hx
  replace o43 := o43.ext hx
  replace o53 := o53.ext hx
  replace o73 := o73.ext hx
  replace o92 := o92.ext hx
  replace o95 := o95.ext hx
  replace o118 := o118.ext hx
  replace o133 := o133.ext hx
  replace hx0 := hx0.trans hx
  clear hx
  go_wp2_with fail
  go_ret
  exact ⟨rfl, hx0⟩

end Go.Proofs.Ytgjfdfmbknmpaaa
