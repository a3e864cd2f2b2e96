import Derived.Test.YtgjfdfmbknmpaaaM26
import Derived.Test.YtgjfdfmbknmpaaaB3M
set_option linter.unusedVariables false
set_option linter.unusedSimpArgs false
namespace Go.Proofs.Ytgjfdfmbknmpaaa
open Go.RowKit

set_option maxRecDepth 20000 in
set_option maxHeartbeats 8000000 in
theorem law_KroneckerMatrix (r1 : Int) (c1 : Int) (A1 : Option Addr) (n1 cap1 : Nat) (xs1 : List Nat) (r2 : Int) (c2 : Int) (A2 : Option Addr) (n2 cap2 : Nat) (xs2 : List Nat) (w : World) (hr1 : Rds w A1 n1 (flts xs1)) (hr2 : Rds w A2 n2 (flts xs2)) :
    Calls Try.prog 16 #[.agg #[.int .i64 r1, .int .i64 c1, .slice A1 n1 cap1], .agg #[.int .i64 r2, .int .i64 c2, .slice A2 n2 cap2]] w fun e w' => e = .returned (.bool true) ∧ Ext w w' := by
  have hs_hr1 := hr1.small
  have hs_hr2 := hr2.small
  obtain ⟨w0, hw0⟩ : ∃ w0 : World, w0 = ((w.alloc (.cells #[.int .i64 r1, .int .i64 c1, .slice A1 n1 cap1] 32)).alloc (.cells #[.int .i64 r2, .int .i64 c2, .slice A2 n2 cap2] 32)) := ⟨_, rfl⟩
  have b0 : Blk w0 (w.heap.size) #[.int .i64 r1, .int .i64 c1, .slice A1 n1 cap1] 32 := by subst hw0; simpa using (Blk.new w #[.int .i64 r1, .int .i64 c1, .slice A1 n1 cap1] 32).ext ((Ext.refl _).alloc _)
  have b1 : Blk w0 (w.heap.size + 1) #[.int .i64 r2, .int .i64 c2, .slice A2 n2 cap2] 32 := by subst hw0; simpa using (Blk.new (w.alloc (.cells #[.int .i64 r1, .int .i64 c1, .slice A1 n1 cap1] 32)) #[.int .i64 r2, .int .i64 c2, .slice A2 n2 cap2] 32)
  have hx0 : Ext w w0 := by subst hw0; exact ((Ext.refl _).alloc _).alloc _
  have Hw0 := Lib.hid hw0
  clear hw0
  have hr10 := hr1; replace hr1 := hr1.below hx0
  have hr20 := hr2; replace hr2 := hr2.below hx0
  obtain ⟨d, hd⟩ : ∃ d : MD, d = kronD r1 c1 r2 c2 xs1 xs2 := ⟨_, rfl⟩
  have Hd := Lib.hid hd; clear hd
  by_cases hn0 : n1 ≤ 1048576
  rotate_left
  · have HS0 : Hid (szL (n1) (1048576) = -1) := by show szL _ _ = -1; unfold szL; rw [if_pos (by omega)]
    go_enter Try.func16, Try.ntmps16
    have zb0_0 := b0.cell 0 rfl
    have zb0_1 := b0.cell 1 rfl
    have zb0_2 := b0.cell 2 rfl
    go_wp2_with fail
    rw [← Hw0.out]
    clear zb0_0 zb0_1 zb0_2
    refine (szMatrix_any r1 c1 A1 n1 cap1 1048576 (by omega) (by omega) _).mono ?_
    rw [HS0.out]
    rintro e w1 ⟨rfl, hx⟩
    replace b0 := b0.ext hx
    replace b1 := b1.ext hx
    replace hr1 := hr1.below hx
    replace hr2 := hr2.below hx
    replace hx0 := hx0.trans hx
    clear hx
    go_wp2_with fail
    go_ret
    exact ⟨rfl, hx0⟩
  have HS0 : Hid (szL (n1) (1048576) = 1048576 - (n1 : Int)) := by show szL _ _ = _; unfold szL; rw [if_neg (by omega)]
  by_cases hn1 : n1 + n2 ≤ 1048576
  rotate_left
  · have HS1 : Hid (szL (n2) (1048576 - (n1 : Int)) = -1) := by show szL _ _ = -1; unfold szL; rw [if_pos (by omega)]
    go_enter Try.func16, Try.ntmps16
    have zb0_0 := b0.cell 0 rfl
    have zb0_1 := b0.cell 1 rfl
    have zb0_2 := b0.cell 2 rfl
    go_wp2_with fail
    rw [← Hw0.out]
    clear zb0_0 zb0_1 zb0_2
    refine (szMatrix_any r1 c1 A1 n1 cap1 1048576 (by omega) (by omega) _).mono ?_
    rw [HS0.out]
    rintro e w1 ⟨rfl, hx⟩
    replace b0 := b0.ext hx
    replace b1 := b1.ext hx
    replace hr1 := hr1.below hx
    replace hr2 := hr2.below hx
    replace hx0 := hx0.trans hx
    clear hx
    have zb1_0 := b1.cell 0 rfl
    have zb1_1 := b1.cell 1 rfl
    have zb1_2 := b1.cell 2 rfl
    go_wp2_with fail
    clear zb1_0 zb1_1 zb1_2
    refine (szMatrix_any r2 c2 A2 n2 cap2 (1048576 - n1) (by omega) (by omega) _).mono ?_
    rw [HS1.out]
    rintro e w2 ⟨rfl, hx⟩
    replace b0 := b0.ext hx
    replace b1 := b1.ext hx
    replace hr1 := hr1.below hx
    replace hr2 := hr2.below hx
    replace hx0 := hx0.trans hx
    clear hx
    go_wp2_with fail
    go_ret
    exact ⟨rfl, hx0⟩
  have HS1 : Hid (szL (n2) (1048576 - (n1 : Int)) = 1048576 - (n1 : Int) - (n2 : Int)) := by show szL _ _ = _; unfold szL; rw [if_neg (by omega)]
  go_enter Try.func16, Try.ntmps16
  have zb0_0 := b0.cell 0 rfl
  have zb0_1 := b0.cell 1 rfl
  have zb0_2 := b0.cell 2 rfl
  go_wp2_with fail
  rw [← Hw0.out]
  clear zb0_0 zb0_1 zb0_2
  refine (szMatrix_any r1 c1 A1 n1 cap1 1048576 (by omega) (by omega) _).mono ?_
  rw [HS0.out]
  rintro e w1 ⟨rfl, hx⟩
  replace b0 := b0.ext hx
  replace b1 := b1.ext hx
  replace hr1 := hr1.below hx
  replace hr2 := hr2.below hx
  replace hx0 := hx0.trans hx
  clear hx
  have zb1_0 := b1.cell 0 rfl
  have zb1_1 := b1.cell 1 rfl
  have zb1_2 := b1.cell 2 rfl
  go_wp2_with fail
  clear zb1_0 zb1_1 zb1_2
  refine (szMatrix_any r2 c2 A2 n2 cap2 (1048576 - n1) (by omega) (by omega) _).mono ?_
  rw [HS1.out]
  rintro e w2 ⟨rfl, hx⟩
  replace b0 := b0.ext hx
  replace b1 := b1.ext hx
  replace hr1 := hr1.below hx
  replace hr2 := hr2.below hx
  replace hx0 := hx0.trans hx
  clear hx
  go_wp2_with fail
  have zb0_0 := b0.cell 0 rfl
  have zb0_1 := b0.cell 1 rfl
  have zb0_2 := b0.cell 2 rfl
  have zb1_0 := b1.cell 0 rfl
  have zb1_1 := b1.cell 1 rfl
  have zb1_2 := b1.cell 2 rfl
  have old_b0 := b0.lt
  have old_b1 := b1.lt
  refine wp_region_Fl (cs := []) 7 9 [0, 1, 2, 3, 4, 5, 6, 7, 8] [10] [1, 3, 4, 8] [(4, [1, 3])] (fun i__ v => match i__ with | 1 => ∃ (Ax3 : Option Addr) (kx4 : Nat), v = (.agg #[.int .i64 r1, .int .i64 c1, .slice Ax3 n1 kx4]) | 3 => ∃ (Ax6 : Option Addr) (kx7 : Nat), v = (.agg #[.int .i64 r2, .int .i64 c2, .slice Ax6 n2 kx7]) | 4 => ∃ (Ax9 : Option Addr) (kx10 : Nat), v = (.tuple #[.agg #[.int .i64 d.r, .int .i64 d.c, .slice Ax9 d.xs.length kx10], .bool d.ok]) | 8 => ∃ b, v = (.pointer (some ⟨b, 0, none⟩)) | _ => False) (fun i__ v w' => match i__ with | 1 => OwnF w' w2.heap.size 39 v [2] (flts xs1) | 3 => OwnF w' w2.heap.size 39 v [2] (flts xs2) | 4 => OwnF w' w2.heap.size 39 v [0, 2] (flts d.xs) | 8 => BlkF w' v w2.heap.size #[.int .i64 0, .int .i64 0, .slice none 0 0] 35 | _ => True) (by kernel_rfl) (by kernel_rfl) (by kernel_rfl) (by intro i v w' w2 h hx; revert h; (try dsimp only); split <;> intro h <;> first | trivial | exact RdsF.ext h hx | exact OwnF.ext h hx | exact BlkF.ext h hx | exact ⟨RdsF.ext h.1 hx, RdsF.ext h.2 hx⟩ | exact ⟨OwnF.ext h.1 hx, OwnF.ext h.2 hx⟩ | exact ⟨RdsF.ext h.1 hx, RdsF.ext h.2.1 hx, RdsF.ext h.2.2 hx⟩ | exact ⟨OwnF.ext h.1 hx, OwnF.ext h.2.1 hx, OwnF.ext h.2.2 hx⟩) ?_
  refine' wpT_det (o := ⟨some 28, Op.load 32 (Operand.tmp 2), 32, "exact.go:2175", #[], none⟩) rfl (by rfl) (by rfl) (fun w' hw' => ?_) ?_; rotate_left
  · have zb0_0_ := Ext.cell hw' zb0_0; have zb0_1_ := Ext.cell hw' zb0_1; have zb0_2_ := Ext.cell hw' zb0_2; have zb1_0_ := Ext.cell hw' zb1_0; have zb1_1_ := Ext.cell hw' zb1_1; have zb1_2_ := Ext.cell hw' zb1_2; go_simp <;> first | rfl | exact ⟨rfl, rfl⟩
  simp only [Act.put, List.setIfInBounds_toArray, List.set_cons_zero, List.set_cons_succ]
  refine wpT_nd (o := ⟨some 29, Op.call { callee := Callee.value (Operand.func 37), args := #[Operand.tmp 28], argTypes := #[32] }, 35, "exact.go:2175", #[{ on := 0, ground := Ground.data }], none⟩) rfl (by rfl) (by rfl) (fun w' hw' hF R__ hGo => ?_) ⟨_, none, 0, rfl⟩ ?_
  · go_simp
    refine gives_enter rfl ?_
    refine (toMatrix_any r1 c1 A1 n1 cap1 xs1 _ (hr1.below hw'.undrew) (by omega)).mono ?_
    rintro e w2 ⟨Ax3, kx4, rfl, o5, hx⟩
    exact ⟨_, rfl, hGo _ _ hx ⟨_, _, rfl⟩ (OwnF.of (o5.base hw'.size) rfl)⟩
  rintro _ ⟨Ax3, kx4, rfl⟩
  simp only [Act.put, List.setIfInBounds_toArray, List.set_cons_zero, List.set_cons_succ]
  refine' wpT_det (o := ⟨some 30, Op.load 32 (Operand.tmp 3), 32, "exact.go:2175", #[], none⟩) rfl (by rfl) (by rfl) (fun w' hw' => ?_) ?_; rotate_left
  · have zb0_0_ := Ext.cell hw' zb0_0; have zb0_1_ := Ext.cell hw' zb0_1; have zb0_2_ := Ext.cell hw' zb0_2; have zb1_0_ := Ext.cell hw' zb1_0; have zb1_1_ := Ext.cell hw' zb1_1; have zb1_2_ := Ext.cell hw' zb1_2; go_simp <;> first | rfl | exact ⟨rfl, rfl⟩
  simp only [Act.put, List.setIfInBounds_toArray, List.set_cons_zero, List.set_cons_succ]
  refine wpT_nd (o := ⟨some 31, Op.call { callee := Callee.value (Operand.func 37), args := #[Operand.tmp 30], argTypes := #[32] }, 35, "exact.go:2175", #[{ on := 2, ground := Ground.data }, { on := 1, ground := Ground.chain }], none⟩) rfl (by rfl) (by rfl) (fun w' hw' hF R__ hGo => ?_) ⟨_, none, 0, rfl⟩ ?_
  · go_simp
    refine gives_enter rfl ?_
    refine (toMatrix_any r2 c2 A2 n2 cap2 xs2 _ (hr2.below hw'.undrew) (by omega)).mono ?_
    rintro e w2 ⟨Ax6, kx7, rfl, o8, hx⟩
    exact ⟨_, rfl, hGo _ _ hx ⟨_, _, rfl⟩ (OwnF.of (o8.base hw'.size) rfl)⟩
  rintro _ ⟨Ax6, kx7, rfl⟩
  simp only [Act.put, List.setIfInBounds_toArray, List.set_cons_zero, List.set_cons_succ]
  refine wpT_nd (o := ⟨some 32, Op.call { callee := Callee.value (Operand.func 69), args := #[Operand.tmp 29, Operand.tmp 31], argTypes := #[35, 35] }, 44, "exact.go:2175", #[{ on := 1, ground := Ground.data }, { on := 3, ground := Ground.data }, { on := 3, ground := Ground.chain }], none⟩) rfl (by rfl) (by rfl) (fun w' hw' hF R__ hGo => ?_) ⟨_, none, 0, rfl⟩ ?_
  · go_simp
    refine gives_enter rfl ?_
    refine (specKroneckerMatrix_any r1 c1 Ax3 n1 kx4 r2 c2 Ax6 n2 kx7 xs1 xs2 _ ((hF 1 (by simp [uses]) _ rfl) _ _ _ rfl).reads ((hF 3 (by simp [uses]) _ rfl) _ _ _ rfl).reads).mono ?_
    rw [← Hd.out]
    rintro e w2 ⟨Ax9, kx10, rfl, o11, hx⟩
    exact ⟨_, rfl, hGo _ _ hx ⟨_, _, rfl⟩ (OwnF.of (o11.base hw'.size) rfl)⟩
  rintro _ ⟨Ax9, kx10, rfl⟩
  simp only [Act.put, List.setIfInBounds_toArray, List.set_cons_zero, List.set_cons_succ]
  refine' wpT_det (o := ⟨some 27, Op.move (Operand.tmp 32), 44, "exact.go:2175", #[{ on := 4, ground := Ground.data }], none⟩) rfl (by rfl) (by rfl) (fun w' hw' => ?_) ?_; rotate_left
  · go_simp <;> first | rfl | exact ⟨rfl, rfl⟩
  simp only [Act.put, List.setIfInBounds_toArray, List.set_cons_zero, List.set_cons_succ]
  refine' wpT_det (o := ⟨some 33, Op.extract (Operand.tmp 27) 0, 35, "exact.go:2175", #[{ on := 5, ground := Ground.data }], none⟩) rfl (by rfl) (by rfl) (fun w' hw' => ?_) ?_; rotate_left
  · go_simp <;> first | rfl | exact ⟨rfl, rfl⟩
  simp only [Act.put, List.setIfInBounds_toArray, List.set_cons_zero, List.set_cons_succ]
  refine' wpT_det (o := ⟨some 34, Op.extract (Operand.tmp 27) 1, 4, "exact.go:2175", #[{ on := 5, ground := Ground.data }, { on := 9, ground := Ground.gcOnly Departure.lateStores }], none⟩) rfl (by rfl) (by rfl) (fun w' hw' => ?_) ?_; rotate_left
  · go_simp <;> first | rfl | exact ⟨rfl, rfl⟩
  simp only [Act.put, List.setIfInBounds_toArray, List.set_cons_zero, List.set_cons_succ]
  refine wpT_nd (o := ⟨some 6, Op.alloc 35, 0, "exact.go:2175", #[], none⟩) rfl (by rfl) (by rfl) (fun w' hw' hF R__ hGo => ?_) ⟨_, 0, rfl⟩ ?_
  · go_simp; exact gives_value rfl (hGo _ _ ((Ext.refl _).alloc _) ⟨_, rfl⟩ (fun b e => by simp only [Value.pointer.injEq, Option.some.injEq, Addr.mk.injEq, and_true] at e; subst e; exact ⟨Blk.new _ _ _, hw'.size⟩))
  rintro _ ⟨nb12, rfl⟩
  simp only [Act.put, List.setIfInBounds_toArray, List.set_cons_zero, List.set_cons_succ]
  refine wpT_nil (fun w13 hw' hF => ?_)
  clear zb0_0 zb0_1 zb0_2 zb1_0 zb1_1 zb1_2
  have hE_ := hw'
  have hx := hw'.undrew; clear hw'
  have o11 := (hF 4 _ rfl) _ _ _ rfl
  have le_o11 : w.heap.size ≤ w2.heap.size := hx0.size
  have b12 := (hF 8 _ rfl nb12 rfl).1
  have hb_ := (hF 8 _ rfl nb12 rfl).2
  clear hF
  have hs_o11 := o11.small; simp only [flts_length] at hs_o11
  replace b0 := b0.ext hx
  replace b1 := b1.ext hx
  replace hr1 := hr1.below hx
  replace hr2 := hr2.below hx
  replace hx0 := hx0.trans hx
  clear hx
  have z_0 := b12.cell 0 rfl; have y_0 := b12.free 0
  have z_1 := b12.cell 1 rfl; have y_1 := b12.free 1
  have z_2 := b12.cell 2 rfl; have y_2 := b12.free 2
  refine ⟨(⟨none, Op.store 35 (Operand.tmp 6) (Operand.tmp 33), 0, "exact.go:2175", #[{ on := 8, ground := Ground.data }, { on := 6, ground := Ground.data }, { on := 4, ground := Ground.chain }, { on := 0, ground := Ground.phase }, { on := 1, ground := Ground.phase }, { on := 2, ground := Ground.phase }, { on := 3, ground := Ground.phase }, { on := 4, ground := Ground.phase }, { on := 5, ground := Ground.phase }, { on := 6, ground := Ground.phase }, { on := 7, ground := Ground.textOnly Departure.lateStores }, { on := 8, ground := Ground.phase }], none⟩ : Oper), (((w13.setCell ⟨nb12, 0, none⟩ (.int .i64 d.r)).setCell ⟨nb12, 1, none⟩ (.int .i64 d.c)).setCell ⟨nb12, 2, none⟩ (.slice Ax9 d.xs.length kx10)), rfl, (by go_simp), ?_, ?_⟩
  · exact (Ext.set (Ext.set (Ext.set hE_ (by exact hb_) _) (by exact hb_) _) (by exact hb_) _)
  clear hE_
  show wpList _ _ _ [(⟨some 7, Op.assign (Operand.tmp 34), 4, "exact.go:2175", #[{ on := 7, ground := Ground.data }, { on := 9, ground := Ground.chain }, { on := 0, ground := Ground.phase }, { on := 1, ground := Ground.phase }, { on := 2, ground := Ground.phase }, { on := 3, ground := Ground.phase }, { on := 4, ground := Ground.phase }, { on := 5, ground := Ground.phase }, { on := 6, ground := Ground.phase }, { on := 7, ground := Ground.phase }, { on := 8, ground := Ground.phase }, { on := 9, ground := Ground.phase }], none⟩ : Oper)] _ _
  go_upto_region 9 with (fail)
  clear z_0 y_0 z_1 y_1 z_2 y_2
  obtain ⟨w14, hw⟩ : ∃ v : World, v = (((w13.setCell ⟨nb12, 0, none⟩ (.int .i64 d.r)).setCell ⟨nb12, 1, none⟩ (.int .i64 d.c)).setCell ⟨nb12, 2, none⟩ (.slice Ax9 d.xs.length kx10)) := ⟨_, rfl⟩
  rw [← hw]
  have hl_ : w.heap.size ≤ w2.heap.size := le_o11
  have b0_ : Blk w14 (w.heap.size) #[.int .i64 r1, .int .i64 c1, .slice A1 n1 cap1] 32 := by subst hw; exact (Blk.other (Blk.other (Blk.other b0 (by omega) 0 _) (by omega) 1 _) (by omega) 2 _)
  have b1_ : Blk w14 (w.heap.size + 1) #[.int .i64 r2, .int .i64 c2, .slice A2 n2 cap2] 32 := by subst hw; exact (Blk.other (Blk.other (Blk.other b1 (by omega) 0 _) (by omega) 1 _) (by omega) 2 _)
  have o11_ := (Own.setBlk (Own.setBlk (Own.setBlk o11 b12 (by decide) 0 (.int .i64 d.r)) (b12.set 0 (.int .i64 d.r)) (by decide) 1 (.int .i64 d.c)) ((b12.set 0 (.int .i64 d.r)).set 1 (.int .i64 d.c)) (by decide) 2 (.slice Ax9 d.xs.length kx10)); rw [← hw] at o11_
  have hx0_ : Ext w w14 := by subst hw; exact (((hx0.set (Nat.le_trans hl_ hb_) _).set (Nat.le_trans hl_ hb_) _).set (Nat.le_trans hl_ hb_) _)
  have b12_ : Blk w14 nb12 #[.int .i64 d.r, .int .i64 d.c, .slice Ax9 d.xs.length kx10] 35 := by subst hw; exact (((b12.set 0 (.int .i64 d.r)).set 1 (.int .i64 d.c)).set 2 (.slice Ax9 d.xs.length kx10))
  clear b0; have b0 := b0_; clear b0_
  clear b1; have b1 := b1_; clear b1_
  clear o11; have o11 := o11_; clear o11_
  clear hx0 b12; have hx0 := hx0_; have b12 := b12_; clear hx0_ b12_
  replace hr1 := hr10.below hx0
  replace hr2 := hr20.below hx0
  clear hw hl_ hb_ old_b0 old_b1
  have zb0_0 := b0.cell 0 rfl
  have zb0_1 := b0.cell 1 rfl
  have zb0_2 := b0.cell 2 rfl
  go_wp2_with fail
  clear zb0_0 zb0_1 zb0_2
  have le_o17 : w.heap.size ≤ w14.heap.size := hx0.size
  refine (toMatrix_any r1 c1 A1 n1 cap1 xs1 _ hr1 (by omega)).mono ?_
  rintro e w18 ⟨Ax15, kx16, rfl, o17, hx⟩
  have ne19 := o11.ne o17
  have hs_o17 := o17.small; simp only [flts_length] at hs_o17
  replace b0 := b0.ext hx
  replace b1 := b1.ext hx
  replace hr1 := hr1.below hx
  replace hr2 := hr2.below hx
  replace o11 := o11.ext hx
  replace b12 := b12.ext hx
  replace hx0 := hx0.trans hx
  clear hx
  have zb1_0 := b1.cell 0 rfl
  have zb1_1 := b1.cell 1 rfl
  have zb1_2 := b1.cell 2 rfl
  have qb1 := b1.lt
  go_wp2_with fail
  obtain ⟨w21, hw⟩ : ∃ v : World, v = (w18.alloc (.cells #[.int .i64 r1, .int .i64 c1, .slice Ax15 n1 kx16] 35)) := ⟨_, rfl⟩
  rw [← hw]
  have hx : Ext w18 w21 := by subst hw; exact (Ext.refl _).alloc _
  have b20 : Blk w21 w18.heap.size #[.int .i64 r1, .int .i64 c1, .slice Ax15 n1 kx16] 35 := by subst hw; exact Blk.new _ _ _
  clear hw
  replace b0 := b0.ext hx
  replace b1 := b1.ext hx
  replace hr1 := hr1.below hx
  replace hr2 := hr2.below hx
  replace o11 := o11.ext hx
  replace b12 := b12.ext hx
  replace o17 := o17.ext hx
  replace hx0 := hx0.trans hx
  clear hx
  clear zb1_0 zb1_1 zb1_2 qb1
  have le_o24 : w.heap.size ≤ w21.heap.size := hx0.size
  refine (toMatrix_any r2 c2 A2 n2 cap2 xs2 _ hr2 (by omega)).mono ?_
  rintro e w25 ⟨Ax22, kx23, rfl, o24, hx⟩
  have ne26 := o11.ne o24
  have ne27 := o17.ne o24
  have hs_o24 := o24.small; simp only [flts_length] at hs_o24
  replace b0 := b0.ext hx
  replace b1 := b1.ext hx
  replace hr1 := hr1.below hx
  replace hr2 := hr2.below hx
  replace o11 := o11.ext hx
  replace b12 := b12.ext hx
  replace o17 := o17.ext hx
  replace b20 := b20.ext hx
  replace hx0 := hx0.trans hx
  clear hx
  have zb20_0 := b20.cell 0 rfl
  have zb20_1 := b20.cell 1 rfl
  have zb20_2 := b20.cell 2 rfl
  have qb20 := b20.lt
  go_wp2_with fail
  obtain ⟨w29, hw⟩ : ∃ v : World, v = (w25.alloc (.cells #[.int .i64 r2, .int .i64 c2, .slice Ax22 n2 kx23] 35)) := ⟨_, rfl⟩
  rw [← hw]
  have hx : Ext w25 w29 := by subst hw; exact (Ext.refl _).alloc _
  have b28 : Blk w29 w25.heap.size #[.int .i64 r2, .int .i64 c2, .slice Ax22 n2 kx23] 35 := by subst hw; exact Blk.new _ _ _
  clear hw
  replace b0 := b0.ext hx
  replace b1 := b1.ext hx
  replace hr1 := hr1.below hx
  replace hr2 := hr2.below hx
  replace o11 := o11.ext hx
  replace b12 := b12.ext hx
  replace o17 := o17.ext hx
  replace b20 := b20.ext hx
  replace o24 := o24.ext hx
  replace hx0 := hx0.trans hx
  clear hx
  clear zb20_0 zb20_1 zb20_2 qb20
  have le_o32 : w.heap.size ≤ w29.heap.size := hx0.size
  refine (implKroneckerMatrix_any r1 c1 Ax15 n1 kx16 r2 c2 Ax22 n2 kx23 xs1 xs2 _ o17.reads o24.reads).mono ?_
  rw [← Hd.out]
  rintro e w33 ⟨Ax30, kx31, rfl, o32, hx⟩
  have ne34 := o11.ne o32
  have ne35 := o17.ne o32
  have ne36 := o24.ne o32
  have hs_o32 := o32.small; simp only [flts_length] at hs_o32
  replace b0 := b0.ext hx
  replace b1 := b1.ext hx
  replace hr1 := hr1.below hx
  replace hr2 := hr2.below hx
  replace o11 := o11.ext hx
  replace b12 := b12.ext hx
  replace o17 := o17.ext hx
  replace b20 := b20.ext hx
  replace o24 := o24.ext hx
  replace b28 := b28.ext hx
  replace hx0 := hx0.trans hx
  clear hx
  have zb12_0 := b12.cell 0 rfl
  have zb12_1 := b12.cell 1 rfl
  have zb12_2 := b12.cell 2 rfl
  have qb12 := b12.lt
  go_wp2_with fail
  obtain ⟨w38, hw⟩ : ∃ v : World, v = (w33.alloc (.cells #[.int .i64 d.r, .int .i64 d.c, .slice Ax30 d.xs.length kx31] 35)) := ⟨_, rfl⟩
  rw [← hw]
  have hx : Ext w33 w38 := by subst hw; exact (Ext.refl _).alloc _
  have b37 : Blk w38 w33.heap.size #[.int .i64 d.r, .int .i64 d.c, .slice Ax30 d.xs.length kx31] 35 := by subst hw; exact Blk.new _ _ _
  clear hw
  replace b0 := b0.ext hx
  replace b1 := b1.ext hx
  replace hr1 := hr1.below hx
  replace hr2 := hr2.below hx
  replace o11 := o11.ext hx
  replace b12 := b12.ext hx
  replace o17 := o17.ext hx
  replace b20 := b20.ext hx
  replace o24 := o24.ext hx
  replace b28 := b28.ext hx
  replace o32 := o32.ext hx
  replace hx0 := hx0.trans hx
  clear hx
  clear zb12_0 zb12_1 zb12_2 qb12
  refine (eqMatrix_any d.r d.c d.r d.c Ax30 Ax9 d.xs.length d.xs.length kx31 kx10  d.xs d.xs _ o32.reads o11.reads ⟨rfl, rfl, rfl⟩).mono ?_
  rintro e w39 ⟨rfl, hx⟩
  replace b0 := b0.ext hx
  replace b1 := b1.ext hx
  replace hr1 := hr1.below hx
  replace hr2 := hr2.below hx
  replace o11 := o11.ext hx
  replace b12 := b12.ext hx
  replace o17 := o17.ext hx
  replace b20 := b20.ext hx
  replace o24 := o24.ext hx
  replace b28 := b28.ext hx
  replace o32 := o32.ext hx
  replace b37 := b37.ext hx
  replace hx0 := hx0.trans hx
  clear hx
  go_wp2_with fail
  have zb20_0 := b20.cell 0 rfl
  have zb20_1 := b20.cell 1 rfl
  have zb20_2 := b20.cell 2 rfl
  have zb0_0 := b0.cell 0 rfl
  have zb0_1 := b0.cell 1 rfl
  have zb0_2 := b0.cell 2 rfl
  refine wp_region_T (cs := []) [0, 1, 2, 3, 4] [] [2, 3] [(3, [2])] (fun i__ v => match i__ with | 2 => ∃ (Ax40 : Option Addr) (kx41 : Nat), v = (.agg #[.int .i64 r1, .int .i64 c1, .slice Ax40 n1 kx41]) | 3 => v = (.bool true) | _ => False) (fun i__ v w' => match i__ with | 2 => OwnF w' w39.heap.size 39 v [2] (flts xs1) | _ => True) (by kernel_rfl) (by kernel_rfl) (by intro i v w' w2 h hx; revert h; (try dsimp only); split <;> intro h <;> first | trivial | exact RdsF.ext h hx | exact OwnF.ext h hx | exact BlkF.ext h hx | exact ⟨RdsF.ext h.1 hx, RdsF.ext h.2 hx⟩ | exact ⟨OwnF.ext h.1 hx, OwnF.ext h.2 hx⟩ | exact ⟨RdsF.ext h.1 hx, RdsF.ext h.2.1 hx, RdsF.ext h.2.2 hx⟩ | exact ⟨OwnF.ext h.1 hx, OwnF.ext h.2.1 hx, OwnF.ext h.2.2 hx⟩) ?_
  refine' wpT_det (o := ⟨some 54, Op.load 35 (Operand.tmp 8), 35, "exact.go:2182", #[], none⟩) rfl (by rfl) (by rfl) (fun w' hw' => ?_) ?_; rotate_left
  · have zb20_0_ := Ext.cell hw' zb20_0; have zb20_1_ := Ext.cell hw' zb20_1; have zb20_2_ := Ext.cell hw' zb20_2; have zb0_0_ := Ext.cell hw' zb0_0; have zb0_1_ := Ext.cell hw' zb0_1; have zb0_2_ := Ext.cell hw' zb0_2; go_simp <;> first | rfl | exact ⟨rfl, rfl⟩
  simp only [Act.put, List.setIfInBounds_toArray, List.set_cons_zero, List.set_cons_succ]
  refine' wpT_det (o := ⟨some 55, Op.load 32 (Operand.tmp 2), 32, "exact.go:2182", #[], none⟩) rfl (by rfl) (by rfl) (fun w' hw' => ?_) ?_; rotate_left
  · have zb20_0_ := Ext.cell hw' zb20_0; have zb20_1_ := Ext.cell hw' zb20_1; have zb20_2_ := Ext.cell hw' zb20_2; have zb0_0_ := Ext.cell hw' zb0_0; have zb0_1_ := Ext.cell hw' zb0_1; have zb0_2_ := Ext.cell hw' zb0_2; go_simp <;> first | rfl | exact ⟨rfl, rfl⟩
  simp only [Act.put, List.setIfInBounds_toArray, List.set_cons_zero, List.set_cons_succ]
  refine wpT_nd (o := ⟨some 56, Op.call { callee := Callee.value (Operand.func 37), args := #[Operand.tmp 55], argTypes := #[32] }, 35, "exact.go:2182", #[{ on := 1, ground := Ground.data }], none⟩) rfl (by rfl) (by rfl) (fun w' hw' hF R__ hGo => ?_) ⟨_, none, 0, rfl⟩ ?_
  · go_simp
    refine gives_enter rfl ?_
    refine (toMatrix_any r1 c1 A1 n1 cap1 xs1 _ (hr1.below hw'.undrew) (by omega)).mono ?_
    rintro e w2 ⟨Ax40, kx41, rfl, o42, hx⟩
    exact ⟨_, rfl, hGo _ _ hx ⟨_, _, rfl⟩ (OwnF.of (o42.base hw'.size) rfl)⟩
  rintro _ ⟨Ax40, kx41, rfl⟩
  simp only [Act.put, List.setIfInBounds_toArray, List.set_cons_zero, List.set_cons_succ]
  refine wpT_nd (o := ⟨some 57, Op.call { callee := Callee.value (Operand.func 39), args := #[Operand.tmp 54, Operand.tmp 56], argTypes := #[35, 35] }, 4, "exact.go:2182", #[{ on := 0, ground := Ground.data }, { on := 2, ground := Ground.data }, { on := 2, ground := Ground.chain }], none⟩) rfl (by rfl) (by rfl) (fun w' hw' hF R__ hGo => ?_) ⟨_, rfl⟩ ?_
  · go_simp
    refine gives_enter rfl ?_
    refine (eqMatrix_any r1 c1 r1 c1 Ax15 Ax40 n1 n1 kx16 kx41  xs1 xs1 _ (o17.reads.below hw'.undrew) ((hF 2 (by simp [uses]) _ rfl) _ _ _ rfl).reads ⟨rfl, rfl, rfl⟩).mono ?_
    rintro e w2 ⟨rfl, hx⟩
    exact ⟨_, rfl, hGo _ _ hx rfl trivial⟩
  intro v hv
  obtain rfl : v = (.bool true) := hv
  simp only [Act.put, List.setIfInBounds_toArray, List.set_cons_zero, List.set_cons_succ]
  refine' wpT_det (o := ⟨some 58, Op.unOp UnOp.not 4 (Operand.tmp 57), 4, "exact.go:2182", #[{ on := 3, ground := Ground.data }], none⟩) rfl (by rfl) (by rfl) (fun w' hw' => ?_) ?_; rotate_left
  · go_simp <;> first | rfl | exact ⟨rfl, rfl⟩
  simp only [Act.put, List.setIfInBounds_toArray, List.set_cons_zero, List.set_cons_succ]
  refine wpT_nil (fun w43 hw' hF => ?_)
  refine wpList_nil ?_
  clear zb20_0 zb20_1 zb20_2 zb0_0 zb0_1 zb0_2
  have hx := hw'.undrew; clear hw'
  clear hF
  replace b0 := b0.ext hx
  replace b1 := b1.ext hx
  replace hr1 := hr1.below hx
  replace hr2 := hr2.below hx
  replace o11 := o11.ext hx
  replace b12 := b12.ext hx
  replace o17 := o17.ext hx
  replace b20 := b20.ext hx
  replace o24 := o24.ext hx
  replace b28 := b28.ext hx
  replace o32 := o32.ext hx
  replace b37 := b37.ext hx
  replace hx0 := hx0.trans hx
  clear hx
  go_wp2_with fail
  have zb28_0 := b28.cell 0 rfl
  have zb28_1 := b28.cell 1 rfl
  have zb28_2 := b28.cell 2 rfl
  have zb1_0 := b1.cell 0 rfl
  have zb1_1 := b1.cell 1 rfl
  have zb1_2 := b1.cell 2 rfl
  refine wp_region_T (cs := []) [0, 1, 2, 3, 4] [] [2, 3] [(3, [2])] (fun i__ v => match i__ with | 2 => ∃ (Ax44 : Option Addr) (kx45 : Nat), v = (.agg #[.int .i64 r2, .int .i64 c2, .slice Ax44 n2 kx45]) | 3 => v = (.bool true) | _ => False) (fun i__ v w' => match i__ with | 2 => OwnF w' w43.heap.size 39 v [2] (flts xs2) | _ => True) (by kernel_rfl) (by kernel_rfl) (by intro i v w' w2 h hx; revert h; (try dsimp only); split <;> intro h <;> first | trivial | exact RdsF.ext h hx | exact OwnF.ext h hx | exact BlkF.ext h hx | exact ⟨RdsF.ext h.1 hx, RdsF.ext h.2 hx⟩ | exact ⟨OwnF.ext h.1 hx, OwnF.ext h.2 hx⟩ | exact ⟨RdsF.ext h.1 hx, RdsF.ext h.2.1 hx, RdsF.ext h.2.2 hx⟩ | exact ⟨OwnF.ext h.1 hx, OwnF.ext h.2.1 hx, OwnF.ext h.2.2 hx⟩) ?_
  refine' wpT_det (o := ⟨some 59, Op.load 35 (Operand.tmp 9), 35, "exact.go:2185", #[], none⟩) rfl (by rfl) (by rfl) (fun w' hw' => ?_) ?_; rotate_left
  · have zb28_0_ := Ext.cell hw' zb28_0; have zb28_1_ := Ext.cell hw' zb28_1; have zb28_2_ := Ext.cell hw' zb28_2; have zb1_0_ := Ext.cell hw' zb1_0; have zb1_1_ := Ext.cell hw' zb1_1; have zb1_2_ := Ext.cell hw' zb1_2; go_simp <;> first | rfl | exact ⟨rfl, rfl⟩
  simp only [Act.put, List.setIfInBounds_toArray, List.set_cons_zero, List.set_cons_succ]
  refine' wpT_det (o := ⟨some 60, Op.load 32 (Operand.tmp 3), 32, "exact.go:2185", #[], none⟩) rfl (by rfl) (by rfl) (fun w' hw' => ?_) ?_; rotate_left
  · have zb28_0_ := Ext.cell hw' zb28_0; have zb28_1_ := Ext.cell hw' zb28_1; have zb28_2_ := Ext.cell hw' zb28_2; have zb1_0_ := Ext.cell hw' zb1_0; have zb1_1_ := Ext.cell hw' zb1_1; have zb1_2_ := Ext.cell hw' zb1_2; go_simp <;> first | rfl | exact ⟨rfl, rfl⟩
  simp only [Act.put, List.setIfInBounds_toArray, List.set_cons_zero, List.set_cons_succ]
  refine wpT_nd (o := ⟨some 61, Op.call { callee := Callee.value (Operand.func 37), args := #[Operand.tmp 60], argTypes := #[32] }, 35, "exact.go:2185", #[{ on := 1, ground := Ground.data }], none⟩) rfl (by rfl) (by rfl) (fun w' hw' hF R__ hGo => ?_) ⟨_, none, 0, rfl⟩ ?_
  · go_simp
    refine gives_enter rfl ?_
    refine (toMatrix_any r2 c2 A2 n2 cap2 xs2 _ (hr2.below hw'.undrew) (by omega)).mono ?_
    rintro e w2 ⟨Ax44, kx45, rfl, o46, hx⟩
    exact ⟨_, rfl, hGo _ _ hx ⟨_, _, rfl⟩ (OwnF.of (o46.base hw'.size) rfl)⟩
  rintro _ ⟨Ax44, kx45, rfl⟩
  simp only [Act.put, List.setIfInBounds_toArray, List.set_cons_zero, List.set_cons_succ]
  refine wpT_nd (o := ⟨some 62, Op.call { callee := Callee.value (Operand.func 39), args := #[Operand.tmp 59, Operand.tmp 61], argTypes := #[35, 35] }, 4, "exact.go:2185", #[{ on := 0, ground := Ground.data }, { on := 2, ground := Ground.data }, { on := 2, ground := Ground.chain }], none⟩) rfl (by rfl) (by rfl) (fun w' hw' hF R__ hGo => ?_) ⟨_, rfl⟩ ?_
  · go_simp
    refine gives_enter rfl ?_
    refine (eqMatrix_any r2 c2 r2 c2 Ax22 Ax44 n2 n2 kx23 kx45  xs2 xs2 _ (o24.reads.below hw'.undrew) ((hF 2 (by simp [uses]) _ rfl) _ _ _ rfl).reads ⟨rfl, rfl, rfl⟩).mono ?_
    rintro e w2 ⟨rfl, hx⟩
    exact ⟨_, rfl, hGo _ _ hx rfl trivial⟩
  intro v hv
  obtain rfl : v = (.bool true) := hv
  simp only [Act.put, List.setIfInBounds_toArray, List.set_cons_zero, List.set_cons_succ]
  refine' wpT_det (o := ⟨some 63, Op.unOp UnOp.not 4 (Operand.tmp 62), 4, "exact.go:2185", #[{ on := 3, ground := Ground.data }], none⟩) rfl (by rfl) (by rfl) (fun w' hw' => ?_) ?_; rotate_left
  · go_simp <;> first | rfl | exact ⟨rfl, rfl⟩
  simp only [Act.put, List.setIfInBounds_toArray, List.set_cons_zero, List.set_cons_succ]
  refine wpT_nil (fun w47 hw' hF => ?_)
  refine wpList_nil ?_
  clear zb28_0 zb28_1 zb28_2 zb1_0 zb1_1 zb1_2
  have hx := hw'.undrew; clear hw'
  clear hF
  replace b0 := b0.ext hx
  replace b1 := b1.ext hx
  replace hr1 := hr1.below hx
  replace hr2 := hr2.below hx
  replace o11 := o11.ext hx
  replace b12 := b12.ext hx
  replace o17 := o17.ext hx
  replace b20 := b20.ext hx
  replace o24 := o24.ext hx
  replace b28 := b28.ext hx
  replace o32 := o32.ext hx
  replace b37 := b37.ext hx
  replace hx0 := hx0.trans hx
  clear hx
  have zb20_0 := b20.cell 0 rfl
  have zb20_1 := b20.cell 1 rfl
  have zb20_2 := b20.cell 2 rfl
  go_wp2_with fail
  clear zb20_0 zb20_1 zb20_2
  refine (markMatrix_any _ r1 c1 Ax15 n1 kx16 _ 1 _ (by omega) o17).mono ?_
  rintro e w48 ⟨rfl, o_, hw⟩
  replace b0 := b0.wr hw o17 (by decide)
  replace b1 := b1.wr hw o17 (by decide)
  replace o11 := o11.other hw ne19.1
  replace b12 := b12.wr hw o17 (by decide)
  replace b20 := b20.wr hw o17 (by decide)
  replace o24 := o24.other hw ne27.2
  replace b28 := b28.wr hw o17 (by decide)
  replace o32 := o32.other hw ne35.2
  replace b37 := b37.wr hw o17 (by decide)
  replace hx0 := hw.ext hx0 (o17.base le_o17)
  replace hr1 := hr10.below hx0
  replace hr2 := hr20.below hx0
  clear o17 hw; have o17 := o_; clear o_
  have zb28_0 := b28.cell 0 rfl
  have zb28_1 := b28.cell 1 rfl
  have zb28_2 := b28.cell 2 rfl
  go_wp2_with fail
  clear zb28_0 zb28_1 zb28_2
  refine (markMatrix_any _ r2 c2 Ax22 n2 kx23 _ (1 + n1) _ (by omega) o24).mono ?_
  rintro e w49 ⟨rfl, o_, hw⟩
  replace b0 := b0.wr hw o24 (by decide)
  replace b1 := b1.wr hw o24 (by decide)
  replace o11 := o11.other hw ne26.1
  replace b12 := b12.wr hw o24 (by decide)
  replace o17 := o17.other hw ne27.1
  replace b20 := b20.wr hw o24 (by decide)
  replace b28 := b28.wr hw o24 (by decide)
  replace o32 := o32.other hw ne36.2
  replace b37 := b37.wr hw o24 (by decide)
  replace hx0 := hw.ext hx0 (o24.base le_o24)
  replace hr1 := hr10.below hx0
  replace hr2 := hr20.below hx0
  clear o24 hw; have o24 := o_; clear o_
  have zb37_0 := b37.cell 0 rfl
  have zb37_1 := b37.cell 1 rfl
  have zb37_2 := b37.cell 2 rfl
  have zb12_0 := b12.cell 0 rfl
  have zb12_1 := b12.cell 1 rfl
  have zb12_2 := b12.cell 2 rfl
  go_wp2_with fail
  clear zb37_0 zb37_1 zb37_2 zb12_0 zb12_1 zb12_2
  refine (eqMatrix_any d.r d.c d.r d.c Ax30 Ax9 d.xs.length d.xs.length kx31 kx10  d.xs d.xs _ o32.reads o11.reads ⟨rfl, rfl, rfl⟩).mono ?_
  rintro e w50 ⟨rfl, hx⟩
  replace b0 := b0.ext hx
  replace b1 := b1.ext hx
  replace hr1 := hr1.below hx
  replace hr2 := hr2.below hx
  replace o11 := o11.ext hx
  replace b12 := b12.ext hx
  replace o17 := o17.ext hx
  replace b20 := b20.ext hx
  replace o24 := o24.ext hx
  replace b28 := b28.ext hx
  replace o32 := o32.ext hx
  replace b37 := b37.ext hx
  replace hx0 := hx0.trans hx
  clear hx
  have zb37_0 := b37.cell 0 rfl
  have zb37_1 := b37.cell 1 rfl
  have zb37_2 := b37.cell 2 rfl
  go_wp2_with fail
  clear zb37_0 zb37_1 zb37_2
  refine (markMatrix_any _ d.r d.c Ax30 d.xs.length kx31 _ 1 _ (by omega) o32).mono ?_
  rintro e w51 ⟨rfl, o_, hw⟩
  replace b0 := b0.wr hw o32 (by decide)
  replace b1 := b1.wr hw o32 (by decide)
  replace o11 := o11.other hw ne34.1
  replace b12 := b12.wr hw o32 (by decide)
  replace o17 := o17.other hw ne35.1
  replace b20 := b20.wr hw o32 (by decide)
  replace o24 := o24.other hw ne36.1
  replace b28 := b28.wr hw o32 (by decide)
  replace b37 := b37.wr hw o32 (by decide)
  replace hx0 := hw.ext hx0 (o32.base le_o32)
  replace hr1 := hr10.below hx0
  replace hr2 := hr20.below hx0
  clear o32 hw; have o32 := o_; clear o_
  have zb37_0 := b37.cell 0 rfl
  have zb37_1 := b37.cell 1 rfl
  have zb37_2 := b37.cell 2 rfl
  go_wp2_with fail
  clear zb37_0 zb37_1 zb37_2
  refine (heldMatrix_any d.r d.c Ax30 d.xs.length kx31 1 _ (by omega) (by omega) o32.reads).mono ?_
  rintro e w52 ⟨rfl, hx⟩
  replace b0 := b0.ext hx
  replace b1 := b1.ext hx
  replace hr1 := hr1.below hx
  replace hr2 := hr2.below hx
  replace o11 := o11.ext hx
  replace b12 := b12.ext hx
  replace o17 := o17.ext hx
  replace b20 := b20.ext hx
  replace o24 := o24.ext hx
  replace b28 := b28.ext hx
  replace o32 := o32.ext hx
  replace b37 := b37.ext hx
  replace hx0 := hx0.trans hx
  clear hx
  go_wp2_with fail
  have zb0_0 := b0.cell 0 rfl
  have zb0_1 := b0.cell 1 rfl
  have zb0_2 := b0.cell 2 rfl
  have zb1_0 := b1.cell 0 rfl
  have zb1_1 := b1.cell 1 rfl
  have zb1_2 := b1.cell 2 rfl
  have old_b0 := b0.lt
  have old_b1 := b1.lt
  have old_b12 := b12.lt
  have old_b20 := b20.lt
  have old_b28 := b28.lt
  have old_b37 := b37.lt
  refine wp_region_Fl (cs := []) 7 9 [0, 1, 2, 3, 4, 5, 6, 7, 8] [10] [1, 3, 4, 8] [(4, [1, 3])] (fun i__ v => match i__ with | 1 => ∃ (Ax53 : Option Addr) (kx54 : Nat), v = (.agg #[.int .i64 r1, .int .i64 c1, .slice Ax53 n1 kx54]) | 3 => ∃ (Ax56 : Option Addr) (kx57 : Nat), v = (.agg #[.int .i64 r2, .int .i64 c2, .slice Ax56 n2 kx57]) | 4 => ∃ (Ax59 : Option Addr) (kx60 : Nat), v = (.tuple #[.agg #[.int .i64 d.r, .int .i64 d.c, .slice Ax59 d.xs.length kx60], .bool d.ok]) | 8 => ∃ b, v = (.pointer (some ⟨b, 0, none⟩)) | _ => False) (fun i__ v w' => match i__ with | 1 => OwnF w' w52.heap.size 39 v [2] (flts xs1) | 3 => OwnF w' w52.heap.size 39 v [2] (flts xs2) | 4 => OwnF w' w52.heap.size 39 v [0, 2] (flts d.xs) | 8 => BlkF w' v w52.heap.size #[.int .i64 0, .int .i64 0, .slice none 0 0] 35 | _ => True) (by kernel_rfl) (by kernel_rfl) (by kernel_rfl) (by intro i v w' w2 h hx; revert h; (try dsimp only); split <;> intro h <;> first | trivial | exact RdsF.ext h hx | exact OwnF.ext h hx | exact BlkF.ext h hx | exact ⟨RdsF.ext h.1 hx, RdsF.ext h.2 hx⟩ | exact ⟨OwnF.ext h.1 hx, OwnF.ext h.2 hx⟩ | exact ⟨RdsF.ext h.1 hx, RdsF.ext h.2.1 hx, RdsF.ext h.2.2 hx⟩ | exact ⟨OwnF.ext h.1 hx, OwnF.ext h.2.1 hx, OwnF.ext h.2.2 hx⟩) ?_
  refine' wpT_det (o := ⟨some 95, Op.load 32 (Operand.tmp 2), 32, "exact.go:2204", #[], none⟩) rfl (by rfl) (by rfl) (fun w' hw' => ?_) ?_; rotate_left
  · have zb0_0_ := Ext.cell hw' zb0_0; have zb0_1_ := Ext.cell hw' zb0_1; have zb0_2_ := Ext.cell hw' zb0_2; have zb1_0_ := Ext.cell hw' zb1_0; have zb1_1_ := Ext.cell hw' zb1_1; have zb1_2_ := Ext.cell hw' zb1_2; go_simp <;> first | rfl | exact ⟨rfl, rfl⟩
  simp only [Act.put, List.setIfInBounds_toArray, List.set_cons_zero, List.set_cons_succ]
  refine wpT_nd (o := ⟨some 96, Op.call { callee := Callee.value (Operand.func 37), args := #[Operand.tmp 95], argTypes := #[32] }, 35, "exact.go:2204", #[{ on := 0, ground := Ground.data }], none⟩) rfl (by rfl) (by rfl) (fun w' hw' hF R__ hGo => ?_) ⟨_, none, 0, rfl⟩ ?_
  · go_simp
    refine gives_enter rfl ?_
    refine (toMatrix_any r1 c1 A1 n1 cap1 xs1 _ (hr1.below hw'.undrew) (by omega)).mono ?_
    rintro e w2 ⟨Ax53, kx54, rfl, o55, hx⟩
    exact ⟨_, rfl, hGo _ _ hx ⟨_, _, rfl⟩ (OwnF.of (o55.base hw'.size) rfl)⟩
  rintro _ ⟨Ax53, kx54, rfl⟩
  simp only [Act.put, List.setIfInBounds_toArray, List.set_cons_zero, List.set_cons_succ]
  refine' wpT_det (o := ⟨some 97, Op.load 32 (Operand.tmp 3), 32, "exact.go:2204", #[], none⟩) rfl (by rfl) (by rfl) (fun w' hw' => ?_) ?_; rotate_left
  · have zb0_0_ := Ext.cell hw' zb0_0; have zb0_1_ := Ext.cell hw' zb0_1; have zb0_2_ := Ext.cell hw' zb0_2; have zb1_0_ := Ext.cell hw' zb1_0; have zb1_1_ := Ext.cell hw' zb1_1; have zb1_2_ := Ext.cell hw' zb1_2; go_simp <;> first | rfl | exact ⟨rfl, rfl⟩
  simp only [Act.put, List.setIfInBounds_toArray, List.set_cons_zero, List.set_cons_succ]
  refine wpT_nd (o := ⟨some 98, Op.call { callee := Callee.value (Operand.func 37), args := #[Operand.tmp 97], argTypes := #[32] }, 35, "exact.go:2204", #[{ on := 2, ground := Ground.data }, { on := 1, ground := Ground.chain }], none⟩) rfl (by rfl) (by rfl) (fun w' hw' hF R__ hGo => ?_) ⟨_, none, 0, rfl⟩ ?_
  · go_simp
    refine gives_enter rfl ?_
    refine (toMatrix_any r2 c2 A2 n2 cap2 xs2 _ (hr2.below hw'.undrew) (by omega)).mono ?_
    rintro e w2 ⟨Ax56, kx57, rfl, o58, hx⟩
    exact ⟨_, rfl, hGo _ _ hx ⟨_, _, rfl⟩ (OwnF.of (o58.base hw'.size) rfl)⟩
  rintro _ ⟨Ax56, kx57, rfl⟩
  simp only [Act.put, List.setIfInBounds_toArray, List.set_cons_zero, List.set_cons_succ]
  refine wpT_nd (o := ⟨some 99, Op.call { callee := Callee.value (Operand.func 70), args := #[Operand.tmp 96, Operand.tmp 98], argTypes := #[35, 35] }, 44, "exact.go:2204", #[{ on := 1, ground := Ground.data }, { on := 3, ground := Ground.data }, { on := 3, ground := Ground.chain }], none⟩) rfl (by rfl) (by rfl) (fun w' hw' hF R__ hGo => ?_) ⟨_, none, 0, rfl⟩ ?_
  · go_simp
    refine gives_enter rfl ?_
    refine (implKroneckerMatrix_any r1 c1 Ax53 n1 kx54 r2 c2 Ax56 n2 kx57 xs1 xs2 _ ((hF 1 (by simp [uses]) _ rfl) _ _ _ rfl).reads ((hF 3 (by simp [uses]) _ rfl) _ _ _ rfl).reads).mono ?_
    rw [← Hd.out]
    rintro e w2 ⟨Ax59, kx60, rfl, o61, hx⟩
    exact ⟨_, rfl, hGo _ _ hx ⟨_, _, rfl⟩ (OwnF.of (o61.base hw'.size) rfl)⟩
  rintro _ ⟨Ax59, kx60, rfl⟩
  simp only [Act.put, List.setIfInBounds_toArray, List.set_cons_zero, List.set_cons_succ]
  refine' wpT_det (o := ⟨some 94, Op.move (Operand.tmp 99), 44, "exact.go:2204", #[{ on := 4, ground := Ground.data }], none⟩) rfl (by rfl) (by rfl) (fun w' hw' => ?_) ?_; rotate_left
  · go_simp <;> first | rfl | exact ⟨rfl, rfl⟩
  simp only [Act.put, List.setIfInBounds_toArray, List.set_cons_zero, List.set_cons_succ]
  refine' wpT_det (o := ⟨some 100, Op.extract (Operand.tmp 94) 0, 35, "exact.go:2204", #[{ on := 5, ground := Ground.data }], none⟩) rfl (by rfl) (by rfl) (fun w' hw' => ?_) ?_; rotate_left
  · go_simp <;> first | rfl | exact ⟨rfl, rfl⟩
  simp only [Act.put, List.setIfInBounds_toArray, List.set_cons_zero, List.set_cons_succ]
  refine' wpT_det (o := ⟨some 101, Op.extract (Operand.tmp 94) 1, 4, "exact.go:2204", #[{ on := 5, ground := Ground.data }, { on := 9, ground := Ground.gcOnly Departure.lateStores }], none⟩) rfl (by rfl) (by rfl) (fun w' hw' => ?_) ?_; rotate_left
  · go_simp <;> first | rfl | exact ⟨rfl, rfl⟩
  simp only [Act.put, List.setIfInBounds_toArray, List.set_cons_zero, List.set_cons_succ]
  refine wpT_nd (o := ⟨some 15, Op.alloc 35, 0, "exact.go:2204", #[], none⟩) rfl (by rfl) (by rfl) (fun w' hw' hF R__ hGo => ?_) ⟨_, 0, rfl⟩ ?_
  · go_simp; exact gives_value rfl (hGo _ _ ((Ext.refl _).alloc _) ⟨_, rfl⟩ (fun b e => by simp only [Value.pointer.injEq, Option.some.injEq, Addr.mk.injEq, and_true] at e; subst e; exact ⟨Blk.new _ _ _, hw'.size⟩))
  rintro _ ⟨nb62, rfl⟩
  simp only [Act.put, List.setIfInBounds_toArray, List.set_cons_zero, List.set_cons_succ]
  refine wpT_nil (fun w63 hw' hF => ?_)
  clear zb0_0 zb0_1 zb0_2 zb1_0 zb1_1 zb1_2
  have hE_ := hw'
  have hx := hw'.undrew; clear hw'
  have o61 := (hF 4 _ rfl) _ _ _ rfl
  have le_o61 : w.heap.size ≤ w52.heap.size := hx0.size
  have b62 := (hF 8 _ rfl nb62 rfl).1
  have hb_ := (hF 8 _ rfl nb62 rfl).2
  clear hF
  have ne64 := o11.ne o61
  have ne65 := o17.ne o61
  have ne66 := o24.ne o61
  have ne67 := o32.ne o61
  have hs_o61 := o61.small; simp only [flts_length] at hs_o61
  replace b0 := b0.ext hx
  replace b1 := b1.ext hx
  replace hr1 := hr1.below hx
  replace hr2 := hr2.below hx
  replace o11 := o11.ext hx
  replace b12 := b12.ext hx
  replace o17 := o17.ext hx
  replace b20 := b20.ext hx
  replace o24 := o24.ext hx
  replace b28 := b28.ext hx
  replace o32 := o32.ext hx
  replace b37 := b37.ext hx
  replace hx0 := hx0.trans hx
  clear hx
  have z_0 := b62.cell 0 rfl; have y_0 := b62.free 0
  have z_1 := b62.cell 1 rfl; have y_1 := b62.free 1
  have z_2 := b62.cell 2 rfl; have y_2 := b62.free 2
  refine ⟨(⟨none, Op.store 35 (Operand.tmp 15) (Operand.tmp 100), 0, "exact.go:2204", #[{ on := 8, ground := Ground.data }, { on := 6, ground := Ground.data }, { on := 4, ground := Ground.chain }, { on := 0, ground := Ground.phase }, { on := 1, ground := Ground.phase }, { on := 2, ground := Ground.phase }, { on := 3, ground := Ground.phase }, { on := 4, ground := Ground.phase }, { on := 5, ground := Ground.phase }, { on := 6, ground := Ground.phase }, { on := 7, ground := Ground.textOnly Departure.lateStores }, { on := 8, ground := Ground.phase }], none⟩ : Oper), (((w63.setCell ⟨nb62, 0, none⟩ (.int .i64 d.r)).setCell ⟨nb62, 1, none⟩ (.int .i64 d.c)).setCell ⟨nb62, 2, none⟩ (.slice Ax59 d.xs.length kx60)), rfl, (by go_simp), ?_, ?_⟩
  · exact (Ext.set (Ext.set (Ext.set hE_ (by exact hb_) _) (by exact hb_) _) (by exact hb_) _)
  clear hE_
  show wpList _ _ _ [(⟨some 16, Op.assign (Operand.tmp 101), 4, "exact.go:2204", #[{ on := 7, ground := Ground.data }, { on := 9, ground := Ground.chain }, { on := 0, ground := Ground.phase }, { on := 1, ground := Ground.phase }, { on := 2, ground := Ground.phase }, { on := 3, ground := Ground.phase }, { on := 4, ground := Ground.phase }, { on := 5, ground := Ground.phase }, { on := 6, ground := Ground.phase }, { on := 7, ground := Ground.phase }, { on := 8, ground := Ground.phase }, { on := 9, ground := Ground.phase }], none⟩ : Oper)] _ _
  go_upto_region 32 with (fail)
  clear z_0 y_0 z_1 y_1 z_2 y_2
  obtain ⟨w68, hw⟩ : ∃ v : World, v = (((w63.setCell ⟨nb62, 0, none⟩ (.int .i64 d.r)).setCell ⟨nb62, 1, none⟩ (.int .i64 d.c)).setCell ⟨nb62, 2, none⟩ (.slice Ax59 d.xs.length kx60)) := ⟨_, rfl⟩
  rw [← hw]
  have hl_ : w.heap.size ≤ w52.heap.size := le_o61
  have b0_ : Blk w68 (w.heap.size) #[.int .i64 r1, .int .i64 c1, .slice A1 n1 cap1] 32 := by subst hw; exact (Blk.other (Blk.other (Blk.other b0 (by omega) 0 _) (by omega) 1 _) (by omega) 2 _)
  have b1_ : Blk w68 (w.heap.size + 1) #[.int .i64 r2, .int .i64 c2, .slice A2 n2 cap2] 32 := by subst hw; exact (Blk.other (Blk.other (Blk.other b1 (by omega) 0 _) (by omega) 1 _) (by omega) 2 _)
  have o11_ := (Own.setBlk (Own.setBlk (Own.setBlk o11 b62 (by decide) 0 (.int .i64 d.r)) (b62.set 0 (.int .i64 d.r)) (by decide) 1 (.int .i64 d.c)) ((b62.set 0 (.int .i64 d.r)).set 1 (.int .i64 d.c)) (by decide) 2 (.slice Ax59 d.xs.length kx60)); rw [← hw] at o11_
  have b12_ : Blk w68 (nb12) #[.int .i64 d.r, .int .i64 d.c, .slice Ax9 d.xs.length kx10] 35 := by subst hw; exact (Blk.other (Blk.other (Blk.other b12 (by omega) 0 _) (by omega) 1 _) (by omega) 2 _)
  have o17_ := (Own.setBlk (Own.setBlk (Own.setBlk o17 b62 (by decide) 0 (.int .i64 d.r)) (b62.set 0 (.int .i64 d.r)) (by decide) 1 (.int .i64 d.c)) ((b62.set 0 (.int .i64 d.r)).set 1 (.int .i64 d.c)) (by decide) 2 (.slice Ax59 d.xs.length kx60)); rw [← hw] at o17_
  have b20_ : Blk w68 (w18.heap.size) #[.int .i64 r1, .int .i64 c1, .slice Ax15 n1 kx16] 35 := by subst hw; exact (Blk.other (Blk.other (Blk.other b20 (by omega) 0 _) (by omega) 1 _) (by omega) 2 _)
  have o24_ := (Own.setBlk (Own.setBlk (Own.setBlk o24 b62 (by decide) 0 (.int .i64 d.r)) (b62.set 0 (.int .i64 d.r)) (by decide) 1 (.int .i64 d.c)) ((b62.set 0 (.int .i64 d.r)).set 1 (.int .i64 d.c)) (by decide) 2 (.slice Ax59 d.xs.length kx60)); rw [← hw] at o24_
  have b28_ : Blk w68 (w25.heap.size) #[.int .i64 r2, .int .i64 c2, .slice Ax22 n2 kx23] 35 := by subst hw; exact (Blk.other (Blk.other (Blk.other b28 (by omega) 0 _) (by omega) 1 _) (by omega) 2 _)
  have o32_ := (Own.setBlk (Own.setBlk (Own.setBlk o32 b62 (by decide) 0 (.int .i64 d.r)) (b62.set 0 (.int .i64 d.r)) (by decide) 1 (.int .i64 d.c)) ((b62.set 0 (.int .i64 d.r)).set 1 (.int .i64 d.c)) (by decide) 2 (.slice Ax59 d.xs.length kx60)); rw [← hw] at o32_
  have b37_ : Blk w68 (w33.heap.size) #[.int .i64 d.r, .int .i64 d.c, .slice Ax30 d.xs.length kx31] 35 := by subst hw; exact (Blk.other (Blk.other (Blk.other b37 (by omega) 0 _) (by omega) 1 _) (by omega) 2 _)
  have o61_ := (Own.setBlk (Own.setBlk (Own.setBlk o61 b62 (by decide) 0 (.int .i64 d.r)) (b62.set 0 (.int .i64 d.r)) (by decide) 1 (.int .i64 d.c)) ((b62.set 0 (.int .i64 d.r)).set 1 (.int .i64 d.c)) (by decide) 2 (.slice Ax59 d.xs.length kx60)); rw [← hw] at o61_
  have hx0_ : Ext w w68 := by subst hw; exact (((hx0.set (Nat.le_trans hl_ hb_) _).set (Nat.le_trans hl_ hb_) _).set (Nat.le_trans hl_ hb_) _)
  have b62_ : Blk w68 nb62 #[.int .i64 d.r, .int .i64 d.c, .slice Ax59 d.xs.length kx60] 35 := by subst hw; exact (((b62.set 0 (.int .i64 d.r)).set 1 (.int .i64 d.c)).set 2 (.slice Ax59 d.xs.length kx60))
  clear b0; have b0 := b0_; clear b0_
  clear b1; have b1 := b1_; clear b1_
  clear o11; have o11 := o11_; clear o11_
  clear b12; have b12 := b12_; clear b12_
  clear o17; have o17 := o17_; clear o17_
  clear b20; have b20 := b20_; clear b20_
  clear o24; have o24 := o24_; clear o24_
  clear b28; have b28 := b28_; clear b28_
  clear o32; have o32 := o32_; clear o32_
  clear b37; have b37 := b37_; clear b37_
  clear o61; have o61 := o61_; clear o61_
  clear hx0 b62; have hx0 := hx0_; have b62 := b62_; clear hx0_ b62_
  replace hr1 := hr10.below hx0
  replace hr2 := hr20.below hx0
  clear hw hl_ hb_ old_b0 old_b1 old_b12 old_b20 old_b28 old_b37
  have zb62_0 := b62.cell 0 rfl
  have zb62_1 := b62.cell 1 rfl
  have zb62_2 := b62.cell 2 rfl
  have zb12_0 := b12.cell 0 rfl
  have zb12_1 := b12.cell 1 rfl
  have zb12_2 := b12.cell 2 rfl
  go_wp2_with fail
  clear zb62_0 zb62_1 zb62_2 zb12_0 zb12_1 zb12_2
  refine (eqMatrix_any d.r d.c d.r d.c Ax59 Ax9 d.xs.length d.xs.length kx60 kx10  d.xs d.xs _ o61.reads o11.reads ⟨rfl, rfl, rfl⟩).mono ?_
  rintro e w69 ⟨rfl, hx⟩
  replace b0 := b0.ext hx
  replace b1 := b1.ext hx
  replace hr1 := hr1.below hx
  replace hr2 := hr2.below hx
  replace o11 := o11.ext hx
  replace b12 := b12.ext hx
  replace o17 := o17.ext hx
  replace b20 := b20.ext hx
  replace o24 := o24.ext hx
  replace b28 := b28.ext hx
  replace o32 := o32.ext hx
  replace b37 := b37.ext hx
  replace o61 := o61.ext hx
  replace b62 := b62.ext hx
  replace hx0 := hx0.trans hx
  clear hx
  have zb37_0 := b37.cell 0 rfl
  have zb37_1 := b37.cell 1 rfl
  have zb37_2 := b37.cell 2 rfl
  go_wp2_with fail
  clear zb37_0 zb37_1 zb37_2
  refine (heldMatrix_any d.r d.c Ax30 d.xs.length kx31 1 _ (by omega) (by omega) o32.reads).mono ?_
  rintro e w70 ⟨rfl, hx⟩
  replace b0 := b0.ext hx
  replace b1 := b1.ext hx
  replace hr1 := hr1.below hx
  replace hr2 := hr2.below hx
  replace o11 := o11.ext hx
  replace b12 := b12.ext hx
  replace o17 := o17.ext hx
  replace b20 := b20.ext hx
  replace o24 := o24.ext hx
  replace b28 := b28.ext hx
  replace o32 := o32.ext hx
  replace b37 := b37.ext hx
  replace o61 := o61.ext hx
  replace b62 := b62.ext hx
  replace hx0 := hx0.trans hx
  clear hx
  go_wp2_with fail
  go_ret
  exact ⟨rfl, hx0⟩

end Go.Proofs.Ytgjfdfmbknmpaaa
