import Derived.Test.YtgjfdfmbknmpaaaM37
import Derived.Test.YtgjfdfmbknmpaaaB3M
set_option linter.unusedVariables false
set_option linter.unusedSimpArgs false
namespace Go.Proofs.Ytgjfdfmbknmpaaa
open Go.RowKit

set_option maxRecDepth 20000 in
set_option maxHeartbeats 8000000 in
theorem law_ColumnNorm (r : Int) (c : Int) (A : Option Addr) (n cap : Nat) (xs : List Nat) (w : World) (hr : Rds w A n (flts xs)) (hwf : ∀ x ∈ xs, x < 4294967296) :
    Calls Try.prog 18 #[.agg #[.int .i64 r, .int .i64 c, .slice A n cap]] w fun e w' => e = .returned (.bool true) ∧ Ext w w' := by
  have hs_hr := hr.small
  obtain ⟨w0, hw0⟩ : ∃ w0 : World, w0 = (w.alloc (.cells #[.int .i64 r, .int .i64 c, .slice A n cap] 32)) := ⟨_, rfl⟩
  have b0 : Blk w0 (w.heap.size) #[.int .i64 r, .int .i64 c, .slice A n cap] 32 := by subst hw0; simpa using (Blk.new w #[.int .i64 r, .int .i64 c, .slice A n cap] 32)
  have hx0 : Ext w w0 := by subst hw0; exact (Ext.refl _).alloc _
  have Hw0 := Lib.hid hw0
  clear hw0
  have hr0 := hr; replace hr := hr.below hx0
  obtain ⟨d, hd⟩ : ∃ d : Nat × Bool, d = cnD r c xs := ⟨_, rfl⟩
  have Hd := Lib.hid hd; clear hd
  have hfn0 : isFin .f32 d.1 = true := by rw [Hd.out]; exact cnD_fin _ _ _
  obtain ⟨yv0, hcv0⟩ := conv_fin hfn0
  clear hfn0
  have Hwf := Lib.hid hwf
  clear hwf
  by_cases hn0 : n ≤ 1048576
  rotate_left
  · have HS0 : Hid (szL (n) (1048576) = -1) := by show szL _ _ = -1; unfold szL; rw [if_pos (by omega)]
    go_enter Try.func18, Try.ntmps18
    have zb0_0 := b0.cell 0 rfl
    have zb0_1 := b0.cell 1 rfl
    have zb0_2 := b0.cell 2 rfl
    go_wp2_with fail
    rw [← Hw0.out]
    clear zb0_0 zb0_1 zb0_2
    refine (szMatrix_any r c A n cap 1048576 (by omega) (by omega) _).mono ?_
    rw [HS0.out]
    rintro e w1 ⟨rfl, hx⟩
    replace b0 := b0.ext hx
    replace hr := hr.below hx
    replace hx0 := hx0.trans hx
    clear hx
    go_wp2_with fail
    go_ret
    exact ⟨rfl, hx0⟩
  have HS0 : Hid (szL (n) (1048576) = 1048576 - (n : Int)) := by show szL _ _ = _; unfold szL; rw [if_neg (by omega)]
  go_enter Try.func18, Try.ntmps18
  have zb0_0 := b0.cell 0 rfl
  have zb0_1 := b0.cell 1 rfl
  have zb0_2 := b0.cell 2 rfl
  go_wp2_with fail
  rw [← Hw0.out]
  clear zb0_0 zb0_1 zb0_2
  refine (szMatrix_any r c A n cap 1048576 (by omega) (by omega) _).mono ?_
  rw [HS0.out]
  rintro e w1 ⟨rfl, hx⟩
  replace b0 := b0.ext hx
  replace hr := hr.below hx
  replace hx0 := hx0.trans hx
  clear hx
  have zb0_0 := b0.cell 0 rfl
  have zb0_1 := b0.cell 1 rfl
  have zb0_2 := b0.cell 2 rfl
  go_wp2_with fail
  clear zb0_0 zb0_1 zb0_2
  have le_o4 : w.heap.size ≤ w1.heap.size := hx0.size
  refine (toMatrix_any r c A n cap xs _ hr (by omega)).mono ?_
  rintro e w5 ⟨Ax2, kx3, rfl, o4, hx⟩
  have hs_o4 := o4.small; simp only [flts_length] at hs_o4
  replace b0 := b0.ext hx
  replace hr := hr.below hx
  replace hx0 := hx0.trans hx
  clear hx
  go_wp2_with fail
  refine (specColumnNorm_any r c Ax2 n kx3 xs _ o4.reads Hwf.out).mono ?_
  rw [← Hd.out]
  rintro e w6 ⟨rfl, hx⟩
  replace b0 := b0.ext hx
  replace hr := hr.below hx
  replace o4 := o4.ext hx
  replace hx0 := hx0.trans hx
  clear hx
  have zb0_0 := b0.cell 0 rfl
  have zb0_1 := b0.cell 1 rfl
  have zb0_2 := b0.cell 2 rfl
  go_wp2_with fail
  clear zb0_0 zb0_1 zb0_2
  have le_o9 : w.heap.size ≤ w6.heap.size := hx0.size
  refine (toMatrix_any r c A n cap xs _ hr (by omega)).mono ?_
  rintro e w10 ⟨Ax7, kx8, rfl, o9, hx⟩
  have ne11 := o4.ne o9
  have hs_o9 := o9.small; simp only [flts_length] at hs_o9
  replace b0 := b0.ext hx
  replace hr := hr.below hx
  replace o4 := o4.ext hx
  replace hx0 := hx0.trans hx
  clear hx
  go_wp2_with fail
  obtain ⟨w13, hw⟩ : ∃ v : World, v = (w10.alloc (.cells #[.int .i64 r, .int .i64 c, .slice Ax7 n kx8] 35)) := ⟨_, rfl⟩
  rw [← hw]
  have hx : Ext w10 w13 := by subst hw; exact (Ext.refl _).alloc _
  have b12 : Blk w13 w10.heap.size #[.int .i64 r, .int .i64 c, .slice Ax7 n kx8] 35 := by subst hw; exact Blk.new _ _ _
  clear hw
  replace b0 := b0.ext hx
  replace hr := hr.below hx
  replace o4 := o4.ext hx
  replace o9 := o9.ext hx
  replace hx0 := hx0.trans hx
  clear hx
  refine (implColumnNorm_any r c Ax7 n kx8 xs _ o9.reads).mono ?_
  rw [← Hd.out]
  rintro e w14 ⟨rfl, hx⟩
  replace b0 := b0.ext hx
  replace hr := hr.below hx
  replace o4 := o4.ext hx
  replace o9 := o9.ext hx
  replace b12 := b12.ext hx
  replace hx0 := hx0.trans hx
  clear hx
  go_wp2_with fail
  refine (sameFloat_any yv0 yv0 rfl _).mono ?_
  rintro e w15 ⟨rfl, hx⟩
  replace b0 := b0.ext hx
  replace hr := hr.below hx
  replace o4 := o4.ext hx
  replace o9 := o9.ext hx
  replace b12 := b12.ext hx
  replace hx0 := hx0.trans hx
  clear hx
  go_wp2_with fail
  have zb12_0 := b12.cell 0 rfl
  have zb12_1 := b12.cell 1 rfl
  have zb12_2 := b12.cell 2 rfl
  have zb0_0 := b0.cell 0 rfl
  have zb0_1 := b0.cell 1 rfl
  have zb0_2 := b0.cell 2 rfl
  refine wp_region_T (cs := []) [0, 1, 2, 3, 4] [] [2, 3] [(3, [2])] (fun i__ v => match i__ with | 2 => ∃ (Ax16 : Option Addr) (kx17 : Nat), v = (.agg #[.int .i64 r, .int .i64 c, .slice Ax16 n kx17]) | 3 => v = (.bool true) | _ => False) (fun i__ v w' => match i__ with | 2 => OwnF w' w15.heap.size 39 v [2] (flts xs) | _ => True) (by kernel_rfl) (by kernel_rfl) (by intro i v w' w2 h hx; revert h; (try dsimp only); split <;> intro h <;> first | trivial | exact RdsF.ext h hx | exact OwnF.ext h hx | exact BlkF.ext h hx | exact ⟨RdsF.ext h.1 hx, RdsF.ext h.2 hx⟩ | exact ⟨OwnF.ext h.1 hx, OwnF.ext h.2 hx⟩ | exact ⟨RdsF.ext h.1 hx, RdsF.ext h.2.1 hx, RdsF.ext h.2.2 hx⟩ | exact ⟨OwnF.ext h.1 hx, OwnF.ext h.2.1 hx, OwnF.ext h.2.2 hx⟩) ?_
  refine' wpT_det (o := ⟨some 38, Op.load 35 (Operand.tmp 6), 35, "exact.go:2503", #[], none⟩) rfl (by rfl) (by rfl) (fun w' hw' => ?_) ?_; rotate_left
  · have zb12_0_ := Ext.cell hw' zb12_0; have zb12_1_ := Ext.cell hw' zb12_1; have zb12_2_ := Ext.cell hw' zb12_2; have zb0_0_ := Ext.cell hw' zb0_0; have zb0_1_ := Ext.cell hw' zb0_1; have zb0_2_ := Ext.cell hw' zb0_2; go_simp <;> first | rfl | exact ⟨rfl, rfl⟩
  simp only [Act.put, List.setIfInBounds_toArray, List.set_cons_zero, List.set_cons_succ]
  refine' wpT_det (o := ⟨some 39, Op.load 32 (Operand.tmp 1), 32, "exact.go:2503", #[], none⟩) rfl (by rfl) (by rfl) (fun w' hw' => ?_) ?_; rotate_left
  · have zb12_0_ := Ext.cell hw' zb12_0; have zb12_1_ := Ext.cell hw' zb12_1; have zb12_2_ := Ext.cell hw' zb12_2; have zb0_0_ := Ext.cell hw' zb0_0; have zb0_1_ := Ext.cell hw' zb0_1; have zb0_2_ := Ext.cell hw' zb0_2; go_simp <;> first | rfl | exact ⟨rfl, rfl⟩
  simp only [Act.put, List.setIfInBounds_toArray, List.set_cons_zero, List.set_cons_succ]
  refine wpT_nd (o := ⟨some 40, Op.call { callee := Callee.value (Operand.func 37), args := #[Operand.tmp 39], argTypes := #[32] }, 35, "exact.go:2503", #[{ on := 1, ground := Ground.data }], none⟩) rfl (by rfl) (by rfl) (fun w' hw' hF R__ hGo => ?_) ⟨_, none, 0, rfl⟩ ?_
  · go_simp
    refine gives_enter rfl ?_
    refine (toMatrix_any r c A n cap xs _ (hr.below hw'.undrew) (by omega)).mono ?_
    rintro e w2 ⟨Ax16, kx17, rfl, o18, hx⟩
    exact ⟨_, rfl, hGo _ _ hx ⟨_, _, rfl⟩ (OwnF.of (o18.base hw'.size) rfl)⟩
  rintro _ ⟨Ax16, kx17, rfl⟩
  simp only [Act.put, List.setIfInBounds_toArray, List.set_cons_zero, List.set_cons_succ]
  refine wpT_nd (o := ⟨some 41, Op.call { callee := Callee.value (Operand.func 39), args := #[Operand.tmp 38, Operand.tmp 40], argTypes := #[35, 35] }, 4, "exact.go:2503", #[{ on := 0, ground := Ground.data }, { on := 2, ground := Ground.data }, { on := 2, ground := Ground.chain }], none⟩) rfl (by rfl) (by rfl) (fun w' hw' hF R__ hGo => ?_) ⟨_, rfl⟩ ?_
  · go_simp
    refine gives_enter rfl ?_
    refine (eqMatrix_any r c r c Ax7 Ax16 n n kx8 kx17  xs xs _ (o9.reads.below hw'.undrew) ((hF 2 (by simp [uses]) _ rfl) _ _ _ rfl).reads ⟨rfl, rfl, rfl⟩).mono ?_
    rintro e w2 ⟨rfl, hx⟩
    exact ⟨_, rfl, hGo _ _ hx rfl trivial⟩
  intro v hv
  obtain rfl : v = (.bool true) := hv
  simp only [Act.put, List.setIfInBounds_toArray, List.set_cons_zero, List.set_cons_succ]
  refine' wpT_det (o := ⟨some 42, Op.unOp UnOp.not 4 (Operand.tmp 41), 4, "exact.go:2503", #[{ on := 3, ground := Ground.data }], none⟩) rfl (by rfl) (by rfl) (fun w' hw' => ?_) ?_; rotate_left
  · go_simp <;> first | rfl | exact ⟨rfl, rfl⟩
  simp only [Act.put, List.setIfInBounds_toArray, List.set_cons_zero, List.set_cons_succ]
  refine wpT_nil (fun w19 hw' hF => ?_)
  refine wpList_nil ?_
  clear zb12_0 zb12_1 zb12_2 zb0_0 zb0_1 zb0_2
  have hx := hw'.undrew; clear hw'
  clear hF
  replace b0 := b0.ext hx
  replace hr := hr.below hx
  replace o4 := o4.ext hx
  replace o9 := o9.ext hx
  replace b12 := b12.ext hx
  replace hx0 := hx0.trans hx
  clear hx
  go_wp2_with fail
  go_ret
  exact ⟨rfl, hx0⟩

end Go.Proofs.Ytgjfdfmbknmpaaa
