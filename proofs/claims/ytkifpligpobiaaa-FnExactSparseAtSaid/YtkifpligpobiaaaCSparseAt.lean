
import Derived.Test.YtkifpligpobiaaaI2

import Derived.Test.YtkifpligpobiaaaSB1
set_option linter.unusedVariables false
set_option linter.unusedSimpArgs false

namespace Go.Proofs.Ytkifpligpobiaaa

open Go.RowKit


set_option maxRecDepth 20000 in
set_option maxHeartbeats 8000000 in
theorem law_SparseAt (r1 : Int) (A1a : Option Addr) (n1a cap1a : Nat) (xs1a : List Int) (A1b : Option Addr) (n1b cap1b : Nat) (xs1b : List Int) (A1c : Option Addr) (n1c cap1c : Nat) (xs1c : List Nat) (x2 : Int) (x3 : Int) (w : World) (hr1a : Rds w A1a n1a (ints xs1a)) (hr1b : Rds w A1b n1b (ints xs1b)) (hr1c : Rds w A1c n1c (flts xs1c)) :
    Calls Try.prog 8 #[.agg #[.int .i64 r1, .slice A1a n1a cap1a, .slice A1b n1b cap1b, .slice A1c n1c cap1c], .int .i64 x2, .int .i64 x3] w fun e w' => e = .returned (.bool true) ∧ Ext w w' := by
  have hs_hr1a := hr1a.small
  have hs_hr1b := hr1b.small
  have hs_hr1c := hr1c.small
  obtain ⟨w0, hw0⟩ : ∃ w0 : World, w0 = (w.alloc (.cells #[.int .i64 r1, .slice A1a n1a cap1a, .slice A1b n1b cap1b, .slice A1c n1c cap1c] 25)) := ⟨_, rfl⟩
  have b0 : Blk w0 (w.heap.size) #[.int .i64 r1, .slice A1a n1a cap1a, .slice A1b n1b cap1b, .slice A1c n1c cap1c] 25 := by subst hw0; simpa using (Blk.new w #[.int .i64 r1, .slice A1a n1a cap1a, .slice A1b n1b cap1b, .slice A1c n1c cap1c] 25)
  have hx0 : Ext w w0 := by subst hw0; exact (Ext.refl _).alloc _
  have Hw0 := Lib.hid hw0
  clear hw0
  have hr1a0 := hr1a; replace hr1a := hr1a.below hx0
  have hr1b0 := hr1b; replace hr1b := hr1b.below hx0
  have hr1c0 := hr1c; replace hr1c := hr1c.below hx0
  obtain ⟨d, hd⟩ : ∃ d : Nat × Bool, d = atD r1 xs1a xs1b xs1c x2 x3 := ⟨_, rfl⟩
  have Hd := Lib.hid hd; clear hd
  have hfn0 : isFin .f32 d.1 = true := by rw [Hd.out]; exact atD_fin _ _ _ _ _ _
  obtain ⟨yv0, hcv0⟩ := conv_fin hfn0
  clear hfn0
  by_cases hn0 : n1a + n1b + n1c ≤ 1048576
  rotate_left
  · have HS0 : Hid (szL (n1a + n1b + n1c) (1048576) = -1) := by show szL _ _ = -1; unfold szL; rw [if_pos (by omega)]
    go_enter Try.func8, Try.ntmps8
    have zb0_0 := b0.cell 0 rfl
    have zb0_1 := b0.cell 1 rfl
    have zb0_2 := b0.cell 2 rfl
    have zb0_3 := b0.cell 3 rfl
    go_wp2_with fail
    rw [← Hw0.out]
    clear zb0_0 zb0_1 zb0_2 zb0_3
    refine (szSparse_any r1 A1a n1a cap1a A1b n1b cap1b A1c n1c cap1c 1048576 (by omega) (by omega) (by omega) (by omega) _).mono ?_
    rw [HS0.out]
    rintro e w1 ⟨rfl, hx⟩
    replace b0 := b0.ext hx
    replace hr1a := hr1a.below hx
    replace hr1b := hr1b.below hx
    replace hr1c := hr1c.below hx
    replace hx0 := hx0.trans hx
    clear hx
    go_wp2_with fail
    go_ret
    exact ⟨rfl, hx0⟩
  have HS0 : Hid (szL (n1a + n1b + n1c) (1048576) = 1048576 - (n1a + n1b + n1c)) := by show szL _ _ = _; unfold szL; rw [if_neg (by omega)] <;> omega
  go_enter Try.func8, Try.ntmps8
  have zb0_0 := b0.cell 0 rfl
  have zb0_1 := b0.cell 1 rfl
  have zb0_2 := b0.cell 2 rfl
  have zb0_3 := b0.cell 3 rfl
  go_wp2_with fail
  rw [← Hw0.out]
  clear zb0_0 zb0_1 zb0_2 zb0_3
  refine (szSparse_any r1 A1a n1a cap1a A1b n1b cap1b A1c n1c cap1c 1048576 (by omega) (by omega) (by omega) (by omega) _).mono ?_
  rw [HS0.out]
  rintro e w1 ⟨rfl, hx⟩
  replace b0 := b0.ext hx
  replace hr1a := hr1a.below hx
  replace hr1b := hr1b.below hx
  replace hr1c := hr1c.below hx
  replace hx0 := hx0.trans hx
  clear hx
  have zb0_0 := b0.cell 0 rfl
  have zb0_1 := b0.cell 1 rfl
  have zb0_2 := b0.cell 2 rfl
  have zb0_3 := b0.cell 3 rfl
  go_wp2_with fail
  clear zb0_0 zb0_1 zb0_2 zb0_3
  have le_o4 : w.heap.size ≤ w1.heap.size := hx0.size
  have le_o7 : w.heap.size ≤ w1.heap.size := hx0.size
  have le_o10 : w.heap.size ≤ w1.heap.size := hx0.size
  refine (toSparse_any r1 A1a n1a cap1a A1b n1b cap1b A1c n1c cap1c xs1a xs1b xs1c _ hr1a hr1b hr1c (by omega) (by omega) (by omega)).mono ?_
  rintro e w14 ⟨Ax2, kx3, Ax5, kx6, Ax8, kx9, rfl, o4, o7, o10, ne11, ne12, ne13, hx⟩
  have hs_o4 := o4.small; simp only [ints_length] at hs_o4
  have hs_o7 := o7.small; simp only [ints_length] at hs_o7
  have hs_o10 := o10.small; simp only [flts_length] at hs_o10
  replace b0 := b0.ext hx
  replace hr1a := hr1a.below hx
  replace hr1b := hr1b.below hx
  replace hr1c := hr1c.below hx
  replace hx0 := hx0.trans hx
  clear hx
  go_wp2_with fail
  refine (specSparseAt_any r1 Ax2 n1a kx3 Ax5 n1b kx6 Ax8 n1c kx9 x2 x3 xs1a xs1b xs1c _ o4.reads o7.reads o10.reads).mono ?_
  rw [← Hd.out]
  rintro e w15 ⟨rfl, hx⟩
  replace b0 := b0.ext hx
  replace hr1a := hr1a.below hx
  replace hr1b := hr1b.below hx
  replace hr1c := hr1c.below hx
  replace o4 := o4.ext hx
  replace o7 := o7.ext hx
  replace o10 := o10.ext hx
  replace hx0 := hx0.trans hx
  clear hx
  have zb0_0 := b0.cell 0 rfl
  have zb0_1 := b0.cell 1 rfl
  have zb0_2 := b0.cell 2 rfl
  have zb0_3 := b0.cell 3 rfl
  go_wp2_with fail
  clear zb0_0 zb0_1 zb0_2 zb0_3
  have le_o18 : w.heap.size ≤ w15.heap.size := hx0.size
  have le_o21 : w.heap.size ≤ w15.heap.size := hx0.size
  have le_o24 : w.heap.size ≤ w15.heap.size := hx0.size
  refine (toSparse_any r1 A1a n1a cap1a A1b n1b cap1b A1c n1c cap1c xs1a xs1b xs1c _ hr1a hr1b hr1c (by omega) (by omega) (by omega)).mono ?_
  rintro e w28 ⟨Ax16, kx17, Ax19, kx20, Ax22, kx23, rfl, o18, o21, o24, ne25, ne26, ne27, hx⟩
  have ne29 := o4.ne o18
  have ne30 := o7.ne o18
  have ne31 := o10.ne o18
  have hs_o18 := o18.small; simp only [ints_length] at hs_o18
  have ne32 := o4.ne o21
  have ne33 := o7.ne o21
  have ne34 := o10.ne o21
  have hs_o21 := o21.small; simp only [ints_length] at hs_o21
  have ne35 := o4.ne o24
  have ne36 := o7.ne o24
  have ne37 := o10.ne o24
  have hs_o24 := o24.small; simp only [flts_length] at hs_o24
  replace b0 := b0.ext hx
  replace hr1a := hr1a.below hx
  replace hr1b := hr1b.below hx
  replace hr1c := hr1c.below hx
  replace o4 := o4.ext hx
  replace o7 := o7.ext hx
  replace o10 := o10.ext hx
  replace hx0 := hx0.trans hx
  clear hx
  go_wp2_with fail
  obtain ⟨w39, hw⟩ : ∃ v : World, v = (w28.alloc (.cells #[.int .i64 r1, .slice Ax16 n1a kx17, .slice Ax19 n1b kx20, .slice Ax22 n1c kx23] 27)) := ⟨_, rfl⟩
  rw [← hw]
  have hx : Ext w28 w39 := by subst hw; exact (Ext.refl _).alloc _
  have b38 : Blk w39 w28.heap.size #[.int .i64 r1, .slice Ax16 n1a kx17, .slice Ax19 n1b kx20, .slice Ax22 n1c kx23] 27 := by subst hw; exact Blk.new _ _ _
  clear hw
  replace b0 := b0.ext hx
  replace hr1a := hr1a.below hx
  replace hr1b := hr1b.below hx
  replace hr1c := hr1c.below hx
  replace o4 := o4.ext hx
  replace o7 := o7.ext hx
  replace o10 := o10.ext hx
  replace o18 := o18.ext hx
  replace o21 := o21.ext hx
  replace o24 := o24.ext hx
  replace hx0 := hx0.trans hx
  clear hx
  refine (implSparseAt_any r1 Ax16 n1a kx17 Ax19 n1b kx20 Ax22 n1c kx23 x2 x3 xs1a xs1b xs1c _ o18.reads o21.reads o24.reads).mono ?_
  rw [← Hd.out]
  rintro e w40 ⟨rfl, hx⟩
  replace b0 := b0.ext hx
  replace hr1a := hr1a.below hx
  replace hr1b := hr1b.below hx
  replace hr1c := hr1c.below hx
  replace o4 := o4.ext hx
  replace o7 := o7.ext hx
  replace o10 := o10.ext hx
  replace o18 := o18.ext hx
  replace o21 := o21.ext hx
  replace o24 := o24.ext hx
  replace b38 := b38.ext hx
  replace hx0 := hx0.trans hx
  clear hx
  go_wp2_with fail
  refine (sameFloat_any yv0 yv0 rfl _).mono ?_
  rintro e w41 ⟨rfl, hx⟩
  replace b0 := b0.ext hx
  replace hr1a := hr1a.below hx
  replace hr1b := hr1b.below hx
  replace hr1c := hr1c.below hx
  replace o4 := o4.ext hx
  replace o7 := o7.ext hx
  replace o10 := o10.ext hx
  replace o18 := o18.ext hx
  replace o21 := o21.ext hx
  replace o24 := o24.ext hx
  replace b38 := b38.ext hx
  replace hx0 := hx0.trans hx
  clear hx
  go_wp2_with fail
  have zb38_0 := b38.cell 0 rfl
  have zb38_1 := b38.cell 1 rfl
  have zb38_2 := b38.cell 2 rfl
  have zb38_3 := b38.cell 3 rfl
  have zb0_0 := b0.cell 0 rfl
  have zb0_1 := b0.cell 1 rfl
  have zb0_2 := b0.cell 2 rfl
  have zb0_3 := b0.cell 3 rfl
  refine wp_region_T (cs := []) [0, 1, 2, 3, 4] [] [2, 3] [(3, [2])] (fun i__ v => match i__ with | 2 => ∃ (Ax42 : Option Addr) (kx43 : Nat) (Ax45 : Option Addr) (kx46 : Nat) (Ax48 : Option Addr) (kx49 : Nat), v = (.agg #[.int .i64 r1, .slice Ax42 n1a kx43, .slice Ax45 n1b kx46, .slice Ax48 n1c kx49]) | 3 => v = (.bool true) | _ => False) (fun i__ v w' => match i__ with | 2 => OwnF w' w41.heap.size 2 v [1] (ints xs1a) ∧ OwnF w' w41.heap.size 2 v [2] (ints xs1b) ∧ OwnF w' w41.heap.size 43 v [3] (flts xs1c) | _ => True) (by kernel_rfl) (by kernel_rfl) (by intro i v w' w2 h hx; revert h; (try dsimp only); split <;> intro h <;> first | trivial | exact RdsF.ext h hx | exact OwnF.ext h hx | exact BlkF.ext h hx | exact ⟨RdsF.ext h.1 hx, RdsF.ext h.2 hx⟩ | exact ⟨OwnF.ext h.1 hx, OwnF.ext h.2 hx⟩ | exact ⟨RdsF.ext h.1 hx, RdsF.ext h.2.1 hx, RdsF.ext h.2.2 hx⟩ | exact ⟨OwnF.ext h.1 hx, OwnF.ext h.2.1 hx, OwnF.ext h.2.2 hx⟩) ?_
  refine' wpT_det (o := ⟨some 46, Op.load 27 (Operand.tmp 10), 27, "exact.go:4800", #[], none⟩) rfl (by rfl) (by rfl) (fun w' hw' => ?_) ?_; rotate_left
  · have zb38_0_ := Ext.cell hw' zb38_0; have zb38_1_ := Ext.cell hw' zb38_1; have zb38_2_ := Ext.cell hw' zb38_2; have zb38_3_ := Ext.cell hw' zb38_3; have zb0_0_ := Ext.cell hw' zb0_0; have zb0_1_ := Ext.cell hw' zb0_1; have zb0_2_ := Ext.cell hw' zb0_2; have zb0_3_ := Ext.cell hw' zb0_3; go_simp <;> first | rfl | exact ⟨rfl, rfl⟩
  simp only [Act.put, List.setIfInBounds_toArray, List.set_cons_zero, List.set_cons_succ]
  refine' wpT_det (o := ⟨some 47, Op.load 25 (Operand.tmp 3), 25, "exact.go:4800", #[], none⟩) rfl (by rfl) (by rfl) (fun w' hw' => ?_) ?_; rotate_left
  · have zb38_0_ := Ext.cell hw' zb38_0; have zb38_1_ := Ext.cell hw' zb38_1; have zb38_2_ := Ext.cell hw' zb38_2; have zb38_3_ := Ext.cell hw' zb38_3; have zb0_0_ := Ext.cell hw' zb0_0; have zb0_1_ := Ext.cell hw' zb0_1; have zb0_2_ := Ext.cell hw' zb0_2; have zb0_3_ := Ext.cell hw' zb0_3; go_simp <;> first | rfl | exact ⟨rfl, rfl⟩
  simp only [Act.put, List.setIfInBounds_toArray, List.set_cons_zero, List.set_cons_succ]
  refine wpT_nd (o := ⟨some 48, Op.call { callee := Callee.value (Operand.func 22), args := #[Operand.tmp 47], argTypes := #[25] }, 27, "exact.go:4800", #[{ on := 1, ground := Ground.data }], none⟩) rfl (by rfl) (by rfl) (fun w' hw' hF R__ hGo => ?_) ⟨_, none, 0, none, 0, none, 0, rfl⟩ ?_
  · go_simp
    refine gives_enter rfl ?_
    refine (toSparse_any r1 A1a n1a cap1a A1b n1b cap1b A1c n1c cap1c xs1a xs1b xs1c _ (hr1a.below hw'.undrew) (hr1b.below hw'.undrew) (hr1c.below hw'.undrew) (by omega) (by omega) (by omega)).mono ?_
    rintro e w2 ⟨Ax42, kx43, Ax45, kx46, Ax48, kx49, rfl, o44, o47, o50, ne51, ne52, ne53, hx⟩
    exact ⟨_, rfl, hGo _ _ hx ⟨_, _, _, _, _, _, rfl⟩ ⟨OwnF.of (o44.base hw'.size) rfl, OwnF.of (o47.base hw'.size) rfl, OwnF.of (o50.base hw'.size) rfl⟩⟩
  rintro _ ⟨Ax42, kx43, Ax45, kx46, Ax48, kx49, rfl⟩
  simp only [Act.put, List.setIfInBounds_toArray, List.set_cons_zero, List.set_cons_succ]
  refine wpT_nd (o := ⟨some 49, Op.call { callee := Callee.value (Operand.func 24), args := #[Operand.tmp 46, Operand.tmp 48], argTypes := #[27, 27] }, 4, "exact.go:4800", #[{ on := 0, ground := Ground.data }, { on := 2, ground := Ground.data }, { on := 2, ground := Ground.chain }], none⟩) rfl (by rfl) (by rfl) (fun w' hw' hF R__ hGo => ?_) ⟨_, rfl⟩ ?_
  · go_simp
    refine gives_enter rfl ?_
    refine (eqSparse_any r1 r1 Ax16 Ax19 Ax22 Ax42 Ax45 Ax48 n1a n1b n1c n1a n1b n1c kx17 kx20 kx23 kx43 kx46 kx49  xs1a xs1b xs1c xs1a xs1b xs1c _ (o18.reads.below hw'.undrew) (o21.reads.below hw'.undrew) (o24.reads.below hw'.undrew) ((hF 2 (by simp [uses]) _ rfl).1 _ _ _ rfl).reads ((hF 2 (by simp [uses]) _ rfl).2.1 _ _ _ rfl).reads ((hF 2 (by simp [uses]) _ rfl).2.2 _ _ _ rfl).reads ⟨rfl, rfl, rfl, rfl⟩).mono ?_
    rintro e w2 ⟨rfl, hx⟩
    exact ⟨_, rfl, hGo _ _ hx rfl trivial⟩
  intro v hv
  obtain rfl : v = (.bool true) := hv
  simp only [Act.put, List.setIfInBounds_toArray, List.set_cons_zero, List.set_cons_succ]
  refine' wpT_det (o := ⟨some 50, Op.unOp UnOp.not 4 (Operand.tmp 49), 4, "exact.go:4800", #[{ on := 3, ground := Ground.data }], none⟩) rfl (by rfl) (by rfl) (fun w' hw' => ?_) ?_; rotate_left
  · go_simp <;> first | rfl | exact ⟨rfl, rfl⟩
  simp only [Act.put, List.setIfInBounds_toArray, List.set_cons_zero, List.set_cons_succ]
  refine wpT_nil (fun w54 hw' hF => ?_)
  refine wpList_nil ?_
  clear zb38_0 zb38_1 zb38_2 zb38_3 zb0_0 zb0_1 zb0_2 zb0_3
  have hx := hw'.undrew; clear hw'
  clear hF
  replace b0 := b0.ext hx
  replace hr1a := hr1a.below hx
  replace hr1b := hr1b.below hx
  replace hr1c := hr1c.below hx
  replace o4 := o4.ext hx
  replace o7 := o7.ext hx
  replace o10 := o10.ext hx
  replace o18 := o18.ext hx
  replace o21 := o21.ext hx
  replace o24 := o24.ext hx
  replace b38 := b38.ext hx
  replace hx0 := hx0.trans hx
  clear hx
  go_wp2_with fail
  go_ret
  exact ⟨rfl, hx0⟩

end Go.Proofs.Ytkifpligpobiaaa
