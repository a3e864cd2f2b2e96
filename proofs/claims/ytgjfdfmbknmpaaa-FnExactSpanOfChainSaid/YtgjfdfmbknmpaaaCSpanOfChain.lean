import Derived.Test.YtgjfdfmbknmpaaaM39
import Derived.Test.YtgjfdfmbknmpaaaB4M
set_option linter.unusedVariables false
set_option linter.unusedSimpArgs false
namespace Go.Proofs.Ytgjfdfmbknmpaaa
open Go.RowKit

set_option maxRecDepth 20000 in
set_option maxHeartbeats 8000000 in
theorem law_SpanOfChain (Aa : Option Addr) (na capa : Nat) (xsa : List Nat) (Ab : Option Addr) (nb capb : Nat) (xsb : List Nat) (w : World) (hra : Rds w Aa na (flts xsa)) (hrb : Rds w Ab nb (flts xsb)) (hwf1 : ∀ x ∈ xsa, x < 4294967296) (hwf2 : ∀ x ∈ xsb, x < 4294967296) :
    Calls Try.prog 10 #[.agg #[.slice Aa na capa, .slice Ab nb capb]] w fun e w' => e = .returned (.bool true) ∧ Ext w w' := by
  have hs_hra := hra.small
  have hs_hrb := hrb.small
  obtain ⟨w0, hw0⟩ : ∃ w0 : World, w0 = (w.alloc (.cells #[.slice Aa na capa, .slice Ab nb capb] 24)) := ⟨_, rfl⟩
  have b0 : Blk w0 (w.heap.size) #[.slice Aa na capa, .slice Ab nb capb] 24 := by subst hw0; simpa using (Blk.new w #[.slice Aa na capa, .slice Ab nb capb] 24)
  have hx0 : Ext w w0 := by subst hw0; exact (Ext.refl _).alloc _
  have Hw0 := Lib.hid hw0
  clear hw0
  have hra0 := hra; replace hra := hra.below hx0
  have hrb0 := hrb; replace hrb := hrb.below hx0
  obtain ⟨d, hd⟩ : ∃ d : Nat × Nat × Bool, d = spanD xsa xsb := ⟨_, rfl⟩
  have Hd := Lib.hid hd; clear hd
  have hfn0 : isFin .f32 d.1 = true := by rw [Hd.out]; exact (spanD_fin _ _).1
  obtain ⟨yv0, hcv0⟩ := conv_fin hfn0
  clear hfn0
  have hfn1 : isFin .f32 d.2.1 = true := by rw [Hd.out]; exact (spanD_fin _ _).2
  obtain ⟨yv1, hcv1⟩ := conv_fin hfn1
  clear hfn1
  have Hwf1 := Lib.hid hwf1
  have Hwf2 := Lib.hid hwf2
  clear hwf1 hwf2
  by_cases hn0 : na + nb ≤ 1048576
  rotate_left
  · have HS0 : Hid (szL (na + nb) (1048576) = -1) := by show szL _ _ = -1; unfold szL; rw [if_pos (by omega)]
    go_enter Try.func10, Try.ntmps10
    have zb0_0 := b0.cell 0 rfl
    have zb0_1 := b0.cell 1 rfl
    go_wp2_with fail
    rw [← Hw0.out]
    clear zb0_0 zb0_1
    refine (szChain_any Aa na capa Ab nb capb 1048576 (by omega) (by omega) (by omega) _).mono ?_
    rw [HS0.out]
    rintro e w1 ⟨rfl, hx⟩
    replace b0 := b0.ext hx
    replace hra := hra.below hx
    replace hrb := hrb.below hx
    replace hx0 := hx0.trans hx
    clear hx
    go_wp2_with fail
    go_ret
    exact ⟨rfl, hx0⟩
  have HS0 : Hid (szL (na + nb) (1048576) = 1048576 - (na + nb : Nat)) := by show szL _ _ = _; unfold szL; rw [if_neg (by omega)]
  go_enter Try.func10, Try.ntmps10
  have zb0_0 := b0.cell 0 rfl
  have zb0_1 := b0.cell 1 rfl
  go_wp2_with fail
  rw [← Hw0.out]
  clear zb0_0 zb0_1
  refine (szChain_any Aa na capa Ab nb capb 1048576 (by omega) (by omega) (by omega) _).mono ?_
  rw [HS0.out]
  rintro e w1 ⟨rfl, hx⟩
  replace b0 := b0.ext hx
  replace hra := hra.below hx
  replace hrb := hrb.below hx
  replace hx0 := hx0.trans hx
  clear hx
  have zb0_0 := b0.cell 0 rfl
  have zb0_1 := b0.cell 1 rfl
  go_wp2_with fail
  clear zb0_0 zb0_1
  have le_o4 : w.heap.size ≤ w1.heap.size := hx0.size
  have le_o7 : w.heap.size ≤ w1.heap.size := hx0.size
  refine (toChain_any Aa na capa Ab nb capb xsa xsb _ hra hrb (by omega) (by omega)).mono ?_
  rintro e w9 ⟨Ax2, kx3, Ax5, kx6, rfl, o4, o7, ne8, hx⟩
  have hs_o4 := o4.small; simp only [flts_length] at hs_o4
  have hs_o7 := o7.small; simp only [flts_length] at hs_o7
  replace b0 := b0.ext hx
  replace hra := hra.below hx
  replace hrb := hrb.below hx
  replace hx0 := hx0.trans hx
  clear hx
  go_wp2_with fail
  refine (specSpanOfChain_any Ax2 na kx3 Ax5 nb kx6 xsa xsb _ o4.reads o7.reads Hwf1.out Hwf2.out).mono ?_
  rw [← Hd.out]
  rintro e w10 ⟨rfl, hx⟩
  replace b0 := b0.ext hx
  replace hra := hra.below hx
  replace hrb := hrb.below hx
  replace o4 := o4.ext hx
  replace o7 := o7.ext hx
  replace hx0 := hx0.trans hx
  clear hx
  have zb0_0 := b0.cell 0 rfl
  have zb0_1 := b0.cell 1 rfl
  go_wp2_with fail
  clear zb0_0 zb0_1
  have le_o13 : w.heap.size ≤ w10.heap.size := hx0.size
  have le_o16 : w.heap.size ≤ w10.heap.size := hx0.size
  refine (toChain_any Aa na capa Ab nb capb xsa xsb _ hra hrb (by omega) (by omega)).mono ?_
  rintro e w18 ⟨Ax11, kx12, Ax14, kx15, rfl, o13, o16, ne17, hx⟩
  have ne19 := o4.ne o13
  have ne20 := o7.ne o13
  have hs_o13 := o13.small; simp only [flts_length] at hs_o13
  have ne21 := o4.ne o16
  have ne22 := o7.ne o16
  have hs_o16 := o16.small; simp only [flts_length] at hs_o16
  replace b0 := b0.ext hx
  replace hra := hra.below hx
  replace hrb := hrb.below hx
  replace o4 := o4.ext hx
  replace o7 := o7.ext hx
  replace hx0 := hx0.trans hx
  clear hx
  go_wp2_with fail
  obtain ⟨w24, hw⟩ : ∃ v : World, v = (w18.alloc (.cells #[.slice Ax11 na kx12, .slice Ax14 nb kx15] 27)) := ⟨_, rfl⟩
  rw [← hw]
  have hx : Ext w18 w24 := by subst hw; exact (Ext.refl _).alloc _
  have b23 : Blk w24 w18.heap.size #[.slice Ax11 na kx12, .slice Ax14 nb kx15] 27 := by subst hw; exact Blk.new _ _ _
  clear hw
  replace b0 := b0.ext hx
  replace hra := hra.below hx
  replace hrb := hrb.below hx
  replace o4 := o4.ext hx
  replace o7 := o7.ext hx
  replace o13 := o13.ext hx
  replace o16 := o16.ext hx
  replace hx0 := hx0.trans hx
  clear hx
  refine (implSpanOfChain_any Ax11 na kx12 Ax14 nb kx15 xsa xsb _ o13.reads o16.reads).mono ?_
  rw [← Hd.out]
  rintro e w25 ⟨rfl, hx⟩
  replace b0 := b0.ext hx
  replace hra := hra.below hx
  replace hrb := hrb.below hx
  replace o4 := o4.ext hx
  replace o7 := o7.ext hx
  replace o13 := o13.ext hx
  replace o16 := o16.ext hx
  replace b23 := b23.ext hx
  replace hx0 := hx0.trans hx
  clear hx
  go_wp2_with fail
  refine (sameFloat_any yv0 yv0 rfl _).mono ?_
  rintro e w26 ⟨rfl, hx⟩
  replace b0 := b0.ext hx
  replace hra := hra.below hx
  replace hrb := hrb.below hx
  replace o4 := o4.ext hx
  replace o7 := o7.ext hx
  replace o13 := o13.ext hx
  replace o16 := o16.ext hx
  replace b23 := b23.ext hx
  replace hx0 := hx0.trans hx
  clear hx
  go_wp2_with fail
  refine (sameFloat_any yv1 yv1 rfl _).mono ?_
  rintro e w27 ⟨rfl, hx⟩
  replace b0 := b0.ext hx
  replace hra := hra.below hx
  replace hrb := hrb.below hx
  replace o4 := o4.ext hx
  replace o7 := o7.ext hx
  replace o13 := o13.ext hx
  replace o16 := o16.ext hx
  replace b23 := b23.ext hx
  replace hx0 := hx0.trans hx
  clear hx
  go_wp2_with fail
  have zb23_0 := b23.cell 0 rfl
  have zb23_1 := b23.cell 1 rfl
  have zb0_0 := b0.cell 0 rfl
  have zb0_1 := b0.cell 1 rfl
  refine wp_region_T (cs := []) [0, 1, 2, 3, 4] [] [2, 3] [(3, [2])] (fun i__ v => match i__ with | 2 => ∃ (Ax28 : Option Addr) (kx29 : Nat) (Ax31 : Option Addr) (kx32 : Nat), v = (.agg #[.slice Ax28 na kx29, .slice Ax31 nb kx32]) | 3 => v = (.bool true) | _ => False) (fun i__ v w' => match i__ with | 2 => OwnF w' w27.heap.size 39 v [0] (flts xsa) ∧ OwnF w' w27.heap.size 39 v [1] (flts xsb) | _ => True) (by kernel_rfl) (by kernel_rfl) (by intro i v w' w2 h hx; revert h; (try dsimp only); split <;> intro h <;> first | trivial | exact RdsF.ext h hx | exact OwnF.ext h hx | exact BlkF.ext h hx | exact ⟨RdsF.ext h.1 hx, RdsF.ext h.2 hx⟩ | exact ⟨OwnF.ext h.1 hx, OwnF.ext h.2 hx⟩ | exact ⟨RdsF.ext h.1 hx, RdsF.ext h.2.1 hx, RdsF.ext h.2.2 hx⟩ | exact ⟨OwnF.ext h.1 hx, OwnF.ext h.2.1 hx, OwnF.ext h.2.2 hx⟩) ?_
  refine' wpT_det (o := ⟨some 50, Op.load 27 (Operand.tmp 7), 27, "exact.go:3826", #[], none⟩) rfl (by rfl) (by rfl) (fun w' hw' => ?_) ?_; rotate_left
  · have zb23_0_ := Ext.cell hw' zb23_0; have zb23_1_ := Ext.cell hw' zb23_1; have zb0_0_ := Ext.cell hw' zb0_0; have zb0_1_ := Ext.cell hw' zb0_1; go_simp <;> first | rfl | exact ⟨rfl, rfl⟩
  simp only [Act.put, List.setIfInBounds_toArray, List.set_cons_zero, List.set_cons_succ]
  refine' wpT_det (o := ⟨some 51, Op.load 24 (Operand.tmp 1), 24, "exact.go:3826", #[], none⟩) rfl (by rfl) (by rfl) (fun w' hw' => ?_) ?_; rotate_left
  · have zb23_0_ := Ext.cell hw' zb23_0; have zb23_1_ := Ext.cell hw' zb23_1; have zb0_0_ := Ext.cell hw' zb0_0; have zb0_1_ := Ext.cell hw' zb0_1; go_simp <;> first | rfl | exact ⟨rfl, rfl⟩
  simp only [Act.put, List.setIfInBounds_toArray, List.set_cons_zero, List.set_cons_succ]
  refine wpT_nd (o := ⟨some 52, Op.call { callee := Callee.value (Operand.func 32), args := #[Operand.tmp 51], argTypes := #[24] }, 27, "exact.go:3826", #[{ on := 1, ground := Ground.data }], none⟩) rfl (by rfl) (by rfl) (fun w' hw' hF R__ hGo => ?_) ⟨_, none, 0, none, 0, rfl⟩ ?_
  · go_simp
    refine gives_enter rfl ?_
    refine (toChain_any Aa na capa Ab nb capb xsa xsb _ (hra.below hw'.undrew) (hrb.below hw'.undrew) (by omega) (by omega)).mono ?_
    rintro e w2 ⟨Ax28, kx29, Ax31, kx32, rfl, o30, o33, ne34, hx⟩
    exact ⟨_, rfl, hGo _ _ hx ⟨_, _, _, _, rfl⟩ ⟨OwnF.of (o30.base hw'.size) rfl, OwnF.of (o33.base hw'.size) rfl⟩⟩
  rintro _ ⟨Ax28, kx29, Ax31, kx32, rfl⟩
  simp only [Act.put, List.setIfInBounds_toArray, List.set_cons_zero, List.set_cons_succ]
  refine wpT_nd (o := ⟨some 53, Op.call { callee := Callee.value (Operand.func 34), args := #[Operand.tmp 50, Operand.tmp 52], argTypes := #[27, 27] }, 4, "exact.go:3826", #[{ on := 0, ground := Ground.data }, { on := 2, ground := Ground.data }, { on := 2, ground := Ground.chain }], none⟩) rfl (by rfl) (by rfl) (fun w' hw' hF R__ hGo => ?_) ⟨_, rfl⟩ ?_
  · go_simp
    refine gives_enter rfl ?_
    refine (eqChain_any Ax11 Ax14 Ax28 Ax31 na nb na nb kx12 kx15 kx29 kx32  xsa xsb xsa xsb _ (o13.reads.below hw'.undrew) (o16.reads.below hw'.undrew) ((hF 2 (by simp [uses]) _ rfl).1 _ _ _ rfl).reads ((hF 2 (by simp [uses]) _ rfl).2 _ _ _ rfl).reads ⟨rfl, rfl⟩).mono ?_
    rintro e w2 ⟨rfl, hx⟩
    exact ⟨_, rfl, hGo _ _ hx rfl trivial⟩
  intro v hv
  obtain rfl : v = (.bool true) := hv
  simp only [Act.put, List.setIfInBounds_toArray, List.set_cons_zero, List.set_cons_succ]
  refine' wpT_det (o := ⟨some 54, Op.unOp UnOp.not 4 (Operand.tmp 53), 4, "exact.go:3826", #[{ on := 3, ground := Ground.data }], none⟩) rfl (by rfl) (by rfl) (fun w' hw' => ?_) ?_; rotate_left
  · go_simp <;> first | rfl | exact ⟨rfl, rfl⟩
  simp only [Act.put, List.setIfInBounds_toArray, List.set_cons_zero, List.set_cons_succ]
  refine wpT_nil (fun w35 hw' hF => ?_)
  refine wpList_nil ?_
  clear zb23_0 zb23_1 zb0_0 zb0_1
  have hx := hw'.undrew; clear hw'
  clear hF
  replace b0 := b0.ext hx
  replace hra := hra.below hx
  replace hrb := hrb.below hx
  replace o4 := o4.ext hx
  replace o7 := o7.ext hx
  replace o13 := o13.ext hx
  replace o16 := o16.ext hx
  replace b23 := b23.ext hx
  replace hx0 := hx0.trans hx
  clear hx
  go_wp2_with fail
  go_ret
  exact ⟨rfl, hx0⟩

end Go.Proofs.Ytgjfdfmbknmpaaa
