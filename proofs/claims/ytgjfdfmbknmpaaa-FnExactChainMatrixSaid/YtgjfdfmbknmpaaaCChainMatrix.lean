import Derived.Test.YtgjfdfmbknmpaaaM44
import Derived.Test.YtgjfdfmbknmpaaaB3M
import Derived.Test.YtgjfdfmbknmpaaaB4M
set_option linter.unusedVariables false
set_option linter.unusedSimpArgs false
namespace Go.Proofs.Ytgjfdfmbknmpaaa
open Go.RowKit

set_option maxRecDepth 20000 in
set_option maxHeartbeats 8000000 in
theorem law_ChainMatrix (Aa : Option Addr) (na capa : Nat) (xsa : List Nat) (Ab : Option Addr) (nb capb : Nat) (xsb : List Nat) (w : World) (hra : Rds w Aa na (flts xsa)) (hrb : Rds w Ab nb (flts xsb)) :
    Calls Try.prog 19 #[.agg #[.slice Aa na capa, .slice Ab nb capb]] w fun e w' => e = .returned (.bool true) ∧ Ext w w' := by
  have hs_hra := hra.small
  have hs_hrb := hrb.small
  obtain ⟨w0, hw0⟩ : ∃ w0 : World, w0 = (w.alloc (.cells #[.slice Aa na capa, .slice Ab nb capb] 24)) := ⟨_, rfl⟩
  have b0 : Blk w0 (w.heap.size) #[.slice Aa na capa, .slice Ab nb capb] 24 := by subst hw0; simpa using (Blk.new w #[.slice Aa na capa, .slice Ab nb capb] 24)
  have hx0 : Ext w w0 := by subst hw0; exact (Ext.refl _).alloc _
  have Hw0 := Lib.hid hw0
  clear hw0
  have hra0 := hra; replace hra := hra.below hx0
  have hrb0 := hrb; replace hrb := hrb.below hx0
  obtain ⟨d, hd⟩ : ∃ d : MD, d = chaD xsa xsb := ⟨_, rfl⟩
  have Hd := Lib.hid hd; clear hd
  by_cases hn0 : na + nb ≤ 1048576
  rotate_left
  · have HS0 : Hid (szL (na + nb) (1048576) = -1) := by show szL _ _ = -1; unfold szL; rw [if_pos (by omega)]
    go_enter Try.func19, Try.ntmps19
    have zb0_0 := b0.cell 0 rfl
    have zb0_1 := b0.cell 1 rfl
    go_wp2_with fail
    rw [← Hw0.out]
    clear zb0_0 zb0_1
    refine (szChain_any Aa na capa Ab nb capb 1048576 (by omega) (by omega) (by omega) _).mono ?_
    rw [HS0.out]
    rintro e w1 ⟨rfl, hx⟩
    replace b0 := b0.ext hx
    replace hra := hra.below hx
    replace hrb := hrb.below hx
    replace hx0 := hx0.trans hx
    clear hx
    go_wp2_with fail
    go_ret
    exact ⟨rfl, hx0⟩
  have HS0 : Hid (szL (na + nb) (1048576) = 1048576 - (na + nb : Nat)) := by show szL _ _ = _; unfold szL; rw [if_neg (by omega)]
  go_enter Try.func19, Try.ntmps19
  have zb0_0 := b0.cell 0 rfl
  have zb0_1 := b0.cell 1 rfl
  go_wp2_with fail
  rw [← Hw0.out]
  clear zb0_0 zb0_1
  refine (szChain_any Aa na capa Ab nb capb 1048576 (by omega) (by omega) (by omega) _).mono ?_
  rw [HS0.out]
  rintro e w1 ⟨rfl, hx⟩
  replace b0 := b0.ext hx
  replace hra := hra.below hx
  replace hrb := hrb.below hx
  replace hx0 := hx0.trans hx
  clear hx
  have zb0_0 := b0.cell 0 rfl
  have zb0_1 := b0.cell 1 rfl
  go_wp2_with fail
  clear zb0_0 zb0_1
  have le_o4 : w.heap.size ≤ w1.heap.size := hx0.size
  have le_o7 : w.heap.size ≤ w1.heap.size := hx0.size
  refine (toChain_any Aa na capa Ab nb capb xsa xsb _ hra hrb (by omega) (by omega)).mono ?_
  rintro e w9 ⟨Ax2, kx3, Ax5, kx6, rfl, o4, o7, ne8, hx⟩
  have hs_o4 := o4.small; simp only [flts_length] at hs_o4
  have hs_o7 := o7.small; simp only [flts_length] at hs_o7
  replace b0 := b0.ext hx
  replace hra := hra.below hx
  replace hrb := hrb.below hx
  replace hx0 := hx0.trans hx
  clear hx
  go_wp2_with fail
  have le_o12 : w.heap.size ≤ w9.heap.size := hx0.size
  refine (specChainMatrix_any Ax2 na kx3 Ax5 nb kx6 xsa xsb _ o4.reads o7.reads).mono ?_
  rw [← Hd.out]
  rintro e w13 ⟨Ax10, kx11, rfl, o12, hx⟩
  have ne14 := o4.ne o12
  have ne15 := o7.ne o12
  have hs_o12 := o12.small; simp only [flts_length] at hs_o12
  replace b0 := b0.ext hx
  replace hra := hra.below hx
  replace hrb := hrb.below hx
  replace o4 := o4.ext hx
  replace o7 := o7.ext hx
  replace hx0 := hx0.trans hx
  clear hx
  have zb0_0 := b0.cell 0 rfl
  have zb0_1 := b0.cell 1 rfl
  have qb0 := b0.lt
  go_wp2_with fail
  obtain ⟨w17, hw⟩ : ∃ v : World, v = (w13.alloc (.cells #[.int .i64 d.r, .int .i64 d.c, .slice Ax10 d.xs.length kx11] 35)) := ⟨_, rfl⟩
  rw [← hw]
  have hx : Ext w13 w17 := by subst hw; exact (Ext.refl _).alloc _
  have b16 : Blk w17 w13.heap.size #[.int .i64 d.r, .int .i64 d.c, .slice Ax10 d.xs.length kx11] 35 := by subst hw; exact Blk.new _ _ _
  clear hw
  replace b0 := b0.ext hx
  replace hra := hra.below hx
  replace hrb := hrb.below hx
  replace o4 := o4.ext hx
  replace o7 := o7.ext hx
  replace o12 := o12.ext hx
  replace hx0 := hx0.trans hx
  clear hx
  clear zb0_0 zb0_1 qb0
  have le_o20 : w.heap.size ≤ w17.heap.size := hx0.size
  have le_o23 : w.heap.size ≤ w17.heap.size := hx0.size
  refine (toChain_any Aa na capa Ab nb capb xsa xsb _ hra hrb (by omega) (by omega)).mono ?_
  rintro e w25 ⟨Ax18, kx19, Ax21, kx22, rfl, o20, o23, ne24, hx⟩
  have ne26 := o4.ne o20
  have ne27 := o7.ne o20
  have ne28 := o12.ne o20
  have hs_o20 := o20.small; simp only [flts_length] at hs_o20
  have ne29 := o4.ne o23
  have ne30 := o7.ne o23
  have ne31 := o12.ne o23
  have hs_o23 := o23.small; simp only [flts_length] at hs_o23
  replace b0 := b0.ext hx
  replace hra := hra.below hx
  replace hrb := hrb.below hx
  replace o4 := o4.ext hx
  replace o7 := o7.ext hx
  replace o12 := o12.ext hx
  replace b16 := b16.ext hx
  replace hx0 := hx0.trans hx
  clear hx
  go_wp2_with fail
  obtain ⟨w33, hw⟩ : ∃ v : World, v = (w25.alloc (.cells #[.slice Ax18 na kx19, .slice Ax21 nb kx22] 27)) := ⟨_, rfl⟩
  rw [← hw]
  have hx : Ext w25 w33 := by subst hw; exact (Ext.refl _).alloc _
  have b32 : Blk w33 w25.heap.size #[.slice Ax18 na kx19, .slice Ax21 nb kx22] 27 := by subst hw; exact Blk.new _ _ _
  clear hw
  replace b0 := b0.ext hx
  replace hra := hra.below hx
  replace hrb := hrb.below hx
  replace o4 := o4.ext hx
  replace o7 := o7.ext hx
  replace o12 := o12.ext hx
  replace b16 := b16.ext hx
  replace o20 := o20.ext hx
  replace o23 := o23.ext hx
  replace hx0 := hx0.trans hx
  clear hx
  have le_o36 : w.heap.size ≤ w33.heap.size := hx0.size
  refine (implChainMatrix_any Ax18 na kx19 Ax21 nb kx22 xsa xsb _ o20.reads o23.reads).mono ?_
  rw [← Hd.out]
  rintro e w37 ⟨Ax34, kx35, rfl, o36, hx⟩
  have ne38 := o4.ne o36
  have ne39 := o7.ne o36
  have ne40 := o12.ne o36
  have ne41 := o20.ne o36
  have ne42 := o23.ne o36
  have hs_o36 := o36.small; simp only [flts_length] at hs_o36
  replace b0 := b0.ext hx
  replace hra := hra.below hx
  replace hrb := hrb.below hx
  replace o4 := o4.ext hx
  replace o7 := o7.ext hx
  replace o12 := o12.ext hx
  replace b16 := b16.ext hx
  replace o20 := o20.ext hx
  replace o23 := o23.ext hx
  replace b32 := b32.ext hx
  replace hx0 := hx0.trans hx
  clear hx
  have zb16_0 := b16.cell 0 rfl
  have zb16_1 := b16.cell 1 rfl
  have zb16_2 := b16.cell 2 rfl
  have qb16 := b16.lt
  go_wp2_with fail
  obtain ⟨w44, hw⟩ : ∃ v : World, v = (w37.alloc (.cells #[.int .i64 d.r, .int .i64 d.c, .slice Ax34 d.xs.length kx35] 35)) := ⟨_, rfl⟩
  rw [← hw]
  have hx : Ext w37 w44 := by subst hw; exact (Ext.refl _).alloc _
  have b43 : Blk w44 w37.heap.size #[.int .i64 d.r, .int .i64 d.c, .slice Ax34 d.xs.length kx35] 35 := by subst hw; exact Blk.new _ _ _
  clear hw
  replace b0 := b0.ext hx
  replace hra := hra.below hx
  replace hrb := hrb.below hx
  replace o4 := o4.ext hx
  replace o7 := o7.ext hx
  replace o12 := o12.ext hx
  replace b16 := b16.ext hx
  replace o20 := o20.ext hx
  replace o23 := o23.ext hx
  replace b32 := b32.ext hx
  replace o36 := o36.ext hx
  replace hx0 := hx0.trans hx
  clear hx
  clear zb16_0 zb16_1 zb16_2 qb16
  refine (eqMatrix_any d.r d.c d.r d.c Ax34 Ax10 d.xs.length d.xs.length kx35 kx11  d.xs d.xs _ o36.reads o12.reads ⟨rfl, rfl, rfl⟩).mono ?_
  rintro e w45 ⟨rfl, hx⟩
  replace b0 := b0.ext hx
  replace hra := hra.below hx
  replace hrb := hrb.below hx
  replace o4 := o4.ext hx
  replace o7 := o7.ext hx
  replace o12 := o12.ext hx
  replace b16 := b16.ext hx
  replace o20 := o20.ext hx
  replace o23 := o23.ext hx
  replace b32 := b32.ext hx
  replace o36 := o36.ext hx
  replace b43 := b43.ext hx
  replace hx0 := hx0.trans hx
  clear hx
  go_wp2_with fail
  have zb32_0 := b32.cell 0 rfl
  have zb32_1 := b32.cell 1 rfl
  have zb0_0 := b0.cell 0 rfl
  have zb0_1 := b0.cell 1 rfl
  refine wp_region_T (cs := []) [0, 1, 2, 3, 4] [] [2, 3] [(3, [2])] (fun i__ v => match i__ with | 2 => ∃ (Ax46 : Option Addr) (kx47 : Nat) (Ax49 : Option Addr) (kx50 : Nat), v = (.agg #[.slice Ax46 na kx47, .slice Ax49 nb kx50]) | 3 => v = (.bool true) | _ => False) (fun i__ v w' => match i__ with | 2 => OwnF w' w45.heap.size 39 v [0] (flts xsa) ∧ OwnF w' w45.heap.size 39 v [1] (flts xsb) | _ => True) (by kernel_rfl) (by kernel_rfl) (by intro i v w' w2 h hx; revert h; (try dsimp only); split <;> intro h <;> first | trivial | exact RdsF.ext h hx | exact OwnF.ext h hx | exact BlkF.ext h hx | exact ⟨RdsF.ext h.1 hx, RdsF.ext h.2 hx⟩ | exact ⟨OwnF.ext h.1 hx, OwnF.ext h.2 hx⟩ | exact ⟨RdsF.ext h.1 hx, RdsF.ext h.2.1 hx, RdsF.ext h.2.2 hx⟩ | exact ⟨OwnF.ext h.1 hx, OwnF.ext h.2.1 hx, OwnF.ext h.2.2 hx⟩) ?_
  refine' wpT_det (o := ⟨some 41, Op.load 27 (Operand.tmp 6), 27, "exact.go:3761", #[], none⟩) rfl (by rfl) (by rfl) (fun w' hw' => ?_) ?_; rotate_left
  · have zb32_0_ := Ext.cell hw' zb32_0; have zb32_1_ := Ext.cell hw' zb32_1; have zb0_0_ := Ext.cell hw' zb0_0; have zb0_1_ := Ext.cell hw' zb0_1; go_simp <;> first | rfl | exact ⟨rfl, rfl⟩
  simp only [Act.put, List.setIfInBounds_toArray, List.set_cons_zero, List.set_cons_succ]
  refine' wpT_det (o := ⟨some 42, Op.load 24 (Operand.tmp 1), 24, "exact.go:3761", #[], none⟩) rfl (by rfl) (by rfl) (fun w' hw' => ?_) ?_; rotate_left
  · have zb32_0_ := Ext.cell hw' zb32_0; have zb32_1_ := Ext.cell hw' zb32_1; have zb0_0_ := Ext.cell hw' zb0_0; have zb0_1_ := Ext.cell hw' zb0_1; go_simp <;> first | rfl | exact ⟨rfl, rfl⟩
  simp only [Act.put, List.setIfInBounds_toArray, List.set_cons_zero, List.set_cons_succ]
  refine wpT_nd (o := ⟨some 43, Op.call { callee := Callee.value (Operand.func 32), args := #[Operand.tmp 42], argTypes := #[24] }, 27, "exact.go:3761", #[{ on := 1, ground := Ground.data }], none⟩) rfl (by rfl) (by rfl) (fun w' hw' hF R__ hGo => ?_) ⟨_, none, 0, none, 0, rfl⟩ ?_
  · go_simp
    refine gives_enter rfl ?_
    refine (toChain_any Aa na capa Ab nb capb xsa xsb _ (hra.below hw'.undrew) (hrb.below hw'.undrew) (by omega) (by omega)).mono ?_
    rintro e w2 ⟨Ax46, kx47, Ax49, kx50, rfl, o48, o51, ne52, hx⟩
    exact ⟨_, rfl, hGo _ _ hx ⟨_, _, _, _, rfl⟩ ⟨OwnF.of (o48.base hw'.size) rfl, OwnF.of (o51.base hw'.size) rfl⟩⟩
  rintro _ ⟨Ax46, kx47, Ax49, kx50, rfl⟩
  simp only [Act.put, List.setIfInBounds_toArray, List.set_cons_zero, List.set_cons_succ]
  refine wpT_nd (o := ⟨some 44, Op.call { callee := Callee.value (Operand.func 34), args := #[Operand.tmp 41, Operand.tmp 43], argTypes := #[27, 27] }, 4, "exact.go:3761", #[{ on := 0, ground := Ground.data }, { on := 2, ground := Ground.data }, { on := 2, ground := Ground.chain }], none⟩) rfl (by rfl) (by rfl) (fun w' hw' hF R__ hGo => ?_) ⟨_, rfl⟩ ?_
  · go_simp
    refine gives_enter rfl ?_
    refine (eqChain_any Ax18 Ax21 Ax46 Ax49 na nb na nb kx19 kx22 kx47 kx50  xsa xsb xsa xsb _ (o20.reads.below hw'.undrew) (o23.reads.below hw'.undrew) ((hF 2 (by simp [uses]) _ rfl).1 _ _ _ rfl).reads ((hF 2 (by simp [uses]) _ rfl).2 _ _ _ rfl).reads ⟨rfl, rfl⟩).mono ?_
    rintro e w2 ⟨rfl, hx⟩
    exact ⟨_, rfl, hGo _ _ hx rfl trivial⟩
  intro v hv
  obtain rfl : v = (.bool true) := hv
  simp only [Act.put, List.setIfInBounds_toArray, List.set_cons_zero, List.set_cons_succ]
  refine' wpT_det (o := ⟨some 45, Op.unOp UnOp.not 4 (Operand.tmp 44), 4, "exact.go:3761", #[{ on := 3, ground := Ground.data }], none⟩) rfl (by rfl) (by rfl) (fun w' hw' => ?_) ?_; rotate_left
  · go_simp <;> first | rfl | exact ⟨rfl, rfl⟩
  simp only [Act.put, List.setIfInBounds_toArray, List.set_cons_zero, List.set_cons_succ]
  refine wpT_nil (fun w53 hw' hF => ?_)
  refine wpList_nil ?_
  clear zb32_0 zb32_1 zb0_0 zb0_1
  have hx := hw'.undrew; clear hw'
  clear hF
  replace b0 := b0.ext hx
  replace hra := hra.below hx
  replace hrb := hrb.below hx
  replace o4 := o4.ext hx
  replace o7 := o7.ext hx
  replace o12 := o12.ext hx
  replace b16 := b16.ext hx
  replace o20 := o20.ext hx
  replace o23 := o23.ext hx
  replace b32 := b32.ext hx
  replace o36 := o36.ext hx
  replace b43 := b43.ext hx
  replace hx0 := hx0.trans hx
  clear hx
  have zb32_0 := b32.cell 0 rfl
  have zb32_1 := b32.cell 1 rfl
  go_wp2_with fail
  clear zb32_0 zb32_1
  refine (markChain_any _ Ax18 na kx19 Ax21 nb kx22 _ _ 1 _ (by omega) o20 o23 ne24.2).mono ?_
  rintro e w54 ⟨rfl, w55, o_, hw, o2_, hw2⟩
  replace b0 := b0.wr hw o20 (by decide)
  replace o4 := o4.other hw ne26.1
  replace o7 := o7.other hw ne27.1
  replace o12 := o12.other hw ne28.1
  replace b16 := b16.wr hw o20 (by decide)
  replace o23 := o23.other hw ne24.2
  replace b32 := b32.wr hw o20 (by decide)
  replace o36 := o36.other hw ne41.2
  replace b43 := b43.wr hw o20 (by decide)
  replace hx0 := hw.ext hx0 (o20.base le_o20)
  replace hra := hra0.below hx0
  replace hrb := hrb0.below hx0
  clear o20 hw; have o20 := o_; clear o_; have hw := hw2; clear hw2
  replace b0 := b0.wr hw o23 (by decide)
  replace o4 := o4.other hw ne29.1
  replace o7 := o7.other hw ne30.1
  replace o12 := o12.other hw ne31.1
  replace b16 := b16.wr hw o23 (by decide)
  replace o20 := o20.other hw ne24.1
  replace b32 := b32.wr hw o23 (by decide)
  replace o36 := o36.other hw ne42.2
  replace b43 := b43.wr hw o23 (by decide)
  replace hx0 := hw.ext hx0 (o23.base le_o23)
  replace hra := hra0.below hx0
  replace hrb := hrb0.below hx0
  clear o23 hw; have o23 := o2_; clear o2_
  have zb43_0 := b43.cell 0 rfl
  have zb43_1 := b43.cell 1 rfl
  have zb43_2 := b43.cell 2 rfl
  have zb16_0 := b16.cell 0 rfl
  have zb16_1 := b16.cell 1 rfl
  have zb16_2 := b16.cell 2 rfl
  go_wp2_with fail
  clear zb43_0 zb43_1 zb43_2 zb16_0 zb16_1 zb16_2
  refine (eqMatrix_any d.r d.c d.r d.c Ax34 Ax10 d.xs.length d.xs.length kx35 kx11  d.xs d.xs _ o36.reads o12.reads ⟨rfl, rfl, rfl⟩).mono ?_
  rintro e w56 ⟨rfl, hx⟩
  replace b0 := b0.ext hx
  replace hra := hra.below hx
  replace hrb := hrb.below hx
  replace o4 := o4.ext hx
  replace o7 := o7.ext hx
  replace o12 := o12.ext hx
  replace b16 := b16.ext hx
  replace o20 := o20.ext hx
  replace o23 := o23.ext hx
  replace b32 := b32.ext hx
  replace o36 := o36.ext hx
  replace b43 := b43.ext hx
  replace hx0 := hx0.trans hx
  clear hx
  have zb43_0 := b43.cell 0 rfl
  have zb43_1 := b43.cell 1 rfl
  have zb43_2 := b43.cell 2 rfl
  go_wp2_with fail
  clear zb43_0 zb43_1 zb43_2
  refine (markMatrix_any _ d.r d.c Ax34 d.xs.length kx35 _ 1 _ (by omega) o36).mono ?_
  rintro e w57 ⟨rfl, o_, hw⟩
  replace b0 := b0.wr hw o36 (by decide)
  replace o4 := o4.other hw ne38.1
  replace o7 := o7.other hw ne39.1
  replace o12 := o12.other hw ne40.1
  replace b16 := b16.wr hw o36 (by decide)
  replace o20 := o20.other hw ne41.1
  replace o23 := o23.other hw ne42.1
  replace b32 := b32.wr hw o36 (by decide)
  replace b43 := b43.wr hw o36 (by decide)
  replace hx0 := hw.ext hx0 (o36.base le_o36)
  replace hra := hra0.below hx0
  replace hrb := hrb0.below hx0
  clear o36 hw; have o36 := o_; clear o_
  have zb43_0 := b43.cell 0 rfl
  have zb43_1 := b43.cell 1 rfl
  have zb43_2 := b43.cell 2 rfl
  go_wp2_with fail
  clear zb43_0 zb43_1 zb43_2
  refine (heldMatrix_any d.r d.c Ax34 d.xs.length kx35 1 _ (by omega) (by omega) o36.reads).mono ?_
  rintro e w58 ⟨rfl, hx⟩
  replace b0 := b0.ext hx
  replace hra := hra.below hx
  replace hrb := hrb.below hx
  replace o4 := o4.ext hx
  replace o7 := o7.ext hx
  replace o12 := o12.ext hx
  replace b16 := b16.ext hx
  replace o20 := o20.ext hx
  replace o23 := o23.ext hx
  replace b32 := b32.ext hx
  replace o36 := o36.ext hx
  replace b43 := b43.ext hx
  replace hx0 := hx0.trans hx
  clear hx
  have zb0_0 := b0.cell 0 rfl
  have zb0_1 := b0.cell 1 rfl
  go_wp2_with fail
  clear zb0_0 zb0_1
  have le_o61 : w.heap.size ≤ w58.heap.size := hx0.size
  have le_o64 : w.heap.size ≤ w58.heap.size := hx0.size
  refine (toChain_any Aa na capa Ab nb capb xsa xsb _ hra hrb (by omega) (by omega)).mono ?_
  rintro e w66 ⟨Ax59, kx60, Ax62, kx63, rfl, o61, o64, ne65, hx⟩
  have ne67 := o4.ne o61
  have ne68 := o7.ne o61
  have ne69 := o12.ne o61
  have ne70 := o20.ne o61
  have ne71 := o23.ne o61
  have ne72 := o36.ne o61
  have hs_o61 := o61.small; simp only [flts_length] at hs_o61
  have ne73 := o4.ne o64
  have ne74 := o7.ne o64
  have ne75 := o12.ne o64
  have ne76 := o20.ne o64
  have ne77 := o23.ne o64
  have ne78 := o36.ne o64
  have hs_o64 := o64.small; simp only [flts_length] at hs_o64
  replace b0 := b0.ext hx
  replace hra := hra.below hx
  replace hrb := hrb.below hx
  replace o4 := o4.ext hx
  replace o7 := o7.ext hx
  replace o12 := o12.ext hx
  replace b16 := b16.ext hx
  replace o20 := o20.ext hx
  replace o23 := o23.ext hx
  replace b32 := b32.ext hx
  replace o36 := o36.ext hx
  replace b43 := b43.ext hx
  replace hx0 := hx0.trans hx
  clear hx
  go_wp2_with fail
  have le_o81 : w.heap.size ≤ w66.heap.size := hx0.size
  refine (implChainMatrix_any Ax59 na kx60 Ax62 nb kx63 xsa xsb _ o61.reads o64.reads).mono ?_
  rw [← Hd.out]
  rintro e w82 ⟨Ax79, kx80, rfl, o81, hx⟩
  have ne83 := o4.ne o81
  have ne84 := o7.ne o81
  have ne85 := o12.ne o81
  have ne86 := o20.ne o81
  have ne87 := o23.ne o81
  have ne88 := o36.ne o81
  have ne89 := o61.ne o81
  have ne90 := o64.ne o81
  have hs_o81 := o81.small; simp only [flts_length] at hs_o81
  replace b0 := b0.ext hx
  replace hra := hra.below hx
  replace hrb := hrb.below hx
  replace o4 := o4.ext hx
  replace o7 := o7.ext hx
  replace o12 := o12.ext hx
  replace b16 := b16.ext hx
  replace o20 := o20.ext hx
  replace o23 := o23.ext hx
  replace b32 := b32.ext hx
  replace o36 := o36.ext hx
  replace b43 := b43.ext hx
  replace o61 := o61.ext hx
  replace o64 := o64.ext hx
  replace hx0 := hx0.trans hx
  clear hx
  have zb16_0 := b16.cell 0 rfl
  have zb16_1 := b16.cell 1 rfl
  have zb16_2 := b16.cell 2 rfl
  have qb16 := b16.lt
  go_wp2_with fail
  obtain ⟨w92, hw⟩ : ∃ v : World, v = (w82.alloc (.cells #[.int .i64 d.r, .int .i64 d.c, .slice Ax79 d.xs.length kx80] 35)) := ⟨_, rfl⟩
  rw [← hw]
  have hx : Ext w82 w92 := by subst hw; exact (Ext.refl _).alloc _
  have b91 : Blk w92 w82.heap.size #[.int .i64 d.r, .int .i64 d.c, .slice Ax79 d.xs.length kx80] 35 := by subst hw; exact Blk.new _ _ _
  clear hw
  replace b0 := b0.ext hx
  replace hra := hra.below hx
  replace hrb := hrb.below hx
  replace o4 := o4.ext hx
  replace o7 := o7.ext hx
  replace o12 := o12.ext hx
  replace b16 := b16.ext hx
  replace o20 := o20.ext hx
  replace o23 := o23.ext hx
  replace b32 := b32.ext hx
  replace o36 := o36.ext hx
  replace b43 := b43.ext hx
  replace o61 := o61.ext hx
  replace o64 := o64.ext hx
  replace o81 := o81.ext hx
  replace hx0 := hx0.trans hx
  clear hx
  clear zb16_0 zb16_1 zb16_2 qb16
  refine (eqMatrix_any d.r d.c d.r d.c Ax79 Ax10 d.xs.length d.xs.length kx80 kx11  d.xs d.xs _ o81.reads o12.reads ⟨rfl, rfl, rfl⟩).mono ?_
  rintro e w93 ⟨rfl, hx⟩
  replace b0 := b0.ext hx
  replace hra := hra.below hx
  replace hrb := hrb.below hx
  replace o4 := o4.ext hx
  replace o7 := o7.ext hx
  replace o12 := o12.ext hx
  replace b16 := b16.ext hx
  replace o20 := o20.ext hx
  replace o23 := o23.ext hx
  replace b32 := b32.ext hx
  replace o36 := o36.ext hx
  replace b43 := b43.ext hx
  replace o61 := o61.ext hx
  replace o64 := o64.ext hx
  replace o81 := o81.ext hx
  replace b91 := b91.ext hx
  replace hx0 := hx0.trans hx
  clear hx
  have zb43_0 := b43.cell 0 rfl
  have zb43_1 := b43.cell 1 rfl
  have zb43_2 := b43.cell 2 rfl
  go_wp2_with fail
  clear zb43_0 zb43_1 zb43_2
  refine (heldMatrix_any d.r d.c Ax34 d.xs.length kx35 1 _ (by omega) (by omega) o36.reads).mono ?_
  rintro e w94 ⟨rfl, hx⟩
  replace b0 := b0.ext hx
  replace hra := hra.below hx
  replace hrb := hrb.below hx
  replace o4 := o4.ext hx
  replace o7 := o7.ext hx
  replace o12 := o12.ext hx
  replace b16 := b16.ext hx
  replace o20 := o20.ext hx
  replace o23 := o23.ext hx
  replace b32 := b32.ext hx
  replace o36 := o36.ext hx
  replace b43 := b43.ext hx
  replace o61 := o61.ext hx
  replace o64 := o64.ext hx
  replace o81 := o81.ext hx
  replace b91 := b91.ext hx
  replace hx0 := hx0.trans hx
  clear hx
  go_wp2_with fail
  go_ret
  exact ⟨rfl, hx0⟩

end Go.Proofs.Ytgjfdfmbknmpaaa
