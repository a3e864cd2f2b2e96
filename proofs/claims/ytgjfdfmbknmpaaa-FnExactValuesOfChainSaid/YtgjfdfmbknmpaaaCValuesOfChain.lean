import Derived.Test.YtgjfdfmbknmpaaaM42
import Derived.Test.YtgjfdfmbknmpaaaB4M
import Derived.Test.YtgjfdfmbknmpaaaB1M
set_option linter.unusedVariables false
set_option linter.unusedSimpArgs false
namespace Go.Proofs.Ytgjfdfmbknmpaaa
open Go.RowKit

set_option maxRecDepth 20000 in
set_option maxHeartbeats 8000000 in
theorem law_ValuesOfChain (Aa : Option Addr) (na capa : Nat) (xsa : List Nat) (Ab : Option Addr) (nb capb : Nat) (xsb : List Nat) (w : World) (hra : Rds w Aa na (flts xsa)) (hrb : Rds w Ab nb (flts xsb)) (hwf1 : ∀ x ∈ xsa, x < 4294967296) (hwf2 : ∀ x ∈ xsb, x < 4294967296) :
    Calls Try.prog 29 #[.agg #[.slice Aa na capa, .slice Ab nb capb]] w fun e w' => e = .returned (.bool true) ∧ Ext w w' := by
  have hs_hra := hra.small
  have hs_hrb := hrb.small
  obtain ⟨w0, hw0⟩ : ∃ w0 : World, w0 = (w.alloc (.cells #[.slice Aa na capa, .slice Ab nb capb] 24)) := ⟨_, rfl⟩
  have b0 : Blk w0 (w.heap.size) #[.slice Aa na capa, .slice Ab nb capb] 24 := by subst hw0; simpa using (Blk.new w #[.slice Aa na capa, .slice Ab nb capb] 24)
  have hx0 : Ext w w0 := by subst hw0; exact (Ext.refl _).alloc _
  have Hw0 := Lib.hid hw0
  clear hw0
  have hra0 := hra; replace hra := hra.below hx0
  have hrb0 := hrb; replace hrb := hrb.below hx0
  obtain ⟨d, hd⟩ : ∃ d : List Nat × Bool, d = valsD xsa xsb := ⟨_, rfl⟩
  have Hd := Lib.hid hd; clear hd
  have Hwf1 := Lib.hid hwf1
  have Hwf2 := Lib.hid hwf2
  clear hwf1 hwf2
  by_cases hn0 : na + nb ≤ 1048576
  rotate_left
  · have HS0 : Hid (szL (na + nb) (1048576) = -1) := by show szL _ _ = -1; unfold szL; rw [if_pos (by omega)]
    go_enter Try.func29, Try.ntmps29
    have zb0_0 := b0.cell 0 rfl
    have zb0_1 := b0.cell 1 rfl
    go_wp2_with fail
    rw [← Hw0.out]
    clear zb0_0 zb0_1
    refine (szChain_any Aa na capa Ab nb capb 1048576 (by omega) (by omega) (by omega) _).mono ?_
    rw [HS0.out]
    rintro e w1 ⟨rfl, hx⟩
    replace b0 := b0.ext hx
    replace hra := hra.below hx
    replace hrb := hrb.below hx
    replace hx0 := hx0.trans hx
    clear hx
    go_wp2_with fail
    go_ret
    exact ⟨rfl, hx0⟩
  have HS0 : Hid (szL (na + nb) (1048576) = 1048576 - (na + nb : Nat)) := by show szL _ _ = _; unfold szL; rw [if_neg (by omega)]
  go_enter Try.func29, Try.ntmps29
  have zb0_0 := b0.cell 0 rfl
  have zb0_1 := b0.cell 1 rfl
  go_wp2_with fail
  rw [← Hw0.out]
  clear zb0_0 zb0_1
  refine (szChain_any Aa na capa Ab nb capb 1048576 (by omega) (by omega) (by omega) _).mono ?_
  rw [HS0.out]
  rintro e w1 ⟨rfl, hx⟩
  replace b0 := b0.ext hx
  replace hra := hra.below hx
  replace hrb := hrb.below hx
  replace hx0 := hx0.trans hx
  clear hx
  have zb0_0 := b0.cell 0 rfl
  have zb0_1 := b0.cell 1 rfl
  go_wp2_with fail
  clear zb0_0 zb0_1
  have le_o4 : w.heap.size ≤ w1.heap.size := hx0.size
  have le_o7 : w.heap.size ≤ w1.heap.size := hx0.size
  refine (toChain_any Aa na capa Ab nb capb xsa xsb _ hra hrb (by omega) (by omega)).mono ?_
  rintro e w9 ⟨Ax2, kx3, Ax5, kx6, rfl, o4, o7, ne8, hx⟩
  have hs_o4 := o4.small; simp only [flts_length] at hs_o4
  have hs_o7 := o7.small; simp only [flts_length] at hs_o7
  replace b0 := b0.ext hx
  replace hra := hra.below hx
  replace hrb := hrb.below hx
  replace hx0 := hx0.trans hx
  clear hx
  go_wp2_with fail
  have le_o12 : w.heap.size ≤ w9.heap.size := hx0.size
  refine (specValuesOfChain_any Ax2 na kx3 Ax5 nb kx6 xsa xsb _ o4.reads o7.reads Hwf1.out Hwf2.out).mono ?_
  rw [← Hd.out]
  rintro e w13 ⟨Ax10, kx11, rfl, o12, hx⟩
  have ne14 := o4.ne o12
  have ne15 := o7.ne o12
  have hs_o12 := o12.small; simp only [flts_length] at hs_o12
  replace b0 := b0.ext hx
  replace hra := hra.below hx
  replace hrb := hrb.below hx
  replace o4 := o4.ext hx
  replace o7 := o7.ext hx
  replace hx0 := hx0.trans hx
  clear hx
  have zb0_0 := b0.cell 0 rfl
  have zb0_1 := b0.cell 1 rfl
  go_wp2_with fail
  clear zb0_0 zb0_1
  have le_o18 : w.heap.size ≤ w13.heap.size := hx0.size
  have le_o21 : w.heap.size ≤ w13.heap.size := hx0.size
  refine (toChain_any Aa na capa Ab nb capb xsa xsb _ hra hrb (by omega) (by omega)).mono ?_
  rintro e w23 ⟨Ax16, kx17, Ax19, kx20, rfl, o18, o21, ne22, hx⟩
  have ne24 := o4.ne o18
  have ne25 := o7.ne o18
  have ne26 := o12.ne o18
  have hs_o18 := o18.small; simp only [flts_length] at hs_o18
  have ne27 := o4.ne o21
  have ne28 := o7.ne o21
  have ne29 := o12.ne o21
  have hs_o21 := o21.small; simp only [flts_length] at hs_o21
  replace b0 := b0.ext hx
  replace hra := hra.below hx
  replace hrb := hrb.below hx
  replace o4 := o4.ext hx
  replace o7 := o7.ext hx
  replace o12 := o12.ext hx
  replace hx0 := hx0.trans hx
  clear hx
  go_wp2_with fail
  obtain ⟨w31, hw⟩ : ∃ v : World, v = (w23.alloc (.cells #[.slice Ax16 na kx17, .slice Ax19 nb kx20] 27)) := ⟨_, rfl⟩
  rw [← hw]
  have hx : Ext w23 w31 := by subst hw; exact (Ext.refl _).alloc _
  have b30 : Blk w31 w23.heap.size #[.slice Ax16 na kx17, .slice Ax19 nb kx20] 27 := by subst hw; exact Blk.new _ _ _
  clear hw
  replace b0 := b0.ext hx
  replace hra := hra.below hx
  replace hrb := hrb.below hx
  replace o4 := o4.ext hx
  replace o7 := o7.ext hx
  replace o12 := o12.ext hx
  replace o18 := o18.ext hx
  replace o21 := o21.ext hx
  replace hx0 := hx0.trans hx
  clear hx
  have le_o34 : w.heap.size ≤ w31.heap.size := hx0.size
  refine (implValuesOfChain_any Ax16 na kx17 Ax19 nb kx20 xsa xsb _ o18.reads o21.reads).mono ?_
  rw [← Hd.out]
  rintro e w35 ⟨Ax32, kx33, rfl, o34, hx⟩
  have ne36 := o4.ne o34
  have ne37 := o7.ne o34
  have ne38 := o12.ne o34
  have ne39 := o18.ne o34
  have ne40 := o21.ne o34
  have hs_o34 := o34.small; simp only [flts_length] at hs_o34
  replace b0 := b0.ext hx
  replace hra := hra.below hx
  replace hrb := hrb.below hx
  replace o4 := o4.ext hx
  replace o7 := o7.ext hx
  replace o12 := o12.ext hx
  replace o18 := o18.ext hx
  replace o21 := o21.ext hx
  replace b30 := b30.ext hx
  replace hx0 := hx0.trans hx
  clear hx
  go_wp2_with fail
  refine (eqFloat32S_any Ax32 Ax10 d.1.length d.1.length kx33 kx11  d.1 d.1 _ o34.reads o12.reads rfl).mono ?_
  rintro e w41 ⟨rfl, hx⟩
  replace b0 := b0.ext hx
  replace hra := hra.below hx
  replace hrb := hrb.below hx
  replace o4 := o4.ext hx
  replace o7 := o7.ext hx
  replace o12 := o12.ext hx
  replace o18 := o18.ext hx
  replace o21 := o21.ext hx
  replace b30 := b30.ext hx
  replace o34 := o34.ext hx
  replace hx0 := hx0.trans hx
  clear hx
  go_wp2_with fail
  have zb30_0 := b30.cell 0 rfl
  have zb30_1 := b30.cell 1 rfl
  have zb0_0 := b0.cell 0 rfl
  have zb0_1 := b0.cell 1 rfl
  refine wp_region_T (cs := []) [0, 1, 2, 3, 4] [] [2, 3] [(3, [2])] (fun i__ v => match i__ with | 2 => ∃ (Ax42 : Option Addr) (kx43 : Nat) (Ax45 : Option Addr) (kx46 : Nat), v = (.agg #[.slice Ax42 na kx43, .slice Ax45 nb kx46]) | 3 => v = (.bool true) | _ => False) (fun i__ v w' => match i__ with | 2 => OwnF w' w41.heap.size 39 v [0] (flts xsa) ∧ OwnF w' w41.heap.size 39 v [1] (flts xsb) | _ => True) (by kernel_rfl) (by kernel_rfl) (by intro i v w' w2 h hx; revert h; (try dsimp only); split <;> intro h <;> first | trivial | exact RdsF.ext h hx | exact OwnF.ext h hx | exact BlkF.ext h hx | exact ⟨RdsF.ext h.1 hx, RdsF.ext h.2 hx⟩ | exact ⟨OwnF.ext h.1 hx, OwnF.ext h.2 hx⟩ | exact ⟨RdsF.ext h.1 hx, RdsF.ext h.2.1 hx, RdsF.ext h.2.2 hx⟩ | exact ⟨OwnF.ext h.1 hx, OwnF.ext h.2.1 hx, OwnF.ext h.2.2 hx⟩) ?_
  refine' wpT_det (o := ⟨some 41, Op.load 27 (Operand.tmp 6), 27, "exact.go:3864", #[], none⟩) rfl (by rfl) (by rfl) (fun w' hw' => ?_) ?_; rotate_left
  · have zb30_0_ := Ext.cell hw' zb30_0; have zb30_1_ := Ext.cell hw' zb30_1; have zb0_0_ := Ext.cell hw' zb0_0; have zb0_1_ := Ext.cell hw' zb0_1; go_simp <;> first | rfl | exact ⟨rfl, rfl⟩
  simp only [Act.put, List.setIfInBounds_toArray, List.set_cons_zero, List.set_cons_succ]
  refine' wpT_det (o := ⟨some 42, Op.load 24 (Operand.tmp 1), 24, "exact.go:3864", #[], none⟩) rfl (by rfl) (by rfl) (fun w' hw' => ?_) ?_; rotate_left
  · have zb30_0_ := Ext.cell hw' zb30_0; have zb30_1_ := Ext.cell hw' zb30_1; have zb0_0_ := Ext.cell hw' zb0_0; have zb0_1_ := Ext.cell hw' zb0_1; go_simp <;> first | rfl | exact ⟨rfl, rfl⟩
  simp only [Act.put, List.setIfInBounds_toArray, List.set_cons_zero, List.set_cons_succ]
  refine wpT_nd (o := ⟨some 43, Op.call { callee := Callee.value (Operand.func 32), args := #[Operand.tmp 42], argTypes := #[24] }, 27, "exact.go:3864", #[{ on := 1, ground := Ground.data }], none⟩) rfl (by rfl) (by rfl) (fun w' hw' hF R__ hGo => ?_) ⟨_, none, 0, none, 0, rfl⟩ ?_
  · go_simp
    refine gives_enter rfl ?_
    refine (toChain_any Aa na capa Ab nb capb xsa xsb _ (hra.below hw'.undrew) (hrb.below hw'.undrew) (by omega) (by omega)).mono ?_
    rintro e w2 ⟨Ax42, kx43, Ax45, kx46, rfl, o44, o47, ne48, hx⟩
    exact ⟨_, rfl, hGo _ _ hx ⟨_, _, _, _, rfl⟩ ⟨OwnF.of (o44.base hw'.size) rfl, OwnF.of (o47.base hw'.size) rfl⟩⟩
  rintro _ ⟨Ax42, kx43, Ax45, kx46, rfl⟩
  simp only [Act.put, List.setIfInBounds_toArray, List.set_cons_zero, List.set_cons_succ]
  refine wpT_nd (o := ⟨some 44, Op.call { callee := Callee.value (Operand.func 34), args := #[Operand.tmp 41, Operand.tmp 43], argTypes := #[27, 27] }, 4, "exact.go:3864", #[{ on := 0, ground := Ground.data }, { on := 2, ground := Ground.data }, { on := 2, ground := Ground.chain }], none⟩) rfl (by rfl) (by rfl) (fun w' hw' hF R__ hGo => ?_) ⟨_, rfl⟩ ?_
  · go_simp
    refine gives_enter rfl ?_
    refine (eqChain_any Ax16 Ax19 Ax42 Ax45 na nb na nb kx17 kx20 kx43 kx46  xsa xsb xsa xsb _ (o18.reads.below hw'.undrew) (o21.reads.below hw'.undrew) ((hF 2 (by simp [uses]) _ rfl).1 _ _ _ rfl).reads ((hF 2 (by simp [uses]) _ rfl).2 _ _ _ rfl).reads ⟨rfl, rfl⟩).mono ?_
    rintro e w2 ⟨rfl, hx⟩
    exact ⟨_, rfl, hGo _ _ hx rfl trivial⟩
  intro v hv
  obtain rfl : v = (.bool true) := hv
  simp only [Act.put, List.setIfInBounds_toArray, List.set_cons_zero, List.set_cons_succ]
  refine' wpT_det (o := ⟨some 45, Op.unOp UnOp.not 4 (Operand.tmp 44), 4, "exact.go:3864", #[{ on := 3, ground := Ground.data }], none⟩) rfl (by rfl) (by rfl) (fun w' hw' => ?_) ?_; rotate_left
  · go_simp <;> first | rfl | exact ⟨rfl, rfl⟩
  simp only [Act.put, List.setIfInBounds_toArray, List.set_cons_zero, List.set_cons_succ]
  refine wpT_nil (fun w49 hw' hF => ?_)
  refine wpList_nil ?_
  clear zb30_0 zb30_1 zb0_0 zb0_1
  have hx := hw'.undrew; clear hw'
  clear hF
  replace b0 := b0.ext hx
  replace hra := hra.below hx
  replace hrb := hrb.below hx
  replace o4 := o4.ext hx
  replace o7 := o7.ext hx
  replace o12 := o12.ext hx
  replace o18 := o18.ext hx
  replace o21 := o21.ext hx
  replace b30 := b30.ext hx
  replace o34 := o34.ext hx
  replace hx0 := hx0.trans hx
  clear hx
  have zb30_0 := b30.cell 0 rfl
  have zb30_1 := b30.cell 1 rfl
  go_wp2_with fail
  clear zb30_0 zb30_1
  refine (markChain_any _ Ax16 na kx17 Ax19 nb kx20 _ _ 1 _ (by omega) o18 o21 ne22.2).mono ?_
  rintro e w50 ⟨rfl, w51, o_, hw, o2_, hw2⟩
  replace b0 := b0.wr hw o18 (by decide)
  replace o4 := o4.other hw ne24.1
  replace o7 := o7.other hw ne25.1
  replace o12 := o12.other hw ne26.1
  replace o21 := o21.other hw ne22.2
  replace b30 := b30.wr hw o18 (by decide)
  replace o34 := o34.other hw ne39.2
  replace hx0 := hw.ext hx0 (o18.base le_o18)
  replace hra := hra0.below hx0
  replace hrb := hrb0.below hx0
  clear o18 hw; have o18 := o_; clear o_; have hw := hw2; clear hw2
  replace b0 := b0.wr hw o21 (by decide)
  replace o4 := o4.other hw ne27.1
  replace o7 := o7.other hw ne28.1
  replace o12 := o12.other hw ne29.1
  replace o18 := o18.other hw ne22.1
  replace b30 := b30.wr hw o21 (by decide)
  replace o34 := o34.other hw ne40.2
  replace hx0 := hw.ext hx0 (o21.base le_o21)
  replace hra := hra0.below hx0
  replace hrb := hrb0.below hx0
  clear o21 hw; have o21 := o2_; clear o2_
  go_wp2_with fail
  refine (eqFloat32S_any Ax32 Ax10 d.1.length d.1.length kx33 kx11  d.1 d.1 _ o34.reads o12.reads rfl).mono ?_
  rintro e w52 ⟨rfl, hx⟩
  replace b0 := b0.ext hx
  replace hra := hra.below hx
  replace hrb := hrb.below hx
  replace o4 := o4.ext hx
  replace o7 := o7.ext hx
  replace o12 := o12.ext hx
  replace o18 := o18.ext hx
  replace o21 := o21.ext hx
  replace b30 := b30.ext hx
  replace o34 := o34.ext hx
  replace hx0 := hx0.trans hx
  clear hx
  go_wp2_with fail
  refine (markFloat32S_any _ Ax32 d.1.length kx33 _ 1 _ (by omega) o34).mono ?_
  rintro e w53 ⟨rfl, o_, hw⟩
  replace b0 := b0.wr hw o34 (by decide)
  replace o4 := o4.other hw ne36.1
  replace o7 := o7.other hw ne37.1
  replace o12 := o12.other hw ne38.1
  replace o18 := o18.other hw ne39.1
  replace o21 := o21.other hw ne40.1
  replace b30 := b30.wr hw o34 (by decide)
  replace hx0 := hw.ext hx0 (o34.base le_o34)
  replace hra := hra0.below hx0
  replace hrb := hrb0.below hx0
  clear o34 hw; have o34 := o_; clear o_
  go_wp2_with fail
  refine (heldFloat32S_any Ax32 d.1.length kx33 1 _ (by omega) (by omega) o34.reads).mono ?_
  rintro e w54 ⟨rfl, hx⟩
  replace b0 := b0.ext hx
  replace hra := hra.below hx
  replace hrb := hrb.below hx
  replace o4 := o4.ext hx
  replace o7 := o7.ext hx
  replace o12 := o12.ext hx
  replace o18 := o18.ext hx
  replace o21 := o21.ext hx
  replace b30 := b30.ext hx
  replace o34 := o34.ext hx
  replace hx0 := hx0.trans hx
  clear hx
  have zb0_0 := b0.cell 0 rfl
  have zb0_1 := b0.cell 1 rfl
  go_wp2_with fail
  clear zb0_0 zb0_1
  have le_o57 : w.heap.size ≤ w54.heap.size := hx0.size
  have le_o60 : w.heap.size ≤ w54.heap.size := hx0.size
  refine (toChain_any Aa na capa Ab nb capb xsa xsb _ hra hrb (by omega) (by omega)).mono ?_
  rintro e w62 ⟨Ax55, kx56, Ax58, kx59, rfl, o57, o60, ne61, hx⟩
  have ne63 := o4.ne o57
  have ne64 := o7.ne o57
  have ne65 := o12.ne o57
  have ne66 := o18.ne o57
  have ne67 := o21.ne o57
  have ne68 := o34.ne o57
  have hs_o57 := o57.small; simp only [flts_length] at hs_o57
  have ne69 := o4.ne o60
  have ne70 := o7.ne o60
  have ne71 := o12.ne o60
  have ne72 := o18.ne o60
  have ne73 := o21.ne o60
  have ne74 := o34.ne o60
  have hs_o60 := o60.small; simp only [flts_length] at hs_o60
  replace b0 := b0.ext hx
  replace hra := hra.below hx
  replace hrb := hrb.below hx
  replace o4 := o4.ext hx
  replace o7 := o7.ext hx
  replace o12 := o12.ext hx
  replace o18 := o18.ext hx
  replace o21 := o21.ext hx
  replace b30 := b30.ext hx
  replace o34 := o34.ext hx
  replace hx0 := hx0.trans hx
  clear hx
  go_wp2_with fail
  have le_o77 : w.heap.size ≤ w62.heap.size := hx0.size
  refine (implValuesOfChain_any Ax55 na kx56 Ax58 nb kx59 xsa xsb _ o57.reads o60.reads).mono ?_
  rw [← Hd.out]
  rintro e w78 ⟨Ax75, kx76, rfl, o77, hx⟩
  have ne79 := o4.ne o77
  have ne80 := o7.ne o77
  have ne81 := o12.ne o77
  have ne82 := o18.ne o77
  have ne83 := o21.ne o77
  have ne84 := o34.ne o77
  have ne85 := o57.ne o77
  have ne86 := o60.ne o77
  have hs_o77 := o77.small; simp only [flts_length] at hs_o77
  replace b0 := b0.ext hx
  replace hra := hra.below hx
  replace hrb := hrb.below hx
  replace o4 := o4.ext hx
  replace o7 := o7.ext hx
  replace o12 := o12.ext hx
  replace o18 := o18.ext hx
  replace o21 := o21.ext hx
  replace b30 := b30.ext hx
  replace o34 := o34.ext hx
  replace o57 := o57.ext hx
  replace o60 := o60.ext hx
  replace hx0 := hx0.trans hx
  clear hx
  go_wp2_with fail
  refine (eqFloat32S_any Ax75 Ax10 d.1.length d.1.length kx76 kx11  d.1 d.1 _ o77.reads o12.reads rfl).mono ?_
  rintro e w87 ⟨rfl, hx⟩
  replace b0 := b0.ext hx
  replace hra := hra.below hx
  replace hrb := hrb.below hx
  replace o4 := o4.ext hx
  replace o7 := o7.ext hx
  replace o12 := o12.ext hx
  replace o18 := o18.ext hx
  replace o21 := o21.ext hx
  replace b30 := b30.ext hx
  replace o34 := o34.ext hx
  replace o57 := o57.ext hx
  replace o60 := o60.ext hx
  replace o77 := o77.ext hx
  replace hx0 := hx0.trans hx
  clear hx
  go_wp2_with fail
  refine (heldFloat32S_any Ax32 d.1.length kx33 1 _ (by omega) (by omega) o34.reads).mono ?_
  rintro e w88 ⟨rfl, hx⟩
  replace b0 := b0.ext hx
  replace hra := hra.below hx
  replace hrb := hrb.below hx
  replace o4 := o4.ext hx
  replace o7 := o7.ext hx
  replace o12 := o12.ext hx
  replace o18 := o18.ext hx
  replace o21 := o21.ext hx
  replace b30 := b30.ext hx
  replace o34 := o34.ext hx
  replace o57 := o57.ext hx
  replace o60 := o60.ext hx
  replace o77 := o77.ext hx
  replace hx0 := hx0.trans hx
  clear hx
  go_wp2_with fail
  go_ret
  exact ⟨rfl, hx0⟩

end Go.Proofs.Ytgjfdfmbknmpaaa
