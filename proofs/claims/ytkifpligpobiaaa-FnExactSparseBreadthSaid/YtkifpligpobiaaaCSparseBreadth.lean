
import Derived.Test.YtkifpligpobiaaaBB

import Derived.Test.YtkifpligpobiaaaBI

import Derived.Test.YtkifpligpobiaaaSB1
set_option linter.unusedVariables false
set_option linter.unusedSimpArgs false

namespace Go.Proofs.Ytkifpligpobiaaa

open Go.RowKit


set_option maxRecDepth 20000 in
set_option maxHeartbeats 8000000 in
theorem law_SparseBreadth (r : Int) (Aa : Option Addr) (na capa : Nat) (xsa : List Int) (Ab : Option Addr) (nb capb : Nat) (xsb : List Int) (Ac : Option Addr) (nc capc : Nat) (xsc : List Nat) (w : World) (hra : Rds w Aa na (ints xsa)) (hrb : Rds w Ab nb (ints xsb)) (hrc : Rds w Ac nc (flts xsc)) :
    Calls Try.prog 6 #[.agg #[.int .i64 r, .slice Aa na capa, .slice Ab nb capb, .slice Ac nc capc]] w fun e w' => e = .returned (.bool true) ∧ Ext w w' := by
  have hs_hra := hra.small
  have hs_hrb := hrb.small
  have hs_hrc := hrc.small
  obtain ⟨w0, hw0⟩ : ∃ w0 : World, w0 = (w.alloc (.cells #[.int .i64 r, .slice Aa na capa, .slice Ab nb capb, .slice Ac nc capc] 25)) := ⟨_, rfl⟩
  have b0 : Blk w0 (w.heap.size) #[.int .i64 r, .slice Aa na capa, .slice Ab nb capb, .slice Ac nc capc] 25 := by subst hw0; simpa using (Blk.new w #[.int .i64 r, .slice Aa na capa, .slice Ab nb capb, .slice Ac nc capc] 25)
  have hx0 : Ext w w0 := by subst hw0; exact (Ext.refl _).alloc _
  have Hw0 := Lib.hid hw0
  clear hw0
  have hra0 := hra; replace hra := hra.below hx0
  have hrb0 := hrb; replace hrb := hrb.below hx0
  have hrc0 := hrc; replace hrc := hrc.below hx0
  obtain ⟨d, hd⟩ : ∃ d : List Int × Bool, d = breD r xsa xsb xsc := ⟨_, rfl⟩
  have Hd := Lib.hid hd; clear hd
  by_cases hn0 : na + nb + nc ≤ 1048576
  rotate_left
  · have HS0 : Hid (szL (na + nb + nc) (1048576) = -1) := by show szL _ _ = -1; unfold szL; rw [if_pos (by omega)]
    go_enter Try.func6, Try.ntmps6
    have zb0_0 := b0.cell 0 rfl
    have zb0_1 := b0.cell 1 rfl
    have zb0_2 := b0.cell 2 rfl
    have zb0_3 := b0.cell 3 rfl
    go_wp2_with fail
    rw [← Hw0.out]
    clear zb0_0 zb0_1 zb0_2 zb0_3
    refine (szSparse_any r Aa na capa Ab nb capb Ac nc capc 1048576 (by omega) (by omega) (by omega) (by omega) _).mono ?_
    rw [HS0.out]
    rintro e w1 ⟨rfl, hx⟩
    replace b0 := b0.ext hx
    replace hra := hra.below hx
    replace hrb := hrb.below hx
    replace hrc := hrc.below hx
    replace hx0 := hx0.trans hx
    clear hx
    go_wp2_with fail
    go_ret
    exact ⟨rfl, hx0⟩
  have HS0 : Hid (szL (na + nb + nc) (1048576) = 1048576 - (na + nb + nc)) := by show szL _ _ = _; unfold szL; rw [if_neg (by omega)] <;> omega
  go_enter Try.func6, Try.ntmps6
  have zb0_0 := b0.cell 0 rfl
  have zb0_1 := b0.cell 1 rfl
  have zb0_2 := b0.cell 2 rfl
  have zb0_3 := b0.cell 3 rfl
  go_wp2_with fail
  rw [← Hw0.out]
  clear zb0_0 zb0_1 zb0_2 zb0_3
  refine (szSparse_any r Aa na capa Ab nb capb Ac nc capc 1048576 (by omega) (by omega) (by omega) (by omega) _).mono ?_
  rw [HS0.out]
  rintro e w1 ⟨rfl, hx⟩
  replace b0 := b0.ext hx
  replace hra := hra.below hx
  replace hrb := hrb.below hx
  replace hrc := hrc.below hx
  replace hx0 := hx0.trans hx
  clear hx
  have zb0_0 := b0.cell 0 rfl
  have zb0_1 := b0.cell 1 rfl
  have zb0_2 := b0.cell 2 rfl
  have zb0_3 := b0.cell 3 rfl
  go_wp2_with fail
  clear zb0_0 zb0_1 zb0_2 zb0_3
  have le_o4 : w.heap.size ≤ w1.heap.size := hx0.size
  have le_o7 : w.heap.size ≤ w1.heap.size := hx0.size
  have le_o10 : w.heap.size ≤ w1.heap.size := hx0.size
  refine (toSparse_any r Aa na capa Ab nb capb Ac nc capc xsa xsb xsc _ hra hrb hrc (by omega) (by omega) (by omega)).mono ?_
  rintro e w14 ⟨Ax2, kx3, Ax5, kx6, Ax8, kx9, rfl, o4, o7, o10, ne11, ne12, ne13, hx⟩
  have hs_o4 := o4.small; simp only [ints_length] at hs_o4
  have hs_o7 := o7.small; simp only [ints_length] at hs_o7
  have hs_o10 := o10.small; simp only [flts_length] at hs_o10
  replace b0 := b0.ext hx
  replace hra := hra.below hx
  replace hrb := hrb.below hx
  replace hrc := hrc.below hx
  replace hx0 := hx0.trans hx
  clear hx
  go_wp2_with fail
  have le_o17 : w.heap.size ≤ w14.heap.size := hx0.size
  refine (specSparseBreadth_any r Ax2 na kx3 Ax5 nb kx6 Ax8 nc kx9 xsa xsb xsc _ o4.reads o7.reads o10.reads).mono ?_
  rw [← Hd.out]
  rintro e w18 ⟨Ax15, kx16, rfl, o17, hx⟩
  have ne19 := o4.ne o17
  have ne20 := o7.ne o17
  have ne21 := o10.ne o17
  have hs_o17 := o17.small; simp only [ints_length] at hs_o17
  replace b0 := b0.ext hx
  replace hra := hra.below hx
  replace hrb := hrb.below hx
  replace hrc := hrc.below hx
  replace o4 := o4.ext hx
  replace o7 := o7.ext hx
  replace o10 := o10.ext hx
  replace hx0 := hx0.trans hx
  clear hx
  have zb0_0 := b0.cell 0 rfl
  have zb0_1 := b0.cell 1 rfl
  have zb0_2 := b0.cell 2 rfl
  have zb0_3 := b0.cell 3 rfl
  go_wp2_with fail
  clear zb0_0 zb0_1 zb0_2 zb0_3
  have le_o24 : w.heap.size ≤ w18.heap.size := hx0.size
  have le_o27 : w.heap.size ≤ w18.heap.size := hx0.size
  have le_o30 : w.heap.size ≤ w18.heap.size := hx0.size
  refine (toSparse_any r Aa na capa Ab nb capb Ac nc capc xsa xsb xsc _ hra hrb hrc (by omega) (by omega) (by omega)).mono ?_
  rintro e w34 ⟨Ax22, kx23, Ax25, kx26, Ax28, kx29, rfl, o24, o27, o30, ne31, ne32, ne33, hx⟩
  have ne35 := o4.ne o24
  have ne36 := o7.ne o24
  have ne37 := o10.ne o24
  have ne38 := o17.ne o24
  have hs_o24 := o24.small; simp only [ints_length] at hs_o24
  have ne39 := o4.ne o27
  have ne40 := o7.ne o27
  have ne41 := o10.ne o27
  have ne42 := o17.ne o27
  have hs_o27 := o27.small; simp only [ints_length] at hs_o27
  have ne43 := o4.ne o30
  have ne44 := o7.ne o30
  have ne45 := o10.ne o30
  have ne46 := o17.ne o30
  have hs_o30 := o30.small; simp only [flts_length] at hs_o30
  replace b0 := b0.ext hx
  replace hra := hra.below hx
  replace hrb := hrb.below hx
  replace hrc := hrc.below hx
  replace o4 := o4.ext hx
  replace o7 := o7.ext hx
  replace o10 := o10.ext hx
  replace o17 := o17.ext hx
  replace hx0 := hx0.trans hx
  clear hx
  go_wp2_with fail
  obtain ⟨w48, hw⟩ : ∃ v : World, v = (w34.alloc (.cells #[.int .i64 r, .slice Ax22 na kx23, .slice Ax25 nb kx26, .slice Ax28 nc kx29] 27)) := ⟨_, rfl⟩
  rw [← hw]
  have hx : Ext w34 w48 := by subst hw; exact (Ext.refl _).alloc _
  have b47 : Blk w48 w34.heap.size #[.int .i64 r, .slice Ax22 na kx23, .slice Ax25 nb kx26, .slice Ax28 nc kx29] 27 := by subst hw; exact Blk.new _ _ _
  clear hw
  replace b0 := b0.ext hx
  replace hra := hra.below hx
  replace hrb := hrb.below hx
  replace hrc := hrc.below hx
  replace o4 := o4.ext hx
  replace o7 := o7.ext hx
  replace o10 := o10.ext hx
  replace o17 := o17.ext hx
  replace o24 := o24.ext hx
  replace o27 := o27.ext hx
  replace o30 := o30.ext hx
  replace hx0 := hx0.trans hx
  clear hx
  have le_o51 : w.heap.size ≤ w48.heap.size := hx0.size
  refine (implSparseBreadth_any r Ax22 na kx23 Ax25 nb kx26 Ax28 nc kx29 xsa xsb xsc _ o24.reads o27.reads o30.reads).mono ?_
  rw [← Hd.out]
  rintro e w52 ⟨Ax49, kx50, rfl, o51, hx⟩
  have ne53 := o4.ne o51
  have ne54 := o7.ne o51
  have ne55 := o10.ne o51
  have ne56 := o17.ne o51
  have ne57 := o24.ne o51
  have ne58 := o27.ne o51
  have ne59 := o30.ne o51
  have hs_o51 := o51.small; simp only [ints_length] at hs_o51
  replace b0 := b0.ext hx
  replace hra := hra.below hx
  replace hrb := hrb.below hx
  replace hrc := hrc.below hx
  replace o4 := o4.ext hx
  replace o7 := o7.ext hx
  replace o10 := o10.ext hx
  replace o17 := o17.ext hx
  replace o24 := o24.ext hx
  replace o27 := o27.ext hx
  replace o30 := o30.ext hx
  replace b47 := b47.ext hx
  replace hx0 := hx0.trans hx
  clear hx
  go_wp2_with fail
  refine (eqInt64S_any Ax49 Ax15 d.1.length d.1.length kx50 kx16  d.1 d.1 _ o51.reads o17.reads).mono ?_
  rintro e w60 ⟨rfl, hx⟩
  replace b0 := b0.ext hx
  replace hra := hra.below hx
  replace hrb := hrb.below hx
  replace hrc := hrc.below hx
  replace o4 := o4.ext hx
  replace o7 := o7.ext hx
  replace o10 := o10.ext hx
  replace o17 := o17.ext hx
  replace o24 := o24.ext hx
  replace o27 := o27.ext hx
  replace o30 := o30.ext hx
  replace b47 := b47.ext hx
  replace o51 := o51.ext hx
  replace hx0 := hx0.trans hx
  clear hx
  go_wp2_with fail
  have zb47_0 := b47.cell 0 rfl
  have zb47_1 := b47.cell 1 rfl
  have zb47_2 := b47.cell 2 rfl
  have zb47_3 := b47.cell 3 rfl
  have zb0_0 := b0.cell 0 rfl
  have zb0_1 := b0.cell 1 rfl
  have zb0_2 := b0.cell 2 rfl
  have zb0_3 := b0.cell 3 rfl
  refine wp_region_T (cs := []) [0, 1, 2, 3, 4] [] [2, 3] [(3, [2])] (fun i__ v => match i__ with | 2 => ∃ (Ax61 : Option Addr) (kx62 : Nat) (Ax64 : Option Addr) (kx65 : Nat) (Ax67 : Option Addr) (kx68 : Nat), v = (.agg #[.int .i64 r, .slice Ax61 na kx62, .slice Ax64 nb kx65, .slice Ax67 nc kx68]) | 3 => v = (.bool true) | _ => False) (fun i__ v w' => match i__ with | 2 => OwnF w' w60.heap.size 2 v [1] (ints xsa) ∧ OwnF w' w60.heap.size 2 v [2] (ints xsb) ∧ OwnF w' w60.heap.size 43 v [3] (flts xsc) | _ => True) (by kernel_rfl) (by kernel_rfl) (by intro i v w' w2 h hx; revert h; (try dsimp only); split <;> intro h <;> first | trivial | exact RdsF.ext h hx | exact OwnF.ext h hx | exact BlkF.ext h hx | exact ⟨RdsF.ext h.1 hx, RdsF.ext h.2 hx⟩ | exact ⟨OwnF.ext h.1 hx, OwnF.ext h.2 hx⟩ | exact ⟨RdsF.ext h.1 hx, RdsF.ext h.2.1 hx, RdsF.ext h.2.2 hx⟩ | exact ⟨OwnF.ext h.1 hx, OwnF.ext h.2.1 hx, OwnF.ext h.2.2 hx⟩) ?_
  refine' wpT_det (o := ⟨some 41, Op.load 27 (Operand.tmp 6), 27, "exact.go:5148", #[], none⟩) rfl (by rfl) (by rfl) (fun w' hw' => ?_) ?_; rotate_left
  · have zb47_0_ := Ext.cell hw' zb47_0; have zb47_1_ := Ext.cell hw' zb47_1; have zb47_2_ := Ext.cell hw' zb47_2; have zb47_3_ := Ext.cell hw' zb47_3; have zb0_0_ := Ext.cell hw' zb0_0; have zb0_1_ := Ext.cell hw' zb0_1; have zb0_2_ := Ext.cell hw' zb0_2; have zb0_3_ := Ext.cell hw' zb0_3; go_simp <;> first | rfl | exact ⟨rfl, rfl⟩
  simp only [Act.put, List.setIfInBounds_toArray, List.set_cons_zero, List.set_cons_succ]
  refine' wpT_det (o := ⟨some 42, Op.load 25 (Operand.tmp 1), 25, "exact.go:5148", #[], none⟩) rfl (by rfl) (by rfl) (fun w' hw' => ?_) ?_; rotate_left
  · have zb47_0_ := Ext.cell hw' zb47_0; have zb47_1_ := Ext.cell hw' zb47_1; have zb47_2_ := Ext.cell hw' zb47_2; have zb47_3_ := Ext.cell hw' zb47_3; have zb0_0_ := Ext.cell hw' zb0_0; have zb0_1_ := Ext.cell hw' zb0_1; have zb0_2_ := Ext.cell hw' zb0_2; have zb0_3_ := Ext.cell hw' zb0_3; go_simp <;> first | rfl | exact ⟨rfl, rfl⟩
  simp only [Act.put, List.setIfInBounds_toArray, List.set_cons_zero, List.set_cons_succ]
  refine wpT_nd (o := ⟨some 43, Op.call { callee := Callee.value (Operand.func 22), args := #[Operand.tmp 42], argTypes := #[25] }, 27, "exact.go:5148", #[{ on := 1, ground := Ground.data }], none⟩) rfl (by rfl) (by rfl) (fun w' hw' hF R__ hGo => ?_) ⟨_, none, 0, none, 0, none, 0, rfl⟩ ?_
  · go_simp
    refine gives_enter rfl ?_
    refine (toSparse_any r Aa na capa Ab nb capb Ac nc capc xsa xsb xsc _ (hra.below hw'.undrew) (hrb.below hw'.undrew) (hrc.below hw'.undrew) (by omega) (by omega) (by omega)).mono ?_
    rintro e w2 ⟨Ax61, kx62, Ax64, kx65, Ax67, kx68, rfl, o63, o66, o69, ne70, ne71, ne72, hx⟩
    exact ⟨_, rfl, hGo _ _ hx ⟨_, _, _, _, _, _, rfl⟩ ⟨OwnF.of (o63.base hw'.size) rfl, OwnF.of (o66.base hw'.size) rfl, OwnF.of (o69.base hw'.size) rfl⟩⟩
  rintro _ ⟨Ax61, kx62, Ax64, kx65, Ax67, kx68, rfl⟩
  simp only [Act.put, List.setIfInBounds_toArray, List.set_cons_zero, List.set_cons_succ]
  refine wpT_nd (o := ⟨some 44, Op.call { callee := Callee.value (Operand.func 24), args := #[Operand.tmp 41, Operand.tmp 43], argTypes := #[27, 27] }, 4, "exact.go:5148", #[{ on := 0, ground := Ground.data }, { on := 2, ground := Ground.data }, { on := 2, ground := Ground.chain }], none⟩) rfl (by rfl) (by rfl) (fun w' hw' hF R__ hGo => ?_) ⟨_, rfl⟩ ?_
  · go_simp
    refine gives_enter rfl ?_
    refine (eqSparse_any r r Ax22 Ax25 Ax28 Ax61 Ax64 Ax67 na nb nc na nb nc kx23 kx26 kx29 kx62 kx65 kx68  xsa xsb xsc xsa xsb xsc _ (o24.reads.below hw'.undrew) (o27.reads.below hw'.undrew) (o30.reads.below hw'.undrew) ((hF 2 (by simp [uses]) _ rfl).1 _ _ _ rfl).reads ((hF 2 (by simp [uses]) _ rfl).2.1 _ _ _ rfl).reads ((hF 2 (by simp [uses]) _ rfl).2.2 _ _ _ rfl).reads ⟨rfl, rfl, rfl, rfl⟩).mono ?_
    rintro e w2 ⟨rfl, hx⟩
    exact ⟨_, rfl, hGo _ _ hx rfl trivial⟩
  intro v hv
  obtain rfl : v = (.bool true) := hv
  simp only [Act.put, List.setIfInBounds_toArray, List.set_cons_zero, List.set_cons_succ]
  refine' wpT_det (o := ⟨some 45, Op.unOp UnOp.not 4 (Operand.tmp 44), 4, "exact.go:5148", #[{ on := 3, ground := Ground.data }], none⟩) rfl (by rfl) (by rfl) (fun w' hw' => ?_) ?_; rotate_left
  · go_simp <;> first | rfl | exact ⟨rfl, rfl⟩
  simp only [Act.put, List.setIfInBounds_toArray, List.set_cons_zero, List.set_cons_succ]
  refine wpT_nil (fun w73 hw' hF => ?_)
  refine wpList_nil ?_
  clear zb47_0 zb47_1 zb47_2 zb47_3 zb0_0 zb0_1 zb0_2 zb0_3
  have hx := hw'.undrew; clear hw'
  clear hF
  replace b0 := b0.ext hx
  replace hra := hra.below hx
  replace hrb := hrb.below hx
  replace hrc := hrc.below hx
  replace o4 := o4.ext hx
  replace o7 := o7.ext hx
  replace o10 := o10.ext hx
  replace o17 := o17.ext hx
  replace o24 := o24.ext hx
  replace o27 := o27.ext hx
  replace o30 := o30.ext hx
  replace b47 := b47.ext hx
  replace o51 := o51.ext hx
  replace hx0 := hx0.trans hx
  clear hx
  have zb47_0 := b47.cell 0 rfl
  have zb47_1 := b47.cell 1 rfl
  have zb47_2 := b47.cell 2 rfl
  have zb47_3 := b47.cell 3 rfl
  go_wp2_with fail
  clear zb47_0 zb47_1 zb47_2 zb47_3
  refine (markSparse_any _ r Ax22 na kx23 Ax25 nb kx26 Ax28 nc kx29 _ _ _ 1 _ (by omega) o24 o27 o30 ne31 ne32 ne33).mono ?_
  rintro e w74 ⟨rfl, w75, w76, o1_, hw, o2_, hw2, o3_, hw3⟩
  replace b0 := b0.wr hw o24 (by decide)
  replace o4 := o4.other hw ne35.1
  replace o7 := o7.other hw ne36.1
  replace o10 := o10.other hw ne37.1
  replace o17 := o17.other hw ne38.1
  replace o27 := o27.other hw ne31.2
  replace o30 := o30.other hw ne32.2
  replace b47 := b47.wr hw o24 (by decide)
  replace o51 := o51.other hw ne57.2
  replace hx0 := hw.ext hx0 (o24.base le_o24)
  replace hra := hra0.below hx0
  replace hrb := hrb0.below hx0
  replace hrc := hrc0.below hx0
  clear o24 hw; have o24 := o1_; clear o1_; have hw := hw2; clear hw2
  replace b0 := b0.wr hw o27 (by decide)
  replace o4 := o4.other hw ne39.1
  replace o7 := o7.other hw ne40.1
  replace o10 := o10.other hw ne41.1
  replace o17 := o17.other hw ne42.1
  replace o24 := o24.other hw ne31.1
  replace o30 := o30.other hw ne33.2
  replace b47 := b47.wr hw o27 (by decide)
  replace o51 := o51.other hw ne58.2
  replace hx0 := hw.ext hx0 (o27.base le_o27)
  replace hra := hra0.below hx0
  replace hrb := hrb0.below hx0
  replace hrc := hrc0.below hx0
  clear o27 hw; have o27 := o2_; clear o2_; have hw := hw3; clear hw3
  replace b0 := b0.wr hw o30 (by decide)
  replace o4 := o4.other hw ne43.1
  replace o7 := o7.other hw ne44.1
  replace o10 := o10.other hw ne45.1
  replace o17 := o17.other hw ne46.1
  replace o24 := o24.other hw ne32.1
  replace o27 := o27.other hw ne33.1
  replace b47 := b47.wr hw o30 (by decide)
  replace o51 := o51.other hw ne59.2
  replace hx0 := hw.ext hx0 (o30.base le_o30)
  replace hra := hra0.below hx0
  replace hrb := hrb0.below hx0
  replace hrc := hrc0.below hx0
  clear o30 hw; have o30 := o3_; clear o3_
  go_wp2_with fail
  refine (eqInt64S_any Ax49 Ax15 d.1.length d.1.length kx50 kx16  d.1 d.1 _ o51.reads o17.reads).mono ?_
  rintro e w77 ⟨rfl, hx⟩
  replace b0 := b0.ext hx
  replace hra := hra.below hx
  replace hrb := hrb.below hx
  replace hrc := hrc.below hx
  replace o4 := o4.ext hx
  replace o7 := o7.ext hx
  replace o10 := o10.ext hx
  replace o17 := o17.ext hx
  replace o24 := o24.ext hx
  replace o27 := o27.ext hx
  replace o30 := o30.ext hx
  replace b47 := b47.ext hx
  replace o51 := o51.ext hx
  replace hx0 := hx0.trans hx
  clear hx
  go_wp2_with fail
  refine (markInt64S_any _ Ax49 d.1.length kx50 _ 1 _ (by omega) o51).mono ?_
  rintro e w78 ⟨rfl, o_, hw⟩
  replace b0 := b0.wr hw o51 (by decide)
  replace o4 := o4.other hw ne53.1
  replace o7 := o7.other hw ne54.1
  replace o10 := o10.other hw ne55.1
  replace o17 := o17.other hw ne56.1
  replace o24 := o24.other hw ne57.1
  replace o27 := o27.other hw ne58.1
  replace o30 := o30.other hw ne59.1
  replace b47 := b47.wr hw o51 (by decide)
  replace hx0 := hw.ext hx0 (o51.base le_o51)
  replace hra := hra0.below hx0
  replace hrb := hrb0.below hx0
  replace hrc := hrc0.below hx0
  clear o51 hw; have o51 := o_; clear o_
  go_wp2_with fail
  refine (heldInt64S_any Ax49 d.1.length kx50 1 _ (by omega) (by omega) o51.reads).mono ?_
  rintro e w79 ⟨rfl, hx⟩
  replace b0 := b0.ext hx
  replace hra := hra.below hx
  replace hrb := hrb.below hx
  replace hrc := hrc.below hx
  replace o4 := o4.ext hx
  replace o7 := o7.ext hx
  replace o10 := o10.ext hx
  replace o17 := o17.ext hx
  replace o24 := o24.ext hx
  replace o27 := o27.ext hx
  replace o30 := o30.ext hx
  replace b47 := b47.ext hx
  replace o51 := o51.ext hx
  replace hx0 := hx0.trans hx
  clear hx
  have zb0_0 := b0.cell 0 rfl
  have zb0_1 := b0.cell 1 rfl
  have zb0_2 := b0.cell 2 rfl
  have zb0_3 := b0.cell 3 rfl
  go_wp2_with fail
  clear zb0_0 zb0_1 zb0_2 zb0_3
  have le_o82 : w.heap.size ≤ w79.heap.size := hx0.size
  have le_o85 : w.heap.size ≤ w79.heap.size := hx0.size
  have le_o88 : w.heap.size ≤ w79.heap.size := hx0.size
  refine (toSparse_any r Aa na capa Ab nb capb Ac nc capc xsa xsb xsc _ hra hrb hrc (by omega) (by omega) (by omega)).mono ?_
  rintro e w92 ⟨Ax80, kx81, Ax83, kx84, Ax86, kx87, rfl, o82, o85, o88, ne89, ne90, ne91, hx⟩
  have ne93 := o4.ne o82
  have ne94 := o7.ne o82
  have ne95 := o10.ne o82
  have ne96 := o17.ne o82
  have ne97 := o24.ne o82
  have ne98 := o27.ne o82
  have ne99 := o30.ne o82
  have ne100 := o51.ne o82
  have hs_o82 := o82.small; simp only [ints_length] at hs_o82
  have ne101 := o4.ne o85
  have ne102 := o7.ne o85
  have ne103 := o10.ne o85
  have ne104 := o17.ne o85
  have ne105 := o24.ne o85
  have ne106 := o27.ne o85
  have ne107 := o30.ne o85
  have ne108 := o51.ne o85
  have hs_o85 := o85.small; simp only [ints_length] at hs_o85
  have ne109 := o4.ne o88
  have ne110 := o7.ne o88
  have ne111 := o10.ne o88
  have ne112 := o17.ne o88
  have ne113 := o24.ne o88
  have ne114 := o27.ne o88
  have ne115 := o30.ne o88
  have ne116 := o51.ne o88
  have hs_o88 := o88.small; simp only [flts_length] at hs_o88
  replace b0 := b0.ext hx
  replace hra := hra.below hx
  replace hrb := hrb.below hx
  replace hrc := hrc.below hx
  replace o4 := o4.ext hx
  replace o7 := o7.ext hx
  replace o10 := o10.ext hx
  replace o17 := o17.ext hx
  replace o24 := o24.ext hx
  replace o27 := o27.ext hx
  replace o30 := o30.ext hx
  replace b47 := b47.ext hx
  replace o51 := o51.ext hx
  replace hx0 := hx0.trans hx
  clear hx
  go_wp2_with fail
  have le_o119 : w.heap.size ≤ w92.heap.size := hx0.size
  refine (implSparseBreadth_any r Ax80 na kx81 Ax83 nb kx84 Ax86 nc kx87 xsa xsb xsc _ o82.reads o85.reads o88.reads).mono ?_
  rw [← Hd.out]
  rintro e w120 ⟨Ax117, kx118, rfl, o119, hx⟩
  have ne121 := o4.ne o119
  have ne122 := o7.ne o119
  have ne123 := o10.ne o119
  have ne124 := o17.ne o119
  have ne125 := o24.ne o119
  have ne126 := o27.ne o119
  have ne127 := o30.ne o119
  have ne128 := o51.ne o119
  have ne129 := o82.ne o119
  have ne130 := o85.ne o119
  have ne131 := o88.ne o119
  have hs_o119 := o119.small; simp only [ints_length] at hs_o119
  replace b0 := b0.ext hx
  replace hra := hra.below hx
  replace hrb := hrb.below hx
  replace hrc := hrc.below hx
  replace o4 := o4.ext hx
  replace o7 := o7.ext hx
  replace o10 := o10.ext hx
  replace o17 := o17.ext hx
  replace o24 := o24.ext hx
  replace o27 := o27.ext hx
  replace o30 := o30.ext hx
  replace b47 := b47.ext hx
  replace o51 := o51.ext hx
  replace o82 := o82.ext hx
  replace o85 := o85.ext hx
  replace o88 := o88.ext hx
  replace hx0 := hx0.trans hx
  clear hx
  go_wp2_with fail
  refine (eqInt64S_any Ax117 Ax15 d.1.length d.1.length kx118 kx16  d.1 d.1 _ o119.reads o17.reads).mono ?_
  rintro e w132 ⟨rfl, hx⟩
  replace b0 := b0.ext hx
  replace hra := hra.below hx
  replace hrb := hrb.below hx
  replace hrc := hrc.below hx
  replace o4 := o4.ext hx
  replace o7 := o7.ext hx
  replace o10 := o10.ext hx
  replace o17 := o17.ext hx
  replace o24 := o24.ext hx
  replace o27 := o27.ext hx
  replace o30 := o30.ext hx
  replace b47 := b47.ext hx
  replace o51 := o51.ext hx
  replace o82 := o82.ext hx
  replace o85 := o85.ext hx
  replace o88 := o88.ext hx
  replace o119 := o119.ext hx
  replace hx0 := hx0.trans hx
  clear hx
  go_wp2_with fail
  refine (heldInt64S_any Ax49 d.1.length kx50 1 _ (by omega) (by omega) o51.reads).mono ?_
  rintro e w133 ⟨rfl, hx⟩
  replace b0 := b0.ext hx
  replace hra := hra.below hx
  replace hrb := hrb.below hx
  replace hrc := hrc.below hx
  replace o4 := o4.ext hx
  replace o7 := o7.ext hx
  replace o10 := o10.ext hx
  replace o17 := o17.ext hx
  replace o24 := o24.ext hx
  replace o27 := o27.ext hx
  replace o30 := o30.ext hx
  replace b47 := b47.ext hx
  replace o51 := o51.ext hx
  replace o82 := o82.ext hx
  replace o85 := o85.ext hx
  replace o88 := o88.ext hx
  replace o119 := o119.ext hx
  replace hx0 := hx0.trans hx
  clear hx
  go_wp2_with fail
  go_ret
  exact ⟨rfl, hx0⟩

end Go.Proofs.Ytkifpligpobiaaa
