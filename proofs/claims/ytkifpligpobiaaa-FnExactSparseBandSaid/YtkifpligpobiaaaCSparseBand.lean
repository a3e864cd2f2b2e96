
import Derived.Test.YtkifpligpobiaaaI3

import Derived.Test.YtkifpligpobiaaaSB1
set_option linter.unusedVariables false
set_option linter.unusedSimpArgs false

namespace Go.Proofs.Ytkifpligpobiaaa

open Go.RowKit


set_option maxRecDepth 20000 in
set_option maxHeartbeats 8000000 in
theorem law_SparseBand (r : Int) (Aa : Option Addr) (na capa : Nat) (xsa : List Int) (Ab : Option Addr) (nb capb : Nat) (xsb : List Int) (Ac : Option Addr) (nc capc : Nat) (xsc : List Nat) (w : World) (hra : Rds w Aa na (ints xsa)) (hrb : Rds w Ab nb (ints xsb)) (hrc : Rds w Ac nc (flts xsc)) :
    Calls Try.prog 9 #[.agg #[.int .i64 r, .slice Aa na capa, .slice Ab nb capb, .slice Ac nc capc]] w fun e w' => e = .returned (.bool true) ∧ Ext w w' := by
  have hs_hra := hra.small
  have hs_hrb := hrb.small
  have hs_hrc := hrc.small
  obtain ⟨w0, hw0⟩ : ∃ w0 : World, w0 = (w.alloc (.cells #[.int .i64 r, .slice Aa na capa, .slice Ab nb capb, .slice Ac nc capc] 25)) := ⟨_, rfl⟩
  have b0 : Blk w0 (w.heap.size) #[.int .i64 r, .slice Aa na capa, .slice Ab nb capb, .slice Ac nc capc] 25 := by subst hw0; simpa using (Blk.new w #[.int .i64 r, .slice Aa na capa, .slice Ab nb capb, .slice Ac nc capc] 25)
  have hx0 : Ext w w0 := by subst hw0; exact (Ext.refl _).alloc _
  have Hw0 := Lib.hid hw0
  clear hw0
  have hra0 := hra; replace hra := hra.below hx0
  have hrb0 := hrb; replace hrb := hrb.below hx0
  have hrc0 := hrc; replace hrc := hrc.below hx0
  obtain ⟨d, hd⟩ : ∃ d : Int × Bool, d = bandD r xsa xsb xsc := ⟨_, rfl⟩
  have Hd := Lib.hid hd; clear hd
  by_cases hn0 : na + nb + nc ≤ 1048576
  rotate_left
  · have HS0 : Hid (szL (na + nb + nc) (1048576) = -1) := by show szL _ _ = -1; unfold szL; rw [if_pos (by omega)]
    go_enter Try.func9, Try.ntmps9
    have zb0_0 := b0.cell 0 rfl
    have zb0_1 := b0.cell 1 rfl
    have zb0_2 := b0.cell 2 rfl
    have zb0_3 := b0.cell 3 rfl
    go_wp2_with fail
    rw [← Hw0.out]
    clear zb0_0 zb0_1 zb0_2 zb0_3
    refine (szSparse_any r Aa na capa Ab nb capb Ac nc capc 1048576 (by omega) (by omega) (by omega) (by omega) _).mono ?_
    rw [HS0.out]
    rintro e w1 ⟨rfl, hx⟩
    replace b0 := b0.ext hx
    replace hra := hra.below hx
    replace hrb := hrb.below hx
    replace hrc := hrc.below hx
    replace hx0 := hx0.trans hx
    clear hx
    go_wp2_with fail
    go_ret
    exact ⟨rfl, hx0⟩
  have HS0 : Hid (szL (na + nb + nc) (1048576) = 1048576 - (na + nb + nc)) := by show szL _ _ = _; unfold szL; rw [if_neg (by omega)] <;> omega
  go_enter Try.func9, Try.ntmps9
  have zb0_0 := b0.cell 0 rfl
  have zb0_1 := b0.cell 1 rfl
  have zb0_2 := b0.cell 2 rfl
  have zb0_3 := b0.cell 3 rfl
  go_wp2_with fail
  rw [← Hw0.out]
  clear zb0_0 zb0_1 zb0_2 zb0_3
  refine (szSparse_any r Aa na capa Ab nb capb Ac nc capc 1048576 (by omega) (by omega) (by omega) (by omega) _).mono ?_
  rw [HS0.out]
  rintro e w1 ⟨rfl, hx⟩
  replace b0 := b0.ext hx
  replace hra := hra.below hx
  replace hrb := hrb.below hx
  replace hrc := hrc.below hx
  replace hx0 := hx0.trans hx
  clear hx
  have zb0_0 := b0.cell 0 rfl
  have zb0_1 := b0.cell 1 rfl
  have zb0_2 := b0.cell 2 rfl
  have zb0_3 := b0.cell 3 rfl
  go_wp2_with fail
  clear zb0_0 zb0_1 zb0_2 zb0_3
  have le_o4 : w.heap.size ≤ w1.heap.size := hx0.size
  have le_o7 : w.heap.size ≤ w1.heap.size := hx0.size
  have le_o10 : w.heap.size ≤ w1.heap.size := hx0.size
  refine (toSparse_any r Aa na capa Ab nb capb Ac nc capc xsa xsb xsc _ hra hrb hrc (by omega) (by omega) (by omega)).mono ?_
  rintro e w14 ⟨Ax2, kx3, Ax5, kx6, Ax8, kx9, rfl, o4, o7, o10, ne11, ne12, ne13, hx⟩
  have hs_o4 := o4.small; simp only [ints_length] at hs_o4
  have hs_o7 := o7.small; simp only [ints_length] at hs_o7
  have hs_o10 := o10.small; simp only [flts_length] at hs_o10
  replace b0 := b0.ext hx
  replace hra := hra.below hx
  replace hrb := hrb.below hx
  replace hrc := hrc.below hx
  replace hx0 := hx0.trans hx
  clear hx
  go_wp2_with fail
  refine (specSparseBand_any r Ax2 na kx3 Ax5 nb kx6 Ax8 nc kx9 xsa xsb xsc _ o4.reads o7.reads o10.reads).mono ?_
  rw [← Hd.out]
  rintro e w15 ⟨rfl, hx⟩
  replace b0 := b0.ext hx
  replace hra := hra.below hx
  replace hrb := hrb.below hx
  replace hrc := hrc.below hx
  replace o4 := o4.ext hx
  replace o7 := o7.ext hx
  replace o10 := o10.ext hx
  replace hx0 := hx0.trans hx
  clear hx
  have zb0_0 := b0.cell 0 rfl
  have zb0_1 := b0.cell 1 rfl
  have zb0_2 := b0.cell 2 rfl
  have zb0_3 := b0.cell 3 rfl
  go_wp2_with fail
  clear zb0_0 zb0_1 zb0_2 zb0_3
  have le_o18 : w.heap.size ≤ w15.heap.size := hx0.size
  have le_o21 : w.heap.size ≤ w15.heap.size := hx0.size
  have le_o24 : w.heap.size ≤ w15.heap.size := hx0.size
  refine (toSparse_any r Aa na capa Ab nb capb Ac nc capc xsa xsb xsc _ hra hrb hrc (by omega) (by omega) (by omega)).mono ?_
  rintro e w28 ⟨Ax16, kx17, Ax19, kx20, Ax22, kx23, rfl, o18, o21, o24, ne25, ne26, ne27, hx⟩
  have ne29 := o4.ne o18
  have ne30 := o7.ne o18
  have ne31 := o10.ne o18
  have hs_o18 := o18.small; simp only [ints_length] at hs_o18
  have ne32 := o4.ne o21
  have ne33 := o7.ne o21
  have ne34 := o10.ne o21
  have hs_o21 := o21.small; simp only [ints_length] at hs_o21
  have ne35 := o4.ne o24
  have ne36 := o7.ne o24
  have ne37 := o10.ne o24
  have hs_o24 := o24.small; simp only [flts_length] at hs_o24
  replace b0 := b0.ext hx
  replace hra := hra.below hx
  replace hrb := hrb.below hx
  replace hrc := hrc.below hx
  replace o4 := o4.ext hx
  replace o7 := o7.ext hx
  replace o10 := o10.ext hx
  replace hx0 := hx0.trans hx
  clear hx
  go_wp2_with fail
  obtain ⟨w39, hw⟩ : ∃ v : World, v = (w28.alloc (.cells #[.int .i64 r, .slice Ax16 na kx17, .slice Ax19 nb kx20, .slice Ax22 nc kx23] 27)) := ⟨_, rfl⟩
  rw [← hw]
  have hx : Ext w28 w39 := by subst hw; exact (Ext.refl _).alloc _
  have b38 : Blk w39 w28.heap.size #[.int .i64 r, .slice Ax16 na kx17, .slice Ax19 nb kx20, .slice Ax22 nc kx23] 27 := by subst hw; exact Blk.new _ _ _
  clear hw
  replace b0 := b0.ext hx
  replace hra := hra.below hx
  replace hrb := hrb.below hx
  replace hrc := hrc.below hx
  replace o4 := o4.ext hx
  replace o7 := o7.ext hx
  replace o10 := o10.ext hx
  replace o18 := o18.ext hx
  replace o21 := o21.ext hx
  replace o24 := o24.ext hx
  replace hx0 := hx0.trans hx
  clear hx
  refine (implSparseBand_any r Ax16 na kx17 Ax19 nb kx20 Ax22 nc kx23 xsa xsb xsc _ o18.reads o21.reads o24.reads).mono ?_
  rw [← Hd.out]
  rintro e w40 ⟨rfl, hx⟩
  replace b0 := b0.ext hx
  replace hra := hra.below hx
  replace hrb := hrb.below hx
  replace hrc := hrc.below hx
  replace o4 := o4.ext hx
  replace o7 := o7.ext hx
  replace o10 := o10.ext hx
  replace o18 := o18.ext hx
  replace o21 := o21.ext hx
  replace o24 := o24.ext hx
  replace b38 := b38.ext hx
  replace hx0 := hx0.trans hx
  clear hx
  go_wp2_with fail
  have zb38_0 := b38.cell 0 rfl
  have zb38_1 := b38.cell 1 rfl
  have zb38_2 := b38.cell 2 rfl
  have zb38_3 := b38.cell 3 rfl
  have zb0_0 := b0.cell 0 rfl
  have zb0_1 := b0.cell 1 rfl
  have zb0_2 := b0.cell 2 rfl
  have zb0_3 := b0.cell 3 rfl
  refine wp_region_T (cs := []) [0, 1, 2, 3, 4] [] [2, 3] [(3, [2])] (fun i__ v => match i__ with | 2 => ∃ (Ax41 : Option Addr) (kx42 : Nat) (Ax44 : Option Addr) (kx45 : Nat) (Ax47 : Option Addr) (kx48 : Nat), v = (.agg #[.int .i64 r, .slice Ax41 na kx42, .slice Ax44 nb kx45, .slice Ax47 nc kx48]) | 3 => v = (.bool true) | _ => False) (fun i__ v w' => match i__ with | 2 => OwnF w' w40.heap.size 2 v [1] (ints xsa) ∧ OwnF w' w40.heap.size 2 v [2] (ints xsb) ∧ OwnF w' w40.heap.size 43 v [3] (flts xsc) | _ => True) (by kernel_rfl) (by kernel_rfl) (by intro i v w' w2 h hx; revert h; (try dsimp only); split <;> intro h <;> first | trivial | exact RdsF.ext h hx | exact OwnF.ext h hx | exact BlkF.ext h hx | exact ⟨RdsF.ext h.1 hx, RdsF.ext h.2 hx⟩ | exact ⟨OwnF.ext h.1 hx, OwnF.ext h.2 hx⟩ | exact ⟨RdsF.ext h.1 hx, RdsF.ext h.2.1 hx, RdsF.ext h.2.2 hx⟩ | exact ⟨OwnF.ext h.1 hx, OwnF.ext h.2.1 hx, OwnF.ext h.2.2 hx⟩) ?_
  refine' wpT_det (o := ⟨some 35, Op.load 27 (Operand.tmp 6), 27, "exact.go:5083", #[], none⟩) rfl (by rfl) (by rfl) (fun w' hw' => ?_) ?_; rotate_left
  · have zb38_0_ := Ext.cell hw' zb38_0; have zb38_1_ := Ext.cell hw' zb38_1; have zb38_2_ := Ext.cell hw' zb38_2; have zb38_3_ := Ext.cell hw' zb38_3; have zb0_0_ := Ext.cell hw' zb0_0; have zb0_1_ := Ext.cell hw' zb0_1; have zb0_2_ := Ext.cell hw' zb0_2; have zb0_3_ := Ext.cell hw' zb0_3; go_simp <;> first | rfl | exact ⟨rfl, rfl⟩
  simp only [Act.put, List.setIfInBounds_toArray, List.set_cons_zero, List.set_cons_succ]
  refine' wpT_det (o := ⟨some 36, Op.load 25 (Operand.tmp 1), 25, "exact.go:5083", #[], none⟩) rfl (by rfl) (by rfl) (fun w' hw' => ?_) ?_; rotate_left
  · have zb38_0_ := Ext.cell hw' zb38_0; have zb38_1_ := Ext.cell hw' zb38_1; have zb38_2_ := Ext.cell hw' zb38_2; have zb38_3_ := Ext.cell hw' zb38_3; have zb0_0_ := Ext.cell hw' zb0_0; have zb0_1_ := Ext.cell hw' zb0_1; have zb0_2_ := Ext.cell hw' zb0_2; have zb0_3_ := Ext.cell hw' zb0_3; go_simp <;> first | rfl | exact ⟨rfl, rfl⟩
  simp only [Act.put, List.setIfInBounds_toArray, List.set_cons_zero, List.set_cons_succ]
  refine wpT_nd (o := ⟨some 37, Op.call { callee := Callee.value (Operand.func 22), args := #[Operand.tmp 36], argTypes := #[25] }, 27, "exact.go:5083", #[{ on := 1, ground := Ground.data }], none⟩) rfl (by rfl) (by rfl) (fun w' hw' hF R__ hGo => ?_) ⟨_, none, 0, none, 0, none, 0, rfl⟩ ?_
  · go_simp
    refine gives_enter rfl ?_
    refine (toSparse_any r Aa na capa Ab nb capb Ac nc capc xsa xsb xsc _ (hra.below hw'.undrew) (hrb.below hw'.undrew) (hrc.below hw'.undrew) (by omega) (by omega) (by omega)).mono ?_
    rintro e w2 ⟨Ax41, kx42, Ax44, kx45, Ax47, kx48, rfl, o43, o46, o49, ne50, ne51, ne52, hx⟩
    exact ⟨_, rfl, hGo _ _ hx ⟨_, _, _, _, _, _, rfl⟩ ⟨OwnF.of (o43.base hw'.size) rfl, OwnF.of (o46.base hw'.size) rfl, OwnF.of (o49.base hw'.size) rfl⟩⟩
  rintro _ ⟨Ax41, kx42, Ax44, kx45, Ax47, kx48, rfl⟩
  simp only [Act.put, List.setIfInBounds_toArray, List.set_cons_zero, List.set_cons_succ]
  refine wpT_nd (o := ⟨some 38, Op.call { callee := Callee.value (Operand.func 24), args := #[Operand.tmp 35, Operand.tmp 37], argTypes := #[27, 27] }, 4, "exact.go:5083", #[{ on := 0, ground := Ground.data }, { on := 2, ground := Ground.data }, { on := 2, ground := Ground.chain }], none⟩) rfl (by rfl) (by rfl) (fun w' hw' hF R__ hGo => ?_) ⟨_, rfl⟩ ?_
  · go_simp
    refine gives_enter rfl ?_
    refine (eqSparse_any r r Ax16 Ax19 Ax22 Ax41 Ax44 Ax47 na nb nc na nb nc kx17 kx20 kx23 kx42 kx45 kx48  xsa xsb xsc xsa xsb xsc _ (o18.reads.below hw'.undrew) (o21.reads.below hw'.undrew) (o24.reads.below hw'.undrew) ((hF 2 (by simp [uses]) _ rfl).1 _ _ _ rfl).reads ((hF 2 (by simp [uses]) _ rfl).2.1 _ _ _ rfl).reads ((hF 2 (by simp [uses]) _ rfl).2.2 _ _ _ rfl).reads ⟨rfl, rfl, rfl, rfl⟩).mono ?_
    rintro e w2 ⟨rfl, hx⟩
    exact ⟨_, rfl, hGo _ _ hx rfl trivial⟩
  intro v hv
  obtain rfl : v = (.bool true) := hv
  simp only [Act.put, List.setIfInBounds_toArray, List.set_cons_zero, List.set_cons_succ]
  refine' wpT_det (o := ⟨some 39, Op.unOp UnOp.not 4 (Operand.tmp 38), 4, "exact.go:5083", #[{ on := 3, ground := Ground.data }], none⟩) rfl (by rfl) (by rfl) (fun w' hw' => ?_) ?_; rotate_left
  · go_simp <;> first | rfl | exact ⟨rfl, rfl⟩
  simp only [Act.put, List.setIfInBounds_toArray, List.set_cons_zero, List.set_cons_succ]
  refine wpT_nil (fun w53 hw' hF => ?_)
  refine wpList_nil ?_
  clear zb38_0 zb38_1 zb38_2 zb38_3 zb0_0 zb0_1 zb0_2 zb0_3
  have hx := hw'.undrew; clear hw'
  clear hF
  replace b0 := b0.ext hx
  replace hra := hra.below hx
  replace hrb := hrb.below hx
  replace hrc := hrc.below hx
  replace o4 := o4.ext hx
  replace o7 := o7.ext hx
  replace o10 := o10.ext hx
  replace o18 := o18.ext hx
  replace o21 := o21.ext hx
  replace o24 := o24.ext hx
  replace b38 := b38.ext hx
  replace hx0 := hx0.trans hx
  clear hx
  go_wp2_with fail
  go_ret
  exact ⟨rfl, hx0⟩

end Go.Proofs.Ytkifpligpobiaaa
