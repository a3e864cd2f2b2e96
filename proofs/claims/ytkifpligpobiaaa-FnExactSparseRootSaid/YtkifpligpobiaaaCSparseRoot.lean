
import Derived.Test.YtkifpligpobiaaaN9
set_option linter.unusedVariables false
set_option linter.unusedSimpArgs false

namespace Go.Proofs.Ytkifpligpobiaaa

open Go.RowKit


set_option maxRecDepth 20000 in
set_option maxHeartbeats 8000000 in
theorem law_SparseRoot (r : Int) (Aa : Option Addr) (na capa : Nat) (xsa : List Int) (Ab : Option Addr) (nb capb : Nat) (xsb : List Int) (Ac : Option Addr) (nc capc : Nat) (xsc : List Nat) (w : World) (hra : Rds w Aa na (ints xsa)) (hrb : Rds w Ab nb (ints xsb)) (hrc : Rds w Ac nc (flts xsc)) :
    Calls Try.prog 3 #[.agg #[.int .i64 r, .slice Aa na capa, .slice Ab nb capb, .slice Ac nc capc]] w fun e w' => e = .returned (.bool true) ∧ Ext w w' := by
  have hs_hra := hra.small
  have hs_hrb := hrb.small
  have hs_hrc := hrc.small
  obtain ⟨w0, hw0⟩ : ∃ w0 : World, w0 = (w.alloc (.cells #[.int .i64 r, .slice Aa na capa, .slice Ab nb capb, .slice Ac nc capc] 25)) := ⟨_, rfl⟩
  have b0 : Blk w0 (w.heap.size) #[.int .i64 r, .slice Aa na capa, .slice Ab nb capb, .slice Ac nc capc] 25 := by subst hw0; simpa using (Blk.new w #[.int .i64 r, .slice Aa na capa, .slice Ab nb capb, .slice Ac nc capc] 25)
  have hx0 : Ext w w0 := by subst hw0; exact (Ext.refl _).alloc _
  have Hw0 := Lib.hid hw0
  clear hw0
  have hra0 := hra; replace hra := hra.below hx0
  have hrb0 := hrb; replace hrb := hrb.below hx0
  have hrc0 := hrc; replace hrc := hrc.below hx0
  obtain ⟨d, hd⟩ : ∃ d : SD, d = rootD r xsa xsb xsc := ⟨_, rfl⟩
  have Hd := Lib.hid hd; clear hd
  by_cases hn0 : na + nb + nc ≤ 1048576
  rotate_left
  · have HS0 : Hid (szL (na + nb + nc) (1048576) = -1) := by show szL _ _ = -1; unfold szL; rw [if_pos (by omega)]
    go_enter Try.func3, Try.ntmps3
    have zb0_0 := b0.cell 0 rfl
    have zb0_1 := b0.cell 1 rfl
    have zb0_2 := b0.cell 2 rfl
    have zb0_3 := b0.cell 3 rfl
    go_wp2_with fail
    rw [← Hw0.out]
    clear zb0_0 zb0_1 zb0_2 zb0_3
    refine (szSparse_any r Aa na capa Ab nb capb Ac nc capc 1048576 (by omega) (by omega) (by omega) (by omega) _).mono ?_
    rw [HS0.out]
    rintro e w1 ⟨rfl, hx⟩
    replace b0 := b0.ext hx
    replace hra := hra.below hx
    replace hrb := hrb.below hx
    replace hrc := hrc.below hx
    replace hx0 := hx0.trans hx
    clear hx
    go_wp2_with fail
    go_ret
    exact ⟨rfl, hx0⟩
  have HS0 : Hid (szL (na + nb + nc) (1048576) = 1048576 - (na + nb + nc)) := by show szL _ _ = _; unfold szL; rw [if_neg (by omega)] <;> omega
  go_enter Try.func3, Try.ntmps3
  have zb0_0 := b0.cell 0 rfl
  have zb0_1 := b0.cell 1 rfl
  have zb0_2 := b0.cell 2 rfl
  have zb0_3 := b0.cell 3 rfl
  go_wp2_with fail
  rw [← Hw0.out]
  clear zb0_0 zb0_1 zb0_2 zb0_3
  refine (szSparse_any r Aa na capa Ab nb capb Ac nc capc 1048576 (by omega) (by omega) (by omega) (by omega) _).mono ?_
  rw [HS0.out]
  rintro e w1 ⟨rfl, hx⟩
  replace b0 := b0.ext hx
  replace hra := hra.below hx
  replace hrb := hrb.below hx
  replace hrc := hrc.below hx
  replace hx0 := hx0.trans hx
  clear hx
  have zb0_0 := b0.cell 0 rfl
  have zb0_1 := b0.cell 1 rfl
  have zb0_2 := b0.cell 2 rfl
  have zb0_3 := b0.cell 3 rfl
  go_wp2_with fail
  clear zb0_0 zb0_1 zb0_2 zb0_3
  have le_o4 : w.heap.size ≤ w1.heap.size := hx0.size
  have le_o7 : w.heap.size ≤ w1.heap.size := hx0.size
  have le_o10 : w.heap.size ≤ w1.heap.size := hx0.size
  refine (toSparse_any r Aa na capa Ab nb capb Ac nc capc xsa xsb xsc _ hra hrb hrc (by omega) (by omega) (by omega)).mono ?_
  rintro e w14 ⟨Ax2, kx3, Ax5, kx6, Ax8, kx9, rfl, o4, o7, o10, ne11, ne12, ne13, hx⟩
  have hs_o4 := o4.small; simp only [ints_length] at hs_o4
  have hs_o7 := o7.small; simp only [ints_length] at hs_o7
  have hs_o10 := o10.small; simp only [flts_length] at hs_o10
  replace b0 := b0.ext hx
  replace hra := hra.below hx
  replace hrb := hrb.below hx
  replace hrc := hrc.below hx
  replace hx0 := hx0.trans hx
  clear hx
  go_wp2_with fail
  have le_o17 : w.heap.size ≤ w14.heap.size := hx0.size
  have le_o20 : w.heap.size ≤ w14.heap.size := hx0.size
  have le_o23 : w.heap.size ≤ w14.heap.size := hx0.size
  refine (specSparseRoot_any r Ax2 na kx3 Ax5 nb kx6 Ax8 nc kx9 xsa xsb xsc _ o4.reads o7.reads o10.reads).mono ?_
  rw [← Hd.out]
  rintro e w27 ⟨Ax15, kx16, Ax18, kx19, Ax21, kx22, rfl, o17, o20, o23, ne24, ne25, ne26, hx⟩
  have ne28 := o4.ne o17
  have ne29 := o7.ne o17
  have ne30 := o10.ne o17
  have hs_o17 := o17.small; simp only [ints_length] at hs_o17
  have ne31 := o4.ne o20
  have ne32 := o7.ne o20
  have ne33 := o10.ne o20
  have hs_o20 := o20.small; simp only [ints_length] at hs_o20
  have ne34 := o4.ne o23
  have ne35 := o7.ne o23
  have ne36 := o10.ne o23
  have hs_o23 := o23.small; simp only [flts_length] at hs_o23
  replace b0 := b0.ext hx
  replace hra := hra.below hx
  replace hrb := hrb.below hx
  replace hrc := hrc.below hx
  replace o4 := o4.ext hx
  replace o7 := o7.ext hx
  replace o10 := o10.ext hx
  replace hx0 := hx0.trans hx
  clear hx
  have zb0_0 := b0.cell 0 rfl
  have zb0_1 := b0.cell 1 rfl
  have zb0_2 := b0.cell 2 rfl
  have zb0_3 := b0.cell 3 rfl
  have qb0 := b0.lt
  go_wp2_with fail
  obtain ⟨w38, hw⟩ : ∃ v : World, v = (w27.alloc (.cells #[.int .i64 d.sd, .slice Ax15 d.st.length kx16, .slice Ax18 d.co.length kx19, .slice Ax21 d.va.length kx22] 27)) := ⟨_, rfl⟩
  rw [← hw]
  have hx : Ext w27 w38 := by subst hw; exact (Ext.refl _).alloc _
  have b37 : Blk w38 w27.heap.size #[.int .i64 d.sd, .slice Ax15 d.st.length kx16, .slice Ax18 d.co.length kx19, .slice Ax21 d.va.length kx22] 27 := by subst hw; exact Blk.new _ _ _
  clear hw
  replace b0 := b0.ext hx
  replace hra := hra.below hx
  replace hrb := hrb.below hx
  replace hrc := hrc.below hx
  replace o4 := o4.ext hx
  replace o7 := o7.ext hx
  replace o10 := o10.ext hx
  replace o17 := o17.ext hx
  replace o20 := o20.ext hx
  replace o23 := o23.ext hx
  replace hx0 := hx0.trans hx
  clear hx
  clear zb0_0 zb0_1 zb0_2 zb0_3 qb0
  have le_o41 : w.heap.size ≤ w38.heap.size := hx0.size
  have le_o44 : w.heap.size ≤ w38.heap.size := hx0.size
  have le_o47 : w.heap.size ≤ w38.heap.size := hx0.size
  refine (toSparse_any r Aa na capa Ab nb capb Ac nc capc xsa xsb xsc _ hra hrb hrc (by omega) (by omega) (by omega)).mono ?_
  rintro e w51 ⟨Ax39, kx40, Ax42, kx43, Ax45, kx46, rfl, o41, o44, o47, ne48, ne49, ne50, hx⟩
  have ne52 := o4.ne o41
  have ne53 := o7.ne o41
  have ne54 := o10.ne o41
  have ne55 := o17.ne o41
  have ne56 := o20.ne o41
  have ne57 := o23.ne o41
  have hs_o41 := o41.small; simp only [ints_length] at hs_o41
  have ne58 := o4.ne o44
  have ne59 := o7.ne o44
  have ne60 := o10.ne o44
  have ne61 := o17.ne o44
  have ne62 := o20.ne o44
  have ne63 := o23.ne o44
  have hs_o44 := o44.small; simp only [ints_length] at hs_o44
  have ne64 := o4.ne o47
  have ne65 := o7.ne o47
  have ne66 := o10.ne o47
  have ne67 := o17.ne o47
  have ne68 := o20.ne o47
  have ne69 := o23.ne o47
  have hs_o47 := o47.small; simp only [flts_length] at hs_o47
  replace b0 := b0.ext hx
  replace hra := hra.below hx
  replace hrb := hrb.below hx
  replace hrc := hrc.below hx
  replace o4 := o4.ext hx
  replace o7 := o7.ext hx
  replace o10 := o10.ext hx
  replace o17 := o17.ext hx
  replace o20 := o20.ext hx
  replace o23 := o23.ext hx
  replace b37 := b37.ext hx
  replace hx0 := hx0.trans hx
  clear hx
  go_wp2_with fail
  obtain ⟨w71, hw⟩ : ∃ v : World, v = (w51.alloc (.cells #[.int .i64 r, .slice Ax39 na kx40, .slice Ax42 nb kx43, .slice Ax45 nc kx46] 27)) := ⟨_, rfl⟩
  rw [← hw]
  have hx : Ext w51 w71 := by subst hw; exact (Ext.refl _).alloc _
  have b70 : Blk w71 w51.heap.size #[.int .i64 r, .slice Ax39 na kx40, .slice Ax42 nb kx43, .slice Ax45 nc kx46] 27 := by subst hw; exact Blk.new _ _ _
  clear hw
  replace b0 := b0.ext hx
  replace hra := hra.below hx
  replace hrb := hrb.below hx
  replace hrc := hrc.below hx
  replace o4 := o4.ext hx
  replace o7 := o7.ext hx
  replace o10 := o10.ext hx
  replace o17 := o17.ext hx
  replace o20 := o20.ext hx
  replace o23 := o23.ext hx
  replace b37 := b37.ext hx
  replace o41 := o41.ext hx
  replace o44 := o44.ext hx
  replace o47 := o47.ext hx
  replace hx0 := hx0.trans hx
  clear hx
  have le_o74 : w.heap.size ≤ w71.heap.size := hx0.size
  have le_o77 : w.heap.size ≤ w71.heap.size := hx0.size
  have le_o80 : w.heap.size ≤ w71.heap.size := hx0.size
  refine (implSparseRoot_any r Ax39 na kx40 Ax42 nb kx43 Ax45 nc kx46 xsa xsb xsc _ o41.reads o44.reads o47.reads).mono ?_
  rw [← Hd.out]
  rintro e w84 ⟨Ax72, kx73, Ax75, kx76, Ax78, kx79, rfl, o74, o77, o80, ne81, ne82, ne83, hx⟩
  have ne85 := o4.ne o74
  have ne86 := o7.ne o74
  have ne87 := o10.ne o74
  have ne88 := o17.ne o74
  have ne89 := o20.ne o74
  have ne90 := o23.ne o74
  have ne91 := o41.ne o74
  have ne92 := o44.ne o74
  have ne93 := o47.ne o74
  have hs_o74 := o74.small; simp only [ints_length] at hs_o74
  have ne94 := o4.ne o77
  have ne95 := o7.ne o77
  have ne96 := o10.ne o77
  have ne97 := o17.ne o77
  have ne98 := o20.ne o77
  have ne99 := o23.ne o77
  have ne100 := o41.ne o77
  have ne101 := o44.ne o77
  have ne102 := o47.ne o77
  have hs_o77 := o77.small; simp only [ints_length] at hs_o77
  have ne103 := o4.ne o80
  have ne104 := o7.ne o80
  have ne105 := o10.ne o80
  have ne106 := o17.ne o80
  have ne107 := o20.ne o80
  have ne108 := o23.ne o80
  have ne109 := o41.ne o80
  have ne110 := o44.ne o80
  have ne111 := o47.ne o80
  have hs_o80 := o80.small; simp only [flts_length] at hs_o80
  replace b0 := b0.ext hx
  replace hra := hra.below hx
  replace hrb := hrb.below hx
  replace hrc := hrc.below hx
  replace o4 := o4.ext hx
  replace o7 := o7.ext hx
  replace o10 := o10.ext hx
  replace o17 := o17.ext hx
  replace o20 := o20.ext hx
  replace o23 := o23.ext hx
  replace b37 := b37.ext hx
  replace o41 := o41.ext hx
  replace o44 := o44.ext hx
  replace o47 := o47.ext hx
  replace b70 := b70.ext hx
  replace hx0 := hx0.trans hx
  clear hx
  have zb37_0 := b37.cell 0 rfl
  have zb37_1 := b37.cell 1 rfl
  have zb37_2 := b37.cell 2 rfl
  have zb37_3 := b37.cell 3 rfl
  have qb37 := b37.lt
  go_wp2_with fail
  obtain ⟨w113, hw⟩ : ∃ v : World, v = (w84.alloc (.cells #[.int .i64 d.sd, .slice Ax72 d.st.length kx73, .slice Ax75 d.co.length kx76, .slice Ax78 d.va.length kx79] 27)) := ⟨_, rfl⟩
  rw [← hw]
  have hx : Ext w84 w113 := by subst hw; exact (Ext.refl _).alloc _
  have b112 : Blk w113 w84.heap.size #[.int .i64 d.sd, .slice Ax72 d.st.length kx73, .slice Ax75 d.co.length kx76, .slice Ax78 d.va.length kx79] 27 := by subst hw; exact Blk.new _ _ _
  clear hw
  replace b0 := b0.ext hx
  replace hra := hra.below hx
  replace hrb := hrb.below hx
  replace hrc := hrc.below hx
  replace o4 := o4.ext hx
  replace o7 := o7.ext hx
  replace o10 := o10.ext hx
  replace o17 := o17.ext hx
  replace o20 := o20.ext hx
  replace o23 := o23.ext hx
  replace b37 := b37.ext hx
  replace o41 := o41.ext hx
  replace o44 := o44.ext hx
  replace o47 := o47.ext hx
  replace b70 := b70.ext hx
  replace o74 := o74.ext hx
  replace o77 := o77.ext hx
  replace o80 := o80.ext hx
  replace hx0 := hx0.trans hx
  clear hx
  clear zb37_0 zb37_1 zb37_2 zb37_3 qb37
  refine (eqSparse_any d.sd d.sd Ax72 Ax75 Ax78 Ax15 Ax18 Ax21 d.st.length d.co.length d.va.length d.st.length d.co.length d.va.length kx73 kx76 kx79 kx16 kx19 kx22  d.st d.co d.va d.st d.co d.va _ o74.reads o77.reads o80.reads o17.reads o20.reads o23.reads ⟨rfl, rfl, rfl, rfl⟩).mono ?_
  rintro e w114 ⟨rfl, hx⟩
  replace b0 := b0.ext hx
  replace hra := hra.below hx
  replace hrb := hrb.below hx
  replace hrc := hrc.below hx
  replace o4 := o4.ext hx
  replace o7 := o7.ext hx
  replace o10 := o10.ext hx
  replace o17 := o17.ext hx
  replace o20 := o20.ext hx
  replace o23 := o23.ext hx
  replace b37 := b37.ext hx
  replace o41 := o41.ext hx
  replace o44 := o44.ext hx
  replace o47 := o47.ext hx
  replace b70 := b70.ext hx
  replace o74 := o74.ext hx
  replace o77 := o77.ext hx
  replace o80 := o80.ext hx
  replace b112 := b112.ext hx
  replace hx0 := hx0.trans hx
  clear hx
  go_wp2_with fail
  have zb70_0 := b70.cell 0 rfl
  have zb70_1 := b70.cell 1 rfl
  have zb70_2 := b70.cell 2 rfl
  have zb70_3 := b70.cell 3 rfl
  have zb0_0 := b0.cell 0 rfl
  have zb0_1 := b0.cell 1 rfl
  have zb0_2 := b0.cell 2 rfl
  have zb0_3 := b0.cell 3 rfl
  refine wp_region_T (cs := []) [0, 1, 2, 3, 4] [] [2, 3] [(3, [2])] (fun i__ v => match i__ with | 2 => ∃ (Ax115 : Option Addr) (kx116 : Nat) (Ax118 : Option Addr) (kx119 : Nat) (Ax121 : Option Addr) (kx122 : Nat), v = (.agg #[.int .i64 r, .slice Ax115 na kx116, .slice Ax118 nb kx119, .slice Ax121 nc kx122]) | 3 => v = (.bool true) | _ => False) (fun i__ v w' => match i__ with | 2 => OwnF w' w114.heap.size 2 v [1] (ints xsa) ∧ OwnF w' w114.heap.size 2 v [2] (ints xsb) ∧ OwnF w' w114.heap.size 43 v [3] (flts xsc) | _ => True) (by kernel_rfl) (by kernel_rfl) (by intro i v w' w2 h hx; revert h; (try dsimp only); split <;> intro h <;> first | trivial | exact RdsF.ext h hx | exact OwnF.ext h hx | exact BlkF.ext h hx | exact ⟨RdsF.ext h.1 hx, RdsF.ext h.2 hx⟩ | exact ⟨OwnF.ext h.1 hx, OwnF.ext h.2 hx⟩ | exact ⟨RdsF.ext h.1 hx, RdsF.ext h.2.1 hx, RdsF.ext h.2.2 hx⟩ | exact ⟨OwnF.ext h.1 hx, OwnF.ext h.2.1 hx, OwnF.ext h.2.2 hx⟩) ?_
  refine' wpT_det (o := ⟨some 41, Op.load 27 (Operand.tmp 6), 27, "exact.go:5386", #[], none⟩) rfl (by rfl) (by rfl) (fun w' hw' => ?_) ?_; rotate_left
  · have zb70_0_ := Ext.cell hw' zb70_0; have zb70_1_ := Ext.cell hw' zb70_1; have zb70_2_ := Ext.cell hw' zb70_2; have zb70_3_ := Ext.cell hw' zb70_3; have zb0_0_ := Ext.cell hw' zb0_0; have zb0_1_ := Ext.cell hw' zb0_1; have zb0_2_ := Ext.cell hw' zb0_2; have zb0_3_ := Ext.cell hw' zb0_3; go_simp <;> first | rfl | exact ⟨rfl, rfl⟩
  simp only [Act.put, List.setIfInBounds_toArray, List.set_cons_zero, List.set_cons_succ]
  refine' wpT_det (o := ⟨some 42, Op.load 25 (Operand.tmp 1), 25, "exact.go:5386", #[], none⟩) rfl (by rfl) (by rfl) (fun w' hw' => ?_) ?_; rotate_left
  · have zb70_0_ := Ext.cell hw' zb70_0; have zb70_1_ := Ext.cell hw' zb70_1; have zb70_2_ := Ext.cell hw' zb70_2; have zb70_3_ := Ext.cell hw' zb70_3; have zb0_0_ := Ext.cell hw' zb0_0; have zb0_1_ := Ext.cell hw' zb0_1; have zb0_2_ := Ext.cell hw' zb0_2; have zb0_3_ := Ext.cell hw' zb0_3; go_simp <;> first | rfl | exact ⟨rfl, rfl⟩
  simp only [Act.put, List.setIfInBounds_toArray, List.set_cons_zero, List.set_cons_succ]
  refine wpT_nd (o := ⟨some 43, Op.call { callee := Callee.value (Operand.func 22), args := #[Operand.tmp 42], argTypes := #[25] }, 27, "exact.go:5386", #[{ on := 1, ground := Ground.data }], none⟩) rfl (by rfl) (by rfl) (fun w' hw' hF R__ hGo => ?_) ⟨_, none, 0, none, 0, none, 0, rfl⟩ ?_
  · go_simp
    refine gives_enter rfl ?_
    refine (toSparse_any r Aa na capa Ab nb capb Ac nc capc xsa xsb xsc _ (hra.below hw'.undrew) (hrb.below hw'.undrew) (hrc.below hw'.undrew) (by omega) (by omega) (by omega)).mono ?_
    rintro e w2 ⟨Ax115, kx116, Ax118, kx119, Ax121, kx122, rfl, o117, o120, o123, ne124, ne125, ne126, hx⟩
    exact ⟨_, rfl, hGo _ _ hx ⟨_, _, _, _, _, _, rfl⟩ ⟨OwnF.of (o117.base hw'.size) rfl, OwnF.of (o120.base hw'.size) rfl, OwnF.of (o123.base hw'.size) rfl⟩⟩
  rintro _ ⟨Ax115, kx116, Ax118, kx119, Ax121, kx122, rfl⟩
  simp only [Act.put, List.setIfInBounds_toArray, List.set_cons_zero, List.set_cons_succ]
  refine wpT_nd (o := ⟨some 44, Op.call { callee := Callee.value (Operand.func 24), args := #[Operand.tmp 41, Operand.tmp 43], argTypes := #[27, 27] }, 4, "exact.go:5386", #[{ on := 0, ground := Ground.data }, { on := 2, ground := Ground.data }, { on := 2, ground := Ground.chain }], none⟩) rfl (by rfl) (by rfl) (fun w' hw' hF R__ hGo => ?_) ⟨_, rfl⟩ ?_
  · go_simp
    refine gives_enter rfl ?_
    refine (eqSparse_any r r Ax39 Ax42 Ax45 Ax115 Ax118 Ax121 na nb nc na nb nc kx40 kx43 kx46 kx116 kx119 kx122  xsa xsb xsc xsa xsb xsc _ (o41.reads.below hw'.undrew) (o44.reads.below hw'.undrew) (o47.reads.below hw'.undrew) ((hF 2 (by simp [uses]) _ rfl).1 _ _ _ rfl).reads ((hF 2 (by simp [uses]) _ rfl).2.1 _ _ _ rfl).reads ((hF 2 (by simp [uses]) _ rfl).2.2 _ _ _ rfl).reads ⟨rfl, rfl, rfl, rfl⟩).mono ?_
    rintro e w2 ⟨rfl, hx⟩
    exact ⟨_, rfl, hGo _ _ hx rfl trivial⟩
  intro v hv
  obtain rfl : v = (.bool true) := hv
  simp only [Act.put, List.setIfInBounds_toArray, List.set_cons_zero, List.set_cons_succ]
  refine' wpT_det (o := ⟨some 45, Op.unOp UnOp.not 4 (Operand.tmp 44), 4, "exact.go:5386", #[{ on := 3, ground := Ground.data }], none⟩) rfl (by rfl) (by rfl) (fun w' hw' => ?_) ?_; rotate_left
  · go_simp <;> first | rfl | exact ⟨rfl, rfl⟩
  simp only [Act.put, List.setIfInBounds_toArray, List.set_cons_zero, List.set_cons_succ]
  refine wpT_nil (fun w127 hw' hF => ?_)
  refine wpList_nil ?_
  clear zb70_0 zb70_1 zb70_2 zb70_3 zb0_0 zb0_1 zb0_2 zb0_3
  have hx := hw'.undrew; clear hw'
  clear hF
  replace b0 := b0.ext hx
  replace hra := hra.below hx
  replace hrb := hrb.below hx
  replace hrc := hrc.below hx
  replace o4 := o4.ext hx
  replace o7 := o7.ext hx
  replace o10 := o10.ext hx
  replace o17 := o17.ext hx
  replace o20 := o20.ext hx
  replace o23 := o23.ext hx
  replace b37 := b37.ext hx
  replace o41 := o41.ext hx
  replace o44 := o44.ext hx
  replace o47 := o47.ext hx
  replace b70 := b70.ext hx
  replace o74 := o74.ext hx
  replace o77 := o77.ext hx
  replace o80 := o80.ext hx
  replace b112 := b112.ext hx
  replace hx0 := hx0.trans hx
  clear hx
  have zb70_0 := b70.cell 0 rfl
  have zb70_1 := b70.cell 1 rfl
  have zb70_2 := b70.cell 2 rfl
  have zb70_3 := b70.cell 3 rfl
  go_wp2_with fail
  clear zb70_0 zb70_1 zb70_2 zb70_3
  refine (markSparse_any _ r Ax39 na kx40 Ax42 nb kx43 Ax45 nc kx46 _ _ _ 1 _ (by omega) o41 o44 o47 ne48 ne49 ne50).mono ?_
  rintro e w128 ⟨rfl, w129, w130, o1_, hw, o2_, hw2, o3_, hw3⟩
  replace b0 := b0.wr hw o41 (by decide)
  replace o4 := o4.other hw ne52.1
  replace o7 := o7.other hw ne53.1
  replace o10 := o10.other hw ne54.1
  replace o17 := o17.other hw ne55.1
  replace o20 := o20.other hw ne56.1
  replace o23 := o23.other hw ne57.1
  replace b37 := b37.wr hw o41 (by decide)
  replace o44 := o44.other hw ne48.2
  replace o47 := o47.other hw ne49.2
  replace b70 := b70.wr hw o41 (by decide)
  replace o74 := o74.other hw ne91.2
  replace o77 := o77.other hw ne100.2
  replace o80 := o80.other hw ne109.2
  replace b112 := b112.wr hw o41 (by decide)
  replace hx0 := hw.ext hx0 (o41.base le_o41)
  replace hra := hra0.below hx0
  replace hrb := hrb0.below hx0
  replace hrc := hrc0.below hx0
  clear o41 hw; have o41 := o1_; clear o1_; have hw := hw2; clear hw2
  replace b0 := b0.wr hw o44 (by decide)
  replace o4 := o4.other hw ne58.1
  replace o7 := o7.other hw ne59.1
  replace o10 := o10.other hw ne60.1
  replace o17 := o17.other hw ne61.1
  replace o20 := o20.other hw ne62.1
  replace o23 := o23.other hw ne63.1
  replace b37 := b37.wr hw o44 (by decide)
  replace o41 := o41.other hw ne48.1
  replace o47 := o47.other hw ne50.2
  replace b70 := b70.wr hw o44 (by decide)
  replace o74 := o74.other hw ne92.2
  replace o77 := o77.other hw ne101.2
  replace o80 := o80.other hw ne110.2
  replace b112 := b112.wr hw o44 (by decide)
  replace hx0 := hw.ext hx0 (o44.base le_o44)
  replace hra := hra0.below hx0
  replace hrb := hrb0.below hx0
  replace hrc := hrc0.below hx0
  clear o44 hw; have o44 := o2_; clear o2_; have hw := hw3; clear hw3
  replace b0 := b0.wr hw o47 (by decide)
  replace o4 := o4.other hw ne64.1
  replace o7 := o7.other hw ne65.1
  replace o10 := o10.other hw ne66.1
  replace o17 := o17.other hw ne67.1
  replace o20 := o20.other hw ne68.1
  replace o23 := o23.other hw ne69.1
  replace b37 := b37.wr hw o47 (by decide)
  replace o41 := o41.other hw ne49.1
  replace o44 := o44.other hw ne50.1
  replace b70 := b70.wr hw o47 (by decide)
  replace o74 := o74.other hw ne93.2
  replace o77 := o77.other hw ne102.2
  replace o80 := o80.other hw ne111.2
  replace b112 := b112.wr hw o47 (by decide)
  replace hx0 := hw.ext hx0 (o47.base le_o47)
  replace hra := hra0.below hx0
  replace hrb := hrb0.below hx0
  replace hrc := hrc0.below hx0
  clear o47 hw; have o47 := o3_; clear o3_
  have zb112_0 := b112.cell 0 rfl
  have zb112_1 := b112.cell 1 rfl
  have zb112_2 := b112.cell 2 rfl
  have zb112_3 := b112.cell 3 rfl
  have zb37_0 := b37.cell 0 rfl
  have zb37_1 := b37.cell 1 rfl
  have zb37_2 := b37.cell 2 rfl
  have zb37_3 := b37.cell 3 rfl
  go_wp2_with fail
  clear zb112_0 zb112_1 zb112_2 zb112_3 zb37_0 zb37_1 zb37_2 zb37_3
  refine (eqSparse_any d.sd d.sd Ax72 Ax75 Ax78 Ax15 Ax18 Ax21 d.st.length d.co.length d.va.length d.st.length d.co.length d.va.length kx73 kx76 kx79 kx16 kx19 kx22  d.st d.co d.va d.st d.co d.va _ o74.reads o77.reads o80.reads o17.reads o20.reads o23.reads ⟨rfl, rfl, rfl, rfl⟩).mono ?_
  rintro e w131 ⟨rfl, hx⟩
  replace b0 := b0.ext hx
  replace hra := hra.below hx
  replace hrb := hrb.below hx
  replace hrc := hrc.below hx
  replace o4 := o4.ext hx
  replace o7 := o7.ext hx
  replace o10 := o10.ext hx
  replace o17 := o17.ext hx
  replace o20 := o20.ext hx
  replace o23 := o23.ext hx
  replace b37 := b37.ext hx
  replace o41 := o41.ext hx
  replace o44 := o44.ext hx
  replace o47 := o47.ext hx
  replace b70 := b70.ext hx
  replace o74 := o74.ext hx
  replace o77 := o77.ext hx
  replace o80 := o80.ext hx
  replace b112 := b112.ext hx
  replace hx0 := hx0.trans hx
  clear hx
  have zb112_0 := b112.cell 0 rfl
  have zb112_1 := b112.cell 1 rfl
  have zb112_2 := b112.cell 2 rfl
  have zb112_3 := b112.cell 3 rfl
  go_wp2_with fail
  clear zb112_0 zb112_1 zb112_2 zb112_3
  refine (markSparse_any _ d.sd Ax72 d.st.length kx73 Ax75 d.co.length kx76 Ax78 d.va.length kx79 _ _ _ 1 _ (by omega) o74 o77 o80 ne81 ne82 ne83).mono ?_
  rintro e w132 ⟨rfl, w133, w134, o1_, hw, o2_, hw2, o3_, hw3⟩
  replace b0 := b0.wr hw o74 (by decide)
  replace o4 := o4.other hw ne85.1
  replace o7 := o7.other hw ne86.1
  replace o10 := o10.other hw ne87.1
  replace o17 := o17.other hw ne88.1
  replace o20 := o20.other hw ne89.1
  replace o23 := o23.other hw ne90.1
  replace b37 := b37.wr hw o74 (by decide)
  replace o41 := o41.other hw ne91.1
  replace o44 := o44.other hw ne92.1
  replace o47 := o47.other hw ne93.1
  replace b70 := b70.wr hw o74 (by decide)
  replace o77 := o77.other hw ne81.2
  replace o80 := o80.other hw ne82.2
  replace b112 := b112.wr hw o74 (by decide)
  replace hx0 := hw.ext hx0 (o74.base le_o74)
  replace hra := hra0.below hx0
  replace hrb := hrb0.below hx0
  replace hrc := hrc0.below hx0
  clear o74 hw; have o74 := o1_; clear o1_; have hw := hw2; clear hw2
  replace b0 := b0.wr hw o77 (by decide)
  replace o4 := o4.other hw ne94.1
  replace o7 := o7.other hw ne95.1
  replace o10 := o10.other hw ne96.1
  replace o17 := o17.other hw ne97.1
  replace o20 := o20.other hw ne98.1
  replace o23 := o23.other hw ne99.1
  replace b37 := b37.wr hw o77 (by decide)
  replace o41 := o41.other hw ne100.1
  replace o44 := o44.other hw ne101.1
  replace o47 := o47.other hw ne102.1
  replace b70 := b70.wr hw o77 (by decide)
  replace o74 := o74.other hw ne81.1
  replace o80 := o80.other hw ne83.2
  replace b112 := b112.wr hw o77 (by decide)
  replace hx0 := hw.ext hx0 (o77.base le_o77)
  replace hra := hra0.below hx0
  replace hrb := hrb0.below hx0
  replace hrc := hrc0.below hx0
  clear o77 hw; have o77 := o2_; clear o2_; have hw := hw3; clear hw3
  replace b0 := b0.wr hw o80 (by decide)
  replace o4 := o4.other hw ne103.1
  replace o7 := o7.other hw ne104.1
  replace o10 := o10.other hw ne105.1
  replace o17 := o17.other hw ne106.1
  replace o20 := o20.other hw ne107.1
  replace o23 := o23.other hw ne108.1
  replace b37 := b37.wr hw o80 (by decide)
  replace o41 := o41.other hw ne109.1
  replace o44 := o44.other hw ne110.1
  replace o47 := o47.other hw ne111.1
  replace b70 := b70.wr hw o80 (by decide)
  replace o74 := o74.other hw ne82.1
  replace o77 := o77.other hw ne83.1
  replace b112 := b112.wr hw o80 (by decide)
  replace hx0 := hw.ext hx0 (o80.base le_o80)
  replace hra := hra0.below hx0
  replace hrb := hrb0.below hx0
  replace hrc := hrc0.below hx0
  clear o80 hw; have o80 := o3_; clear o3_
  have zb112_0 := b112.cell 0 rfl
  have zb112_1 := b112.cell 1 rfl
  have zb112_2 := b112.cell 2 rfl
  have zb112_3 := b112.cell 3 rfl
  go_wp2_with fail
  clear zb112_0 zb112_1 zb112_2 zb112_3
  refine (heldSparse_any d.sd Ax72 d.st.length kx73 Ax75 d.co.length kx76 Ax78 d.va.length kx79 1 _ (by omega) (by omega) (by omega) (by omega) o74.reads o77.reads o80.reads).mono ?_
  rintro e w135 ⟨rfl, hx⟩
  replace b0 := b0.ext hx
  replace hra := hra.below hx
  replace hrb := hrb.below hx
  replace hrc := hrc.below hx
  replace o4 := o4.ext hx
  replace o7 := o7.ext hx
  replace o10 := o10.ext hx
  replace o17 := o17.ext hx
  replace o20 := o20.ext hx
  replace o23 := o23.ext hx
  replace b37 := b37.ext hx
  replace o41 := o41.ext hx
  replace o44 := o44.ext hx
  replace o47 := o47.ext hx
  replace b70 := b70.ext hx
  replace o74 := o74.ext hx
  replace o77 := o77.ext hx
  replace o80 := o80.ext hx
  replace b112 := b112.ext hx
  replace hx0 := hx0.trans hx
  clear hx
  have zb0_0 := b0.cell 0 rfl
  have zb0_1 := b0.cell 1 rfl
  have zb0_2 := b0.cell 2 rfl
  have zb0_3 := b0.cell 3 rfl
  go_wp2_with fail
  clear zb0_0 zb0_1 zb0_2 zb0_3
  have le_o138 : w.heap.size ≤ w135.heap.size := hx0.size
  have le_o141 : w.heap.size ≤ w135.heap.size := hx0.size
  have le_o144 : w.heap.size ≤ w135.heap.size := hx0.size
  refine (toSparse_any r Aa na capa Ab nb capb Ac nc capc xsa xsb xsc _ hra hrb hrc (by omega) (by omega) (by omega)).mono ?_
  rintro e w148 ⟨Ax136, kx137, Ax139, kx140, Ax142, kx143, rfl, o138, o141, o144, ne145, ne146, ne147, hx⟩
  have ne149 := o4.ne o138
  have ne150 := o7.ne o138
  have ne151 := o10.ne o138
  have ne152 := o17.ne o138
  have ne153 := o20.ne o138
  have ne154 := o23.ne o138
  have ne155 := o41.ne o138
  have ne156 := o44.ne o138
  have ne157 := o47.ne o138
  have ne158 := o74.ne o138
  have ne159 := o77.ne o138
  have ne160 := o80.ne o138
  have hs_o138 := o138.small; simp only [ints_length] at hs_o138
  have ne161 := o4.ne o141
  have ne162 := o7.ne o141
  have ne163 := o10.ne o141
  have ne164 := o17.ne o141
  have ne165 := o20.ne o141
  have ne166 := o23.ne o141
  have ne167 := o41.ne o141
  have ne168 := o44.ne o141
  have ne169 := o47.ne o141
  have ne170 := o74.ne o141
  have ne171 := o77.ne o141
  have ne172 := o80.ne o141
  have hs_o141 := o141.small; simp only [ints_length] at hs_o141
  have ne173 := o4.ne o144
  have ne174 := o7.ne o144
  have ne175 := o10.ne o144
  have ne176 := o17.ne o144
  have ne177 := o20.ne o144
  have ne178 := o23.ne o144
  have ne179 := o41.ne o144
  have ne180 := o44.ne o144
  have ne181 := o47.ne o144
  have ne182 := o74.ne o144
  have ne183 := o77.ne o144
  have ne184 := o80.ne o144
  have hs_o144 := o144.small; simp only [flts_length] at hs_o144
  replace b0 := b0.ext hx
  replace hra := hra.below hx
  replace hrb := hrb.below hx
  replace hrc := hrc.below hx
  replace o4 := o4.ext hx
  replace o7 := o7.ext hx
  replace o10 := o10.ext hx
  replace o17 := o17.ext hx
  replace o20 := o20.ext hx
  replace o23 := o23.ext hx
  replace b37 := b37.ext hx
  replace o41 := o41.ext hx
  replace o44 := o44.ext hx
  replace o47 := o47.ext hx
  replace b70 := b70.ext hx
  replace o74 := o74.ext hx
  replace o77 := o77.ext hx
  replace o80 := o80.ext hx
  replace b112 := b112.ext hx
  replace hx0 := hx0.trans hx
  clear hx
  go_wp2_with fail
  have le_o187 : w.heap.size ≤ w148.heap.size := hx0.size
  have le_o190 : w.heap.size ≤ w148.heap.size := hx0.size
  have le_o193 : w.heap.size ≤ w148.heap.size := hx0.size
  refine (implSparseRoot_any r Ax136 na kx137 Ax139 nb kx140 Ax142 nc kx143 xsa xsb xsc _ o138.reads o141.reads o144.reads).mono ?_
  rw [← Hd.out]
  rintro e w197 ⟨Ax185, kx186, Ax188, kx189, Ax191, kx192, rfl, o187, o190, o193, ne194, ne195, ne196, hx⟩
  have ne198 := o4.ne o187
  have ne199 := o7.ne o187
  have ne200 := o10.ne o187
  have ne201 := o17.ne o187
  have ne202 := o20.ne o187
  have ne203 := o23.ne o187
  have ne204 := o41.ne o187
  have ne205 := o44.ne o187
  have ne206 := o47.ne o187
  have ne207 := o74.ne o187
  have ne208 := o77.ne o187
  have ne209 := o80.ne o187
  have ne210 := o138.ne o187
  have ne211 := o141.ne o187
  have ne212 := o144.ne o187
  have hs_o187 := o187.small; simp only [ints_length] at hs_o187
  have ne213 := o4.ne o190
  have ne214 := o7.ne o190
  have ne215 := o10.ne o190
  have ne216 := o17.ne o190
  have ne217 := o20.ne o190
  have ne218 := o23.ne o190
  have ne219 := o41.ne o190
  have ne220 := o44.ne o190
  have ne221 := o47.ne o190
  have ne222 := o74.ne o190
  have ne223 := o77.ne o190
  have ne224 := o80.ne o190
  have ne225 := o138.ne o190
  have ne226 := o141.ne o190
  have ne227 := o144.ne o190
  have hs_o190 := o190.small; simp only [ints_length] at hs_o190
  have ne228 := o4.ne o193
  have ne229 := o7.ne o193
  have ne230 := o10.ne o193
  have ne231 := o17.ne o193
  have ne232 := o20.ne o193
  have ne233 := o23.ne o193
  have ne234 := o41.ne o193
  have ne235 := o44.ne o193
  have ne236 := o47.ne o193
  have ne237 := o74.ne o193
  have ne238 := o77.ne o193
  have ne239 := o80.ne o193
  have ne240 := o138.ne o193
  have ne241 := o141.ne o193
  have ne242 := o144.ne o193
  have hs_o193 := o193.small; simp only [flts_length] at hs_o193
  replace b0 := b0.ext hx
  replace hra := hra.below hx
  replace hrb := hrb.below hx
  replace hrc := hrc.below hx
  replace o4 := o4.ext hx
  replace o7 := o7.ext hx
  replace o10 := o10.ext hx
  replace o17 := o17.ext hx
  replace o20 := o20.ext hx
  replace o23 := o23.ext hx
  replace b37 := b37.ext hx
  replace o41 := o41.ext hx
  replace o44 := o44.ext hx
  replace o47 := o47.ext hx
  replace b70 := b70.ext hx
  replace o74 := o74.ext hx
  replace o77 := o77.ext hx
  replace o80 := o80.ext hx
  replace b112 := b112.ext hx
  replace o138 := o138.ext hx
  replace o141 := o141.ext hx
  replace o144 := o144.ext hx
  replace hx0 := hx0.trans hx
  clear hx
  have zb37_0 := b37.cell 0 rfl
  have zb37_1 := b37.cell 1 rfl
  have zb37_2 := b37.cell 2 rfl
  have zb37_3 := b37.cell 3 rfl
  have qb37 := b37.lt
  go_wp2_with fail
  obtain ⟨w244, hw⟩ : ∃ v : World, v = (w197.alloc (.cells #[.int .i64 d.sd, .slice Ax185 d.st.length kx186, .slice Ax188 d.co.length kx189, .slice Ax191 d.va.length kx192] 27)) := ⟨_, rfl⟩
  rw [← hw]
  have hx : Ext w197 w244 := by subst hw; exact (Ext.refl _).alloc _
  have b243 : Blk w244 w197.heap.size #[.int .i64 d.sd, .slice Ax185 d.st.length kx186, .slice Ax188 d.co.length kx189, .slice Ax191 d.va.length kx192] 27 := by subst hw; exact Blk.new _ _ _
  clear hw
  replace b0 := b0.ext hx
  replace hra := hra.below hx
  replace hrb := hrb.below hx
  replace hrc := hrc.below hx
  replace o4 := o4.ext hx
  replace o7 := o7.ext hx
  replace o10 := o10.ext hx
  replace o17 := o17.ext hx
  replace o20 := o20.ext hx
  replace o23 := o23.ext hx
  replace b37 := b37.ext hx
  replace o41 := o41.ext hx
  replace o44 := o44.ext hx
  replace o47 := o47.ext hx
  replace b70 := b70.ext hx
  replace o74 := o74.ext hx
  replace o77 := o77.ext hx
  replace o80 := o80.ext hx
  replace b112 := b112.ext hx
  replace o138 := o138.ext hx
  replace o141 := o141.ext hx
  replace o144 := o144.ext hx
  replace o187 := o187.ext hx
  replace o190 := o190.ext hx
  replace o193 := o193.ext hx
  replace hx0 := hx0.trans hx
  clear hx
  clear zb37_0 zb37_1 zb37_2 zb37_3 qb37
  refine (eqSparse_any d.sd d.sd Ax185 Ax188 Ax191 Ax15 Ax18 Ax21 d.st.length d.co.length d.va.length d.st.length d.co.length d.va.length kx186 kx189 kx192 kx16 kx19 kx22  d.st d.co d.va d.st d.co d.va _ o187.reads o190.reads o193.reads o17.reads o20.reads o23.reads ⟨rfl, rfl, rfl, rfl⟩).mono ?_
  rintro e w245 ⟨rfl, hx⟩
  replace b0 := b0.ext hx
  replace hra := hra.below hx
  replace hrb := hrb.below hx
  replace hrc := hrc.below hx
  replace o4 := o4.ext hx
  replace o7 := o7.ext hx
  replace o10 := o10.ext hx
  replace o17 := o17.ext hx
  replace o20 := o20.ext hx
  replace o23 := o23.ext hx
  replace b37 := b37.ext hx
  replace o41 := o41.ext hx
  replace o44 := o44.ext hx
  replace o47 := o47.ext hx
  replace b70 := b70.ext hx
  replace o74 := o74.ext hx
  replace o77 := o77.ext hx
  replace o80 := o80.ext hx
  replace b112 := b112.ext hx
  replace o138 := o138.ext hx
  replace o141 := o141.ext hx
  replace o144 := o144.ext hx
  replace o187 := o187.ext hx
  replace o190 := o190.ext hx
  replace o193 := o193.ext hx
  replace b243 := b243.ext hx
  replace hx0 := hx0.trans hx
  clear hx
  have zb112_0 := b112.cell 0 rfl
  have zb112_1 := b112.cell 1 rfl
  have zb112_2 := b112.cell 2 rfl
  have zb112_3 := b112.cell 3 rfl
  go_wp2_with fail
  clear zb112_0 zb112_1 zb112_2 zb112_3
  refine (heldSparse_any d.sd Ax72 d.st.length kx73 Ax75 d.co.length kx76 Ax78 d.va.length kx79 1 _ (by omega) (by omega) (by omega) (by omega) o74.reads o77.reads o80.reads).mono ?_
  rintro e w246 ⟨rfl, hx⟩
  replace b0 := b0.ext hx
  replace hra := hra.below hx
  replace hrb := hrb.below hx
  replace hrc := hrc.below hx
  replace o4 := o4.ext hx
  replace o7 := o7.ext hx
  replace o10 := o10.ext hx
  replace o17 := o17.ext hx
  replace o20 := o20.ext hx
  replace o23 := o23.ext hx
  replace b37 := b37.ext hx
  replace o41 := o41.ext hx
  replace o44 := o44.ext hx
  replace o47 := o47.ext hx
  replace b70 := b70.ext hx
  replace o74 := o74.ext hx
  replace o77 := o77.ext hx
  replace o80 := o80.ext hx
  replace b112 := b112.ext hx
  replace o138 := o138.ext hx
  replace o141 := o141.ext hx
  replace o144 := o144.ext hx
  replace o187 := o187.ext hx
  replace o190 := o190.ext hx
  replace o193 := o193.ext hx
  replace b243 := b243.ext hx
  replace hx0 := hx0.trans hx
  clear hx
  go_wp2_with fail
  go_ret
  exact ⟨rfl, hx0⟩

end Go.Proofs.Ytkifpligpobiaaa
