
import Derived.Test.YtkifpligpobiaaaO5

import Derived.Test.YtkifpligpobiaaaSB1
set_option linter.unusedVariables false
set_option linter.unusedSimpArgs false

namespace Go.Proofs.Ytkifpligpobiaaa

open Go.RowKit


set_option maxRecDepth 20000 in
set_option maxHeartbeats 8000000 in
theorem law_SparseOrder (r1 : Int) (A1a : Option Addr) (n1a cap1a : Nat) (xs1a : List Int) (A1b : Option Addr) (n1b cap1b : Nat) (xs1b : List Int) (A1c : Option Addr) (n1c cap1c : Nat) (xs1c : List Nat) (A2 : Option Addr) (n2 cap2 : Nat) (xs2 : List Int) (w : World) (hr1a : Rds w A1a n1a (ints xs1a)) (hr1b : Rds w A1b n1b (ints xs1b)) (hr1c : Rds w A1c n1c (flts xs1c)) (hr2 : Rds w A2 n2 (ints xs2)) :
    Calls Try.prog 4 #[.agg #[.int .i64 r1, .slice A1a n1a cap1a, .slice A1b n1b cap1b, .slice A1c n1c cap1c], .slice A2 n2 cap2] w fun e w' => e = .returned (.bool true) ∧ Ext w w' := by
  have hs_hr1a := hr1a.small
  have hs_hr1b := hr1b.small
  have hs_hr1c := hr1c.small
  have hs_hr2 := hr2.small
  obtain ⟨w0, hw0⟩ : ∃ w0 : World, w0 = (w.alloc (.cells #[.int .i64 r1, .slice A1a n1a cap1a, .slice A1b n1b cap1b, .slice A1c n1c cap1c] 25)) := ⟨_, rfl⟩
  have b0 : Blk w0 (w.heap.size) #[.int .i64 r1, .slice A1a n1a cap1a, .slice A1b n1b cap1b, .slice A1c n1c cap1c] 25 := by subst hw0; simpa using (Blk.new w #[.int .i64 r1, .slice A1a n1a cap1a, .slice A1b n1b cap1b, .slice A1c n1c cap1c] 25)
  have hx0 : Ext w w0 := by subst hw0; exact (Ext.refl _).alloc _
  have Hw0 := Lib.hid hw0
  clear hw0
  have hr1a0 := hr1a; replace hr1a := hr1a.below hx0
  have hr1b0 := hr1b; replace hr1b := hr1b.below hx0
  have hr1c0 := hr1c; replace hr1c := hr1c.below hx0
  have hr20 := hr2; replace hr2 := hr2.below hx0
  obtain ⟨d, hd⟩ : ∃ d : SD, d = orderD r1 xs1a xs1b xs1c xs2 := ⟨_, rfl⟩
  have Hd := Lib.hid hd; clear hd
  by_cases hm0 : n2 ≤ 1048576
  rotate_left
  · go_enter Try.func4, Try.ntmps4
    go_wp2_with fail
    go_ret
    exact ⟨rfl, by first | exact hx0 | (rw [← Hw0.out]; exact hx0) | exact Ext.refl _⟩
  by_cases hn0 : n1a + n1b + n1c ≤ 1048576
  rotate_left
  · have HS0 : Hid (szL (n1a + n1b + n1c) (1048576) = -1) := by show szL _ _ = -1; unfold szL; rw [if_pos (by omega)]
    go_enter Try.func4, Try.ntmps4
    have zb0_0 := b0.cell 0 rfl
    have zb0_1 := b0.cell 1 rfl
    have zb0_2 := b0.cell 2 rfl
    have zb0_3 := b0.cell 3 rfl
    go_wp2_with fail
    rw [← Hw0.out]
    clear zb0_0 zb0_1 zb0_2 zb0_3
    refine (szSparse_any r1 A1a n1a cap1a A1b n1b cap1b A1c n1c cap1c 1048576 (by omega) (by omega) (by omega) (by omega) _).mono ?_
    rw [HS0.out]
    rintro e w1 ⟨rfl, hx⟩
    replace b0 := b0.ext hx
    replace hr1a := hr1a.below hx
    replace hr1b := hr1b.below hx
    replace hr1c := hr1c.below hx
    replace hr2 := hr2.below hx
    replace hx0 := hx0.trans hx
    clear hx
    go_wp2_with fail
    go_ret
    exact ⟨rfl, hx0⟩
  have HS0 : Hid (szL (n1a + n1b + n1c) (1048576) = 1048576 - (n1a + n1b + n1c)) := by show szL _ _ = _; unfold szL; rw [if_neg (by omega)] <;> omega
  go_enter Try.func4, Try.ntmps4
  have zb0_0 := b0.cell 0 rfl
  have zb0_1 := b0.cell 1 rfl
  have zb0_2 := b0.cell 2 rfl
  have zb0_3 := b0.cell 3 rfl
  go_wp2_with fail
  rw [← Hw0.out]
  clear zb0_0 zb0_1 zb0_2 zb0_3
  refine (szSparse_any r1 A1a n1a cap1a A1b n1b cap1b A1c n1c cap1c 1048576 (by omega) (by omega) (by omega) (by omega) _).mono ?_
  rw [HS0.out]
  rintro e w1 ⟨rfl, hx⟩
  replace b0 := b0.ext hx
  replace hr1a := hr1a.below hx
  replace hr1b := hr1b.below hx
  replace hr1c := hr1c.below hx
  replace hr2 := hr2.below hx
  replace hx0 := hx0.trans hx
  clear hx
  have zb0_0 := b0.cell 0 rfl
  have zb0_1 := b0.cell 1 rfl
  have zb0_2 := b0.cell 2 rfl
  have zb0_3 := b0.cell 3 rfl
  go_wp2_with fail
  clear zb0_0 zb0_1 zb0_2 zb0_3
  have le_o4 : w.heap.size ≤ w1.heap.size := hx0.size
  have le_o7 : w.heap.size ≤ w1.heap.size := hx0.size
  have le_o10 : w.heap.size ≤ w1.heap.size := hx0.size
  refine (toSparse_any r1 A1a n1a cap1a A1b n1b cap1b A1c n1c cap1c xs1a xs1b xs1c _ hr1a hr1b hr1c (by omega) (by omega) (by omega)).mono ?_
  rintro e w14 ⟨Ax2, kx3, Ax5, kx6, Ax8, kx9, rfl, o4, o7, o10, ne11, ne12, ne13, hx⟩
  have hs_o4 := o4.small; simp only [ints_length] at hs_o4
  have hs_o7 := o7.small; simp only [ints_length] at hs_o7
  have hs_o10 := o10.small; simp only [flts_length] at hs_o10
  replace b0 := b0.ext hx
  replace hr1a := hr1a.below hx
  replace hr1b := hr1b.below hx
  replace hr1c := hr1c.below hx
  replace hr2 := hr2.below hx
  replace hx0 := hx0.trans hx
  clear hx
  go_wp2_with fail
  have le_o17 : w.heap.size ≤ w14.heap.size := hx0.size
  refine (toInt64S_any A2 n2 cap2 xs2 _ hr2 (by omega)).mono ?_
  rintro e w18 ⟨Ax15, kx16, rfl, o17, hx⟩
  have ne19 := o4.ne o17
  have ne20 := o7.ne o17
  have ne21 := o10.ne o17
  have hs_o17 := o17.small; simp only [ints_length] at hs_o17
  replace b0 := b0.ext hx
  replace hr1a := hr1a.below hx
  replace hr1b := hr1b.below hx
  replace hr1c := hr1c.below hx
  replace hr2 := hr2.below hx
  replace o4 := o4.ext hx
  replace o7 := o7.ext hx
  replace o10 := o10.ext hx
  replace hx0 := hx0.trans hx
  clear hx
  go_wp2_with fail
  have le_o24 : w.heap.size ≤ w18.heap.size := hx0.size
  have le_o27 : w.heap.size ≤ w18.heap.size := hx0.size
  have le_o30 : w.heap.size ≤ w18.heap.size := hx0.size
  refine (specSparseOrder_any r1 Ax2 n1a kx3 Ax5 n1b kx6 Ax8 n1c kx9 Ax15 n2 kx16 xs1a xs1b xs1c xs2 _ o4.reads o7.reads o10.reads o17.reads).mono ?_
  rw [← Hd.out]
  rintro e w34 ⟨Ax22, kx23, Ax25, kx26, Ax28, kx29, rfl, o24, o27, o30, ne31, ne32, ne33, hx⟩
  have ne35 := o4.ne o24
  have ne36 := o7.ne o24
  have ne37 := o10.ne o24
  have ne38 := o17.ne o24
  have hs_o24 := o24.small; simp only [ints_length] at hs_o24
  have ne39 := o4.ne o27
  have ne40 := o7.ne o27
  have ne41 := o10.ne o27
  have ne42 := o17.ne o27
  have hs_o27 := o27.small; simp only [ints_length] at hs_o27
  have ne43 := o4.ne o30
  have ne44 := o7.ne o30
  have ne45 := o10.ne o30
  have ne46 := o17.ne o30
  have hs_o30 := o30.small; simp only [flts_length] at hs_o30
  replace b0 := b0.ext hx
  replace hr1a := hr1a.below hx
  replace hr1b := hr1b.below hx
  replace hr1c := hr1c.below hx
  replace hr2 := hr2.below hx
  replace o4 := o4.ext hx
  replace o7 := o7.ext hx
  replace o10 := o10.ext hx
  replace o17 := o17.ext hx
  replace hx0 := hx0.trans hx
  clear hx
  have zb0_0 := b0.cell 0 rfl
  have zb0_1 := b0.cell 1 rfl
  have zb0_2 := b0.cell 2 rfl
  have zb0_3 := b0.cell 3 rfl
  have qb0 := b0.lt
  go_wp2_with fail
  obtain ⟨w48, hw⟩ : ∃ v : World, v = (w34.alloc (.cells #[.int .i64 d.sd, .slice Ax22 d.st.length kx23, .slice Ax25 d.co.length kx26, .slice Ax28 d.va.length kx29] 27)) := ⟨_, rfl⟩
  rw [← hw]
  have hx : Ext w34 w48 := by subst hw; exact (Ext.refl _).alloc _
  have b47 : Blk w48 w34.heap.size #[.int .i64 d.sd, .slice Ax22 d.st.length kx23, .slice Ax25 d.co.length kx26, .slice Ax28 d.va.length kx29] 27 := by subst hw; exact Blk.new _ _ _
  clear hw
  replace b0 := b0.ext hx
  replace hr1a := hr1a.below hx
  replace hr1b := hr1b.below hx
  replace hr1c := hr1c.below hx
  replace hr2 := hr2.below hx
  replace o4 := o4.ext hx
  replace o7 := o7.ext hx
  replace o10 := o10.ext hx
  replace o17 := o17.ext hx
  replace o24 := o24.ext hx
  replace o27 := o27.ext hx
  replace o30 := o30.ext hx
  replace hx0 := hx0.trans hx
  clear hx
  clear zb0_0 zb0_1 zb0_2 zb0_3 qb0
  have le_o51 : w.heap.size ≤ w48.heap.size := hx0.size
  have le_o54 : w.heap.size ≤ w48.heap.size := hx0.size
  have le_o57 : w.heap.size ≤ w48.heap.size := hx0.size
  refine (toSparse_any r1 A1a n1a cap1a A1b n1b cap1b A1c n1c cap1c xs1a xs1b xs1c _ hr1a hr1b hr1c (by omega) (by omega) (by omega)).mono ?_
  rintro e w61 ⟨Ax49, kx50, Ax52, kx53, Ax55, kx56, rfl, o51, o54, o57, ne58, ne59, ne60, hx⟩
  have ne62 := o4.ne o51
  have ne63 := o7.ne o51
  have ne64 := o10.ne o51
  have ne65 := o17.ne o51
  have ne66 := o24.ne o51
  have ne67 := o27.ne o51
  have ne68 := o30.ne o51
  have hs_o51 := o51.small; simp only [ints_length] at hs_o51
  have ne69 := o4.ne o54
  have ne70 := o7.ne o54
  have ne71 := o10.ne o54
  have ne72 := o17.ne o54
  have ne73 := o24.ne o54
  have ne74 := o27.ne o54
  have ne75 := o30.ne o54
  have hs_o54 := o54.small; simp only [ints_length] at hs_o54
  have ne76 := o4.ne o57
  have ne77 := o7.ne o57
  have ne78 := o10.ne o57
  have ne79 := o17.ne o57
  have ne80 := o24.ne o57
  have ne81 := o27.ne o57
  have ne82 := o30.ne o57
  have hs_o57 := o57.small; simp only [flts_length] at hs_o57
  replace b0 := b0.ext hx
  replace hr1a := hr1a.below hx
  replace hr1b := hr1b.below hx
  replace hr1c := hr1c.below hx
  replace hr2 := hr2.below hx
  replace o4 := o4.ext hx
  replace o7 := o7.ext hx
  replace o10 := o10.ext hx
  replace o17 := o17.ext hx
  replace o24 := o24.ext hx
  replace o27 := o27.ext hx
  replace o30 := o30.ext hx
  replace b47 := b47.ext hx
  replace hx0 := hx0.trans hx
  clear hx
  go_wp2_with fail
  obtain ⟨w84, hw⟩ : ∃ v : World, v = (w61.alloc (.cells #[.int .i64 r1, .slice Ax49 n1a kx50, .slice Ax52 n1b kx53, .slice Ax55 n1c kx56] 27)) := ⟨_, rfl⟩
  rw [← hw]
  have hx : Ext w61 w84 := by subst hw; exact (Ext.refl _).alloc _
  have b83 : Blk w84 w61.heap.size #[.int .i64 r1, .slice Ax49 n1a kx50, .slice Ax52 n1b kx53, .slice Ax55 n1c kx56] 27 := by subst hw; exact Blk.new _ _ _
  clear hw
  replace b0 := b0.ext hx
  replace hr1a := hr1a.below hx
  replace hr1b := hr1b.below hx
  replace hr1c := hr1c.below hx
  replace hr2 := hr2.below hx
  replace o4 := o4.ext hx
  replace o7 := o7.ext hx
  replace o10 := o10.ext hx
  replace o17 := o17.ext hx
  replace o24 := o24.ext hx
  replace o27 := o27.ext hx
  replace o30 := o30.ext hx
  replace b47 := b47.ext hx
  replace o51 := o51.ext hx
  replace o54 := o54.ext hx
  replace o57 := o57.ext hx
  replace hx0 := hx0.trans hx
  clear hx
  have le_o87 : w.heap.size ≤ w84.heap.size := hx0.size
  refine (toInt64S_any A2 n2 cap2 xs2 _ hr2 (by omega)).mono ?_
  rintro e w88 ⟨Ax85, kx86, rfl, o87, hx⟩
  have ne89 := o4.ne o87
  have ne90 := o7.ne o87
  have ne91 := o10.ne o87
  have ne92 := o17.ne o87
  have ne93 := o24.ne o87
  have ne94 := o27.ne o87
  have ne95 := o30.ne o87
  have ne96 := o51.ne o87
  have ne97 := o54.ne o87
  have ne98 := o57.ne o87
  have hs_o87 := o87.small; simp only [ints_length] at hs_o87
  replace b0 := b0.ext hx
  replace hr1a := hr1a.below hx
  replace hr1b := hr1b.below hx
  replace hr1c := hr1c.below hx
  replace hr2 := hr2.below hx
  replace o4 := o4.ext hx
  replace o7 := o7.ext hx
  replace o10 := o10.ext hx
  replace o17 := o17.ext hx
  replace o24 := o24.ext hx
  replace o27 := o27.ext hx
  replace o30 := o30.ext hx
  replace b47 := b47.ext hx
  replace o51 := o51.ext hx
  replace o54 := o54.ext hx
  replace o57 := o57.ext hx
  replace b83 := b83.ext hx
  replace hx0 := hx0.trans hx
  clear hx
  have zb83_0 := b83.cell 0 rfl
  have zb83_1 := b83.cell 1 rfl
  have zb83_2 := b83.cell 2 rfl
  have zb83_3 := b83.cell 3 rfl
  go_wp2_with fail
  clear zb83_0 zb83_1 zb83_2 zb83_3
  have le_o101 : w.heap.size ≤ w88.heap.size := hx0.size
  have le_o104 : w.heap.size ≤ w88.heap.size := hx0.size
  have le_o107 : w.heap.size ≤ w88.heap.size := hx0.size
  refine (implSparseOrder_any r1 Ax49 n1a kx50 Ax52 n1b kx53 Ax55 n1c kx56 Ax85 n2 kx86 xs1a xs1b xs1c xs2 _ o51.reads o54.reads o57.reads o87.reads).mono ?_
  rw [← Hd.out]
  rintro e w111 ⟨Ax99, kx100, Ax102, kx103, Ax105, kx106, rfl, o101, o104, o107, ne108, ne109, ne110, hx⟩
  have ne112 := o4.ne o101
  have ne113 := o7.ne o101
  have ne114 := o10.ne o101
  have ne115 := o17.ne o101
  have ne116 := o24.ne o101
  have ne117 := o27.ne o101
  have ne118 := o30.ne o101
  have ne119 := o51.ne o101
  have ne120 := o54.ne o101
  have ne121 := o57.ne o101
  have ne122 := o87.ne o101
  have hs_o101 := o101.small; simp only [ints_length] at hs_o101
  have ne123 := o4.ne o104
  have ne124 := o7.ne o104
  have ne125 := o10.ne o104
  have ne126 := o17.ne o104
  have ne127 := o24.ne o104
  have ne128 := o27.ne o104
  have ne129 := o30.ne o104
  have ne130 := o51.ne o104
  have ne131 := o54.ne o104
  have ne132 := o57.ne o104
  have ne133 := o87.ne o104
  have hs_o104 := o104.small; simp only [ints_length] at hs_o104
  have ne134 := o4.ne o107
  have ne135 := o7.ne o107
  have ne136 := o10.ne o107
  have ne137 := o17.ne o107
  have ne138 := o24.ne o107
  have ne139 := o27.ne o107
  have ne140 := o30.ne o107
  have ne141 := o51.ne o107
  have ne142 := o54.ne o107
  have ne143 := o57.ne o107
  have ne144 := o87.ne o107
  have hs_o107 := o107.small; simp only [flts_length] at hs_o107
  replace b0 := b0.ext hx
  replace hr1a := hr1a.below hx
  replace hr1b := hr1b.below hx
  replace hr1c := hr1c.below hx
  replace hr2 := hr2.below hx
  replace o4 := o4.ext hx
  replace o7 := o7.ext hx
  replace o10 := o10.ext hx
  replace o17 := o17.ext hx
  replace o24 := o24.ext hx
  replace o27 := o27.ext hx
  replace o30 := o30.ext hx
  replace b47 := b47.ext hx
  replace o51 := o51.ext hx
  replace o54 := o54.ext hx
  replace o57 := o57.ext hx
  replace b83 := b83.ext hx
  replace o87 := o87.ext hx
  replace hx0 := hx0.trans hx
  clear hx
  have zb47_0 := b47.cell 0 rfl
  have zb47_1 := b47.cell 1 rfl
  have zb47_2 := b47.cell 2 rfl
  have zb47_3 := b47.cell 3 rfl
  have qb47 := b47.lt
  go_wp2_with fail
  obtain ⟨w146, hw⟩ : ∃ v : World, v = (w111.alloc (.cells #[.int .i64 d.sd, .slice Ax99 d.st.length kx100, .slice Ax102 d.co.length kx103, .slice Ax105 d.va.length kx106] 27)) := ⟨_, rfl⟩
  rw [← hw]
  have hx : Ext w111 w146 := by subst hw; exact (Ext.refl _).alloc _
  have b145 : Blk w146 w111.heap.size #[.int .i64 d.sd, .slice Ax99 d.st.length kx100, .slice Ax102 d.co.length kx103, .slice Ax105 d.va.length kx106] 27 := by subst hw; exact Blk.new _ _ _
  clear hw
  replace b0 := b0.ext hx
  replace hr1a := hr1a.below hx
  replace hr1b := hr1b.below hx
  replace hr1c := hr1c.below hx
  replace hr2 := hr2.below hx
  replace o4 := o4.ext hx
  replace o7 := o7.ext hx
  replace o10 := o10.ext hx
  replace o17 := o17.ext hx
  replace o24 := o24.ext hx
  replace o27 := o27.ext hx
  replace o30 := o30.ext hx
  replace b47 := b47.ext hx
  replace o51 := o51.ext hx
  replace o54 := o54.ext hx
  replace o57 := o57.ext hx
  replace b83 := b83.ext hx
  replace o87 := o87.ext hx
  replace o101 := o101.ext hx
  replace o104 := o104.ext hx
  replace o107 := o107.ext hx
  replace hx0 := hx0.trans hx
  clear hx
  clear zb47_0 zb47_1 zb47_2 zb47_3 qb47
  refine (eqSparse_any d.sd d.sd Ax99 Ax102 Ax105 Ax22 Ax25 Ax28 d.st.length d.co.length d.va.length d.st.length d.co.length d.va.length kx100 kx103 kx106 kx23 kx26 kx29  d.st d.co d.va d.st d.co d.va _ o101.reads o104.reads o107.reads o24.reads o27.reads o30.reads ⟨rfl, rfl, rfl, rfl⟩).mono ?_
  rintro e w147 ⟨rfl, hx⟩
  replace b0 := b0.ext hx
  replace hr1a := hr1a.below hx
  replace hr1b := hr1b.below hx
  replace hr1c := hr1c.below hx
  replace hr2 := hr2.below hx
  replace o4 := o4.ext hx
  replace o7 := o7.ext hx
  replace o10 := o10.ext hx
  replace o17 := o17.ext hx
  replace o24 := o24.ext hx
  replace o27 := o27.ext hx
  replace o30 := o30.ext hx
  replace b47 := b47.ext hx
  replace o51 := o51.ext hx
  replace o54 := o54.ext hx
  replace o57 := o57.ext hx
  replace b83 := b83.ext hx
  replace o87 := o87.ext hx
  replace o101 := o101.ext hx
  replace o104 := o104.ext hx
  replace o107 := o107.ext hx
  replace b145 := b145.ext hx
  replace hx0 := hx0.trans hx
  clear hx
  go_wp2_with fail
  have zb83_0 := b83.cell 0 rfl
  have zb83_1 := b83.cell 1 rfl
  have zb83_2 := b83.cell 2 rfl
  have zb83_3 := b83.cell 3 rfl
  have zb0_0 := b0.cell 0 rfl
  have zb0_1 := b0.cell 1 rfl
  have zb0_2 := b0.cell 2 rfl
  have zb0_3 := b0.cell 3 rfl
  refine wp_region_T (cs := []) [0, 1, 2, 3, 4] [] [2, 3] [(3, [2])] (fun i__ v => match i__ with | 2 => ∃ (Ax148 : Option Addr) (kx149 : Nat) (Ax151 : Option Addr) (kx152 : Nat) (Ax154 : Option Addr) (kx155 : Nat), v = (.agg #[.int .i64 r1, .slice Ax148 n1a kx149, .slice Ax151 n1b kx152, .slice Ax154 n1c kx155]) | 3 => v = (.bool true) | _ => False) (fun i__ v w' => match i__ with | 2 => OwnF w' w147.heap.size 2 v [1] (ints xs1a) ∧ OwnF w' w147.heap.size 2 v [2] (ints xs1b) ∧ OwnF w' w147.heap.size 43 v [3] (flts xs1c) | _ => True) (by kernel_rfl) (by kernel_rfl) (by intro i v w' w2 h hx; revert h; (try dsimp only); split <;> intro h <;> first | trivial | exact RdsF.ext h hx | exact OwnF.ext h hx | exact BlkF.ext h hx | exact ⟨RdsF.ext h.1 hx, RdsF.ext h.2 hx⟩ | exact ⟨OwnF.ext h.1 hx, OwnF.ext h.2 hx⟩ | exact ⟨RdsF.ext h.1 hx, RdsF.ext h.2.1 hx, RdsF.ext h.2.2 hx⟩ | exact ⟨OwnF.ext h.1 hx, OwnF.ext h.2.1 hx, OwnF.ext h.2.2 hx⟩) ?_
  refine' wpT_det (o := ⟨some 52, Op.load 27 (Operand.tmp 8), 27, "exact.go:5244", #[], none⟩) rfl (by rfl) (by rfl) (fun w' hw' => ?_) ?_; rotate_left
  · have zb83_0_ := Ext.cell hw' zb83_0; have zb83_1_ := Ext.cell hw' zb83_1; have zb83_2_ := Ext.cell hw' zb83_2; have zb83_3_ := Ext.cell hw' zb83_3; have zb0_0_ := Ext.cell hw' zb0_0; have zb0_1_ := Ext.cell hw' zb0_1; have zb0_2_ := Ext.cell hw' zb0_2; have zb0_3_ := Ext.cell hw' zb0_3; go_simp <;> first | rfl | exact ⟨rfl, rfl⟩
  simp only [Act.put, List.setIfInBounds_toArray, List.set_cons_zero, List.set_cons_succ]
  refine' wpT_det (o := ⟨some 53, Op.load 25 (Operand.tmp 2), 25, "exact.go:5244", #[], none⟩) rfl (by rfl) (by rfl) (fun w' hw' => ?_) ?_; rotate_left
  · have zb83_0_ := Ext.cell hw' zb83_0; have zb83_1_ := Ext.cell hw' zb83_1; have zb83_2_ := Ext.cell hw' zb83_2; have zb83_3_ := Ext.cell hw' zb83_3; have zb0_0_ := Ext.cell hw' zb0_0; have zb0_1_ := Ext.cell hw' zb0_1; have zb0_2_ := Ext.cell hw' zb0_2; have zb0_3_ := Ext.cell hw' zb0_3; go_simp <;> first | rfl | exact ⟨rfl, rfl⟩
  simp only [Act.put, List.setIfInBounds_toArray, List.set_cons_zero, List.set_cons_succ]
  refine wpT_nd (o := ⟨some 54, Op.call { callee := Callee.value (Operand.func 22), args := #[Operand.tmp 53], argTypes := #[25] }, 27, "exact.go:5244", #[{ on := 1, ground := Ground.data }], none⟩) rfl (by rfl) (by rfl) (fun w' hw' hF R__ hGo => ?_) ⟨_, none, 0, none, 0, none, 0, rfl⟩ ?_
  · go_simp
    refine gives_enter rfl ?_
    refine (toSparse_any r1 A1a n1a cap1a A1b n1b cap1b A1c n1c cap1c xs1a xs1b xs1c _ (hr1a.below hw'.undrew) (hr1b.below hw'.undrew) (hr1c.below hw'.undrew) (by omega) (by omega) (by omega)).mono ?_
    rintro e w2 ⟨Ax148, kx149, Ax151, kx152, Ax154, kx155, rfl, o150, o153, o156, ne157, ne158, ne159, hx⟩
    exact ⟨_, rfl, hGo _ _ hx ⟨_, _, _, _, _, _, rfl⟩ ⟨OwnF.of (o150.base hw'.size) rfl, OwnF.of (o153.base hw'.size) rfl, OwnF.of (o156.base hw'.size) rfl⟩⟩
  rintro _ ⟨Ax148, kx149, Ax151, kx152, Ax154, kx155, rfl⟩
  simp only [Act.put, List.setIfInBounds_toArray, List.set_cons_zero, List.set_cons_succ]
  refine wpT_nd (o := ⟨some 55, Op.call { callee := Callee.value (Operand.func 24), args := #[Operand.tmp 52, Operand.tmp 54], argTypes := #[27, 27] }, 4, "exact.go:5244", #[{ on := 0, ground := Ground.data }, { on := 2, ground := Ground.data }, { on := 2, ground := Ground.chain }], none⟩) rfl (by rfl) (by rfl) (fun w' hw' hF R__ hGo => ?_) ⟨_, rfl⟩ ?_
  · go_simp
    refine gives_enter rfl ?_
    refine (eqSparse_any r1 r1 Ax49 Ax52 Ax55 Ax148 Ax151 Ax154 n1a n1b n1c n1a n1b n1c kx50 kx53 kx56 kx149 kx152 kx155  xs1a xs1b xs1c xs1a xs1b xs1c _ (o51.reads.below hw'.undrew) (o54.reads.below hw'.undrew) (o57.reads.below hw'.undrew) ((hF 2 (by simp [uses]) _ rfl).1 _ _ _ rfl).reads ((hF 2 (by simp [uses]) _ rfl).2.1 _ _ _ rfl).reads ((hF 2 (by simp [uses]) _ rfl).2.2 _ _ _ rfl).reads ⟨rfl, rfl, rfl, rfl⟩).mono ?_
    rintro e w2 ⟨rfl, hx⟩
    exact ⟨_, rfl, hGo _ _ hx rfl trivial⟩
  intro v hv
  obtain rfl : v = (.bool true) := hv
  simp only [Act.put, List.setIfInBounds_toArray, List.set_cons_zero, List.set_cons_succ]
  refine' wpT_det (o := ⟨some 56, Op.unOp UnOp.not 4 (Operand.tmp 55), 4, "exact.go:5244", #[{ on := 3, ground := Ground.data }], none⟩) rfl (by rfl) (by rfl) (fun w' hw' => ?_) ?_; rotate_left
  · go_simp <;> first | rfl | exact ⟨rfl, rfl⟩
  simp only [Act.put, List.setIfInBounds_toArray, List.set_cons_zero, List.set_cons_succ]
  refine wpT_nil (fun w160 hw' hF => ?_)
  refine wpList_nil ?_
  clear zb83_0 zb83_1 zb83_2 zb83_3 zb0_0 zb0_1 zb0_2 zb0_3
  have hx := hw'.undrew; clear hw'
  clear hF
  replace b0 := b0.ext hx
  replace hr1a := hr1a.below hx
  replace hr1b := hr1b.below hx
  replace hr1c := hr1c.below hx
  replace hr2 := hr2.below hx
  replace o4 := o4.ext hx
  replace o7 := o7.ext hx
  replace o10 := o10.ext hx
  replace o17 := o17.ext hx
  replace o24 := o24.ext hx
  replace o27 := o27.ext hx
  replace o30 := o30.ext hx
  replace b47 := b47.ext hx
  replace o51 := o51.ext hx
  replace o54 := o54.ext hx
  replace o57 := o57.ext hx
  replace b83 := b83.ext hx
  replace o87 := o87.ext hx
  replace o101 := o101.ext hx
  replace o104 := o104.ext hx
  replace o107 := o107.ext hx
  replace b145 := b145.ext hx
  replace hx0 := hx0.trans hx
  clear hx
  go_wp2_with fail
  have le_o163 : w.heap.size ≤ w160.heap.size := hx0.size
  refine (toInt64S_any A2 n2 cap2 xs2 _ hr2 (by omega)).mono ?_
  rintro e w164 ⟨Ax161, kx162, rfl, o163, hx⟩
  have ne165 := o4.ne o163
  have ne166 := o7.ne o163
  have ne167 := o10.ne o163
  have ne168 := o17.ne o163
  have ne169 := o24.ne o163
  have ne170 := o27.ne o163
  have ne171 := o30.ne o163
  have ne172 := o51.ne o163
  have ne173 := o54.ne o163
  have ne174 := o57.ne o163
  have ne175 := o87.ne o163
  have ne176 := o101.ne o163
  have ne177 := o104.ne o163
  have ne178 := o107.ne o163
  have hs_o163 := o163.small; simp only [ints_length] at hs_o163
  replace b0 := b0.ext hx
  replace hr1a := hr1a.below hx
  replace hr1b := hr1b.below hx
  replace hr1c := hr1c.below hx
  replace hr2 := hr2.below hx
  replace o4 := o4.ext hx
  replace o7 := o7.ext hx
  replace o10 := o10.ext hx
  replace o17 := o17.ext hx
  replace o24 := o24.ext hx
  replace o27 := o27.ext hx
  replace o30 := o30.ext hx
  replace b47 := b47.ext hx
  replace o51 := o51.ext hx
  replace o54 := o54.ext hx
  replace o57 := o57.ext hx
  replace b83 := b83.ext hx
  replace o87 := o87.ext hx
  replace o101 := o101.ext hx
  replace o104 := o104.ext hx
  replace o107 := o107.ext hx
  replace b145 := b145.ext hx
  replace hx0 := hx0.trans hx
  clear hx
  go_wp2_with fail
  refine (eqInt64S_any Ax85 Ax161 n2 n2 kx86 kx162  xs2 xs2 _ o87.reads o163.reads).mono ?_
  rintro e w179 ⟨rfl, hx⟩
  replace b0 := b0.ext hx
  replace hr1a := hr1a.below hx
  replace hr1b := hr1b.below hx
  replace hr1c := hr1c.below hx
  replace hr2 := hr2.below hx
  replace o4 := o4.ext hx
  replace o7 := o7.ext hx
  replace o10 := o10.ext hx
  replace o17 := o17.ext hx
  replace o24 := o24.ext hx
  replace o27 := o27.ext hx
  replace o30 := o30.ext hx
  replace b47 := b47.ext hx
  replace o51 := o51.ext hx
  replace o54 := o54.ext hx
  replace o57 := o57.ext hx
  replace b83 := b83.ext hx
  replace o87 := o87.ext hx
  replace o101 := o101.ext hx
  replace o104 := o104.ext hx
  replace o107 := o107.ext hx
  replace b145 := b145.ext hx
  replace o163 := o163.ext hx
  replace hx0 := hx0.trans hx
  clear hx
  have zb83_0 := b83.cell 0 rfl
  have zb83_1 := b83.cell 1 rfl
  have zb83_2 := b83.cell 2 rfl
  have zb83_3 := b83.cell 3 rfl
  go_wp2_with fail
  clear zb83_0 zb83_1 zb83_2 zb83_3
  refine (markSparse_any _ r1 Ax49 n1a kx50 Ax52 n1b kx53 Ax55 n1c kx56 _ _ _ 1 _ (by omega) o51 o54 o57 ne58 ne59 ne60).mono ?_
  rintro e w180 ⟨rfl, w181, w182, o1_, hw, o2_, hw2, o3_, hw3⟩
  replace b0 := b0.wr hw o51 (by decide)
  replace o4 := o4.other hw ne62.1
  replace o7 := o7.other hw ne63.1
  replace o10 := o10.other hw ne64.1
  replace o17 := o17.other hw ne65.1
  replace o24 := o24.other hw ne66.1
  replace o27 := o27.other hw ne67.1
  replace o30 := o30.other hw ne68.1
  replace b47 := b47.wr hw o51 (by decide)
  replace o54 := o54.other hw ne58.2
  replace o57 := o57.other hw ne59.2
  replace b83 := b83.wr hw o51 (by decide)
  replace o87 := o87.other hw ne96.2
  replace o101 := o101.other hw ne119.2
  replace o104 := o104.other hw ne130.2
  replace o107 := o107.other hw ne141.2
  replace b145 := b145.wr hw o51 (by decide)
  replace o163 := o163.other hw ne172.2
  replace hx0 := hw.ext hx0 (o51.base le_o51)
  replace hr1a := hr1a0.below hx0
  replace hr1b := hr1b0.below hx0
  replace hr1c := hr1c0.below hx0
  replace hr2 := hr20.below hx0
  clear o51 hw; have o51 := o1_; clear o1_; have hw := hw2; clear hw2
  replace b0 := b0.wr hw o54 (by decide)
  replace o4 := o4.other hw ne69.1
  replace o7 := o7.other hw ne70.1
  replace o10 := o10.other hw ne71.1
  replace o17 := o17.other hw ne72.1
  replace o24 := o24.other hw ne73.1
  replace o27 := o27.other hw ne74.1
  replace o30 := o30.other hw ne75.1
  replace b47 := b47.wr hw o54 (by decide)
  replace o51 := o51.other hw ne58.1
  replace o57 := o57.other hw ne60.2
  replace b83 := b83.wr hw o54 (by decide)
  replace o87 := o87.other hw ne97.2
  replace o101 := o101.other hw ne120.2
  replace o104 := o104.other hw ne131.2
  replace o107 := o107.other hw ne142.2
  replace b145 := b145.wr hw o54 (by decide)
  replace o163 := o163.other hw ne173.2
  replace hx0 := hw.ext hx0 (o54.base le_o54)
  replace hr1a := hr1a0.below hx0
  replace hr1b := hr1b0.below hx0
  replace hr1c := hr1c0.below hx0
  replace hr2 := hr20.below hx0
  clear o54 hw; have o54 := o2_; clear o2_; have hw := hw3; clear hw3
  replace b0 := b0.wr hw o57 (by decide)
  replace o4 := o4.other hw ne76.1
  replace o7 := o7.other hw ne77.1
  replace o10 := o10.other hw ne78.1
  replace o17 := o17.other hw ne79.1
  replace o24 := o24.other hw ne80.1
  replace o27 := o27.other hw ne81.1
  replace o30 := o30.other hw ne82.1
  replace b47 := b47.wr hw o57 (by decide)
  replace o51 := o51.other hw ne59.1
  replace o54 := o54.other hw ne60.1
  replace b83 := b83.wr hw o57 (by decide)
  replace o87 := o87.other hw ne98.2
  replace o101 := o101.other hw ne121.2
  replace o104 := o104.other hw ne132.2
  replace o107 := o107.other hw ne143.2
  replace b145 := b145.wr hw o57 (by decide)
  replace o163 := o163.other hw ne174.2
  replace hx0 := hw.ext hx0 (o57.base le_o57)
  replace hr1a := hr1a0.below hx0
  replace hr1b := hr1b0.below hx0
  replace hr1c := hr1c0.below hx0
  replace hr2 := hr20.below hx0
  clear o57 hw; have o57 := o3_; clear o3_
  go_wp2_with fail
  refine (markInt64S_any _ Ax85 n2 kx86 _ (1 + n1a + n1b + n1c) _ (by omega) o87).mono ?_
  rintro e w183 ⟨rfl, o_, hw⟩
  replace b0 := b0.wr hw o87 (by decide)
  replace o4 := o4.other hw ne89.1
  replace o7 := o7.other hw ne90.1
  replace o10 := o10.other hw ne91.1
  replace o17 := o17.other hw ne92.1
  replace o24 := o24.other hw ne93.1
  replace o27 := o27.other hw ne94.1
  replace o30 := o30.other hw ne95.1
  replace b47 := b47.wr hw o87 (by decide)
  replace o51 := o51.other hw ne96.1
  replace o54 := o54.other hw ne97.1
  replace o57 := o57.other hw ne98.1
  replace b83 := b83.wr hw o87 (by decide)
  replace o101 := o101.other hw ne122.2
  replace o104 := o104.other hw ne133.2
  replace o107 := o107.other hw ne144.2
  replace b145 := b145.wr hw o87 (by decide)
  replace o163 := o163.other hw ne175.2
  replace hx0 := hw.ext hx0 (o87.base le_o87)
  replace hr1a := hr1a0.below hx0
  replace hr1b := hr1b0.below hx0
  replace hr1c := hr1c0.below hx0
  replace hr2 := hr20.below hx0
  clear o87 hw; have o87 := o_; clear o_
  have zb145_0 := b145.cell 0 rfl
  have zb145_1 := b145.cell 1 rfl
  have zb145_2 := b145.cell 2 rfl
  have zb145_3 := b145.cell 3 rfl
  have zb47_0 := b47.cell 0 rfl
  have zb47_1 := b47.cell 1 rfl
  have zb47_2 := b47.cell 2 rfl
  have zb47_3 := b47.cell 3 rfl
  go_wp2_with fail
  clear zb145_0 zb145_1 zb145_2 zb145_3 zb47_0 zb47_1 zb47_2 zb47_3
  refine (eqSparse_any d.sd d.sd Ax99 Ax102 Ax105 Ax22 Ax25 Ax28 d.st.length d.co.length d.va.length d.st.length d.co.length d.va.length kx100 kx103 kx106 kx23 kx26 kx29  d.st d.co d.va d.st d.co d.va _ o101.reads o104.reads o107.reads o24.reads o27.reads o30.reads ⟨rfl, rfl, rfl, rfl⟩).mono ?_
  rintro e w184 ⟨rfl, hx⟩
  replace b0 := b0.ext hx
  replace hr1a := hr1a.below hx
  replace hr1b := hr1b.below hx
  replace hr1c := hr1c.below hx
  replace hr2 := hr2.below hx
  replace o4 := o4.ext hx
  replace o7 := o7.ext hx
  replace o10 := o10.ext hx
  replace o17 := o17.ext hx
  replace o24 := o24.ext hx
  replace o27 := o27.ext hx
  replace o30 := o30.ext hx
  replace b47 := b47.ext hx
  replace o51 := o51.ext hx
  replace o54 := o54.ext hx
  replace o57 := o57.ext hx
  replace b83 := b83.ext hx
  replace o87 := o87.ext hx
  replace o101 := o101.ext hx
  replace o104 := o104.ext hx
  replace o107 := o107.ext hx
  replace b145 := b145.ext hx
  replace o163 := o163.ext hx
  replace hx0 := hx0.trans hx
  clear hx
  have zb145_0 := b145.cell 0 rfl
  have zb145_1 := b145.cell 1 rfl
  have zb145_2 := b145.cell 2 rfl
  have zb145_3 := b145.cell 3 rfl
  go_wp2_with fail
  clear zb145_0 zb145_1 zb145_2 zb145_3
  refine (markSparse_any _ d.sd Ax99 d.st.length kx100 Ax102 d.co.length kx103 Ax105 d.va.length kx106 _ _ _ 1 _ (by omega) o101 o104 o107 ne108 ne109 ne110).mono ?_
  rintro e w185 ⟨rfl, w186, w187, o1_, hw, o2_, hw2, o3_, hw3⟩
  replace b0 := b0.wr hw o101 (by decide)
  replace o4 := o4.other hw ne112.1
  replace o7 := o7.other hw ne113.1
  replace o10 := o10.other hw ne114.1
  replace o17 := o17.other hw ne115.1
  replace o24 := o24.other hw ne116.1
  replace o27 := o27.other hw ne117.1
  replace o30 := o30.other hw ne118.1
  replace b47 := b47.wr hw o101 (by decide)
  replace o51 := o51.other hw ne119.1
  replace o54 := o54.other hw ne120.1
  replace o57 := o57.other hw ne121.1
  replace b83 := b83.wr hw o101 (by decide)
  replace o87 := o87.other hw ne122.1
  replace o104 := o104.other hw ne108.2
  replace o107 := o107.other hw ne109.2
  replace b145 := b145.wr hw o101 (by decide)
  replace o163 := o163.other hw ne176.2
  replace hx0 := hw.ext hx0 (o101.base le_o101)
  replace hr1a := hr1a0.below hx0
  replace hr1b := hr1b0.below hx0
  replace hr1c := hr1c0.below hx0
  replace hr2 := hr20.below hx0
  clear o101 hw; have o101 := o1_; clear o1_; have hw := hw2; clear hw2
  replace b0 := b0.wr hw o104 (by decide)
  replace o4 := o4.other hw ne123.1
  replace o7 := o7.other hw ne124.1
  replace o10 := o10.other hw ne125.1
  replace o17 := o17.other hw ne126.1
  replace o24 := o24.other hw ne127.1
  replace o27 := o27.other hw ne128.1
  replace o30 := o30.other hw ne129.1
  replace b47 := b47.wr hw o104 (by decide)
  replace o51 := o51.other hw ne130.1
  replace o54 := o54.other hw ne131.1
  replace o57 := o57.other hw ne132.1
  replace b83 := b83.wr hw o104 (by decide)
  replace o87 := o87.other hw ne133.1
  replace o101 := o101.other hw ne108.1
  replace o107 := o107.other hw ne110.2
  replace b145 := b145.wr hw o104 (by decide)
  replace o163 := o163.other hw ne177.2
  replace hx0 := hw.ext hx0 (o104.base le_o104)
  replace hr1a := hr1a0.below hx0
  replace hr1b := hr1b0.below hx0
  replace hr1c := hr1c0.below hx0
  replace hr2 := hr20.below hx0
  clear o104 hw; have o104 := o2_; clear o2_; have hw := hw3; clear hw3
  replace b0 := b0.wr hw o107 (by decide)
  replace o4 := o4.other hw ne134.1
  replace o7 := o7.other hw ne135.1
  replace o10 := o10.other hw ne136.1
  replace o17 := o17.other hw ne137.1
  replace o24 := o24.other hw ne138.1
  replace o27 := o27.other hw ne139.1
  replace o30 := o30.other hw ne140.1
  replace b47 := b47.wr hw o107 (by decide)
  replace o51 := o51.other hw ne141.1
  replace o54 := o54.other hw ne142.1
  replace o57 := o57.other hw ne143.1
  replace b83 := b83.wr hw o107 (by decide)
  replace o87 := o87.other hw ne144.1
  replace o101 := o101.other hw ne109.1
  replace o104 := o104.other hw ne110.1
  replace b145 := b145.wr hw o107 (by decide)
  replace o163 := o163.other hw ne178.2
  replace hx0 := hw.ext hx0 (o107.base le_o107)
  replace hr1a := hr1a0.below hx0
  replace hr1b := hr1b0.below hx0
  replace hr1c := hr1c0.below hx0
  replace hr2 := hr20.below hx0
  clear o107 hw; have o107 := o3_; clear o3_
  have zb145_0 := b145.cell 0 rfl
  have zb145_1 := b145.cell 1 rfl
  have zb145_2 := b145.cell 2 rfl
  have zb145_3 := b145.cell 3 rfl
  go_wp2_with fail
  clear zb145_0 zb145_1 zb145_2 zb145_3
  refine (heldSparse_any d.sd Ax99 d.st.length kx100 Ax102 d.co.length kx103 Ax105 d.va.length kx106 1 _ (by omega) (by omega) (by omega) (by omega) o101.reads o104.reads o107.reads).mono ?_
  rintro e w188 ⟨rfl, hx⟩
  replace b0 := b0.ext hx
  replace hr1a := hr1a.below hx
  replace hr1b := hr1b.below hx
  replace hr1c := hr1c.below hx
  replace hr2 := hr2.below hx
  replace o4 := o4.ext hx
  replace o7 := o7.ext hx
  replace o10 := o10.ext hx
  replace o17 := o17.ext hx
  replace o24 := o24.ext hx
  replace o27 := o27.ext hx
  replace o30 := o30.ext hx
  replace b47 := b47.ext hx
  replace o51 := o51.ext hx
  replace o54 := o54.ext hx
  replace o57 := o57.ext hx
  replace b83 := b83.ext hx
  replace o87 := o87.ext hx
  replace o101 := o101.ext hx
  replace o104 := o104.ext hx
  replace o107 := o107.ext hx
  replace b145 := b145.ext hx
  replace o163 := o163.ext hx
  replace hx0 := hx0.trans hx
  clear hx
  have zb0_0 := b0.cell 0 rfl
  have zb0_1 := b0.cell 1 rfl
  have zb0_2 := b0.cell 2 rfl
  have zb0_3 := b0.cell 3 rfl
  go_wp2_with fail
  clear zb0_0 zb0_1 zb0_2 zb0_3
  have le_o191 : w.heap.size ≤ w188.heap.size := hx0.size
  have le_o194 : w.heap.size ≤ w188.heap.size := hx0.size
  have le_o197 : w.heap.size ≤ w188.heap.size := hx0.size
  refine (toSparse_any r1 A1a n1a cap1a A1b n1b cap1b A1c n1c cap1c xs1a xs1b xs1c _ hr1a hr1b hr1c (by omega) (by omega) (by omega)).mono ?_
  rintro e w201 ⟨Ax189, kx190, Ax192, kx193, Ax195, kx196, rfl, o191, o194, o197, ne198, ne199, ne200, hx⟩
  have ne202 := o4.ne o191
  have ne203 := o7.ne o191
  have ne204 := o10.ne o191
  have ne205 := o17.ne o191
  have ne206 := o24.ne o191
  have ne207 := o27.ne o191
  have ne208 := o30.ne o191
  have ne209 := o51.ne o191
  have ne210 := o54.ne o191
  have ne211 := o57.ne o191
  have ne212 := o87.ne o191
  have ne213 := o101.ne o191
  have ne214 := o104.ne o191
  have ne215 := o107.ne o191
  have ne216 := o163.ne o191
  have hs_o191 := o191.small; simp only [ints_length] at hs_o191
  have ne217 := o4.ne o194
  have ne218 := o7.ne o194
  have ne219 := o10.ne o194
  have ne220 := o17.ne o194
  have ne221 := o24.ne o194
  have ne222 := o27.ne o194
  have ne223 := o30.ne o194
  have ne224 := o51.ne o194
  have ne225 := o54.ne o194
  have ne226 := o57.ne o194
  have ne227 := o87.ne o194
  have ne228 := o101.ne o194
  have ne229 := o104.ne o194
  have ne230 := o107.ne o194
  have ne231 := o163.ne o194
  have hs_o194 := o194.small; simp only [ints_length] at hs_o194
  have ne232 := o4.ne o197
  have ne233 := o7.ne o197
  have ne234 := o10.ne o197
  have ne235 := o17.ne o197
  have ne236 := o24.ne o197
  have ne237 := o27.ne o197
  have ne238 := o30.ne o197
  have ne239 := o51.ne o197
  have ne240 := o54.ne o197
  have ne241 := o57.ne o197
  have ne242 := o87.ne o197
  have ne243 := o101.ne o197
  have ne244 := o104.ne o197
  have ne245 := o107.ne o197
  have ne246 := o163.ne o197
  have hs_o197 := o197.small; simp only [flts_length] at hs_o197
  replace b0 := b0.ext hx
  replace hr1a := hr1a.below hx
  replace hr1b := hr1b.below hx
  replace hr1c := hr1c.below hx
  replace hr2 := hr2.below hx
  replace o4 := o4.ext hx
  replace o7 := o7.ext hx
  replace o10 := o10.ext hx
  replace o17 := o17.ext hx
  replace o24 := o24.ext hx
  replace o27 := o27.ext hx
  replace o30 := o30.ext hx
  replace b47 := b47.ext hx
  replace o51 := o51.ext hx
  replace o54 := o54.ext hx
  replace o57 := o57.ext hx
  replace b83 := b83.ext hx
  replace o87 := o87.ext hx
  replace o101 := o101.ext hx
  replace o104 := o104.ext hx
  replace o107 := o107.ext hx
  replace b145 := b145.ext hx
  replace o163 := o163.ext hx
  replace hx0 := hx0.trans hx
  clear hx
  go_wp2_with fail
  have le_o249 : w.heap.size ≤ w201.heap.size := hx0.size
  refine (toInt64S_any A2 n2 cap2 xs2 _ hr2 (by omega)).mono ?_
  rintro e w250 ⟨Ax247, kx248, rfl, o249, hx⟩
  have ne251 := o4.ne o249
  have ne252 := o7.ne o249
  have ne253 := o10.ne o249
  have ne254 := o17.ne o249
  have ne255 := o24.ne o249
  have ne256 := o27.ne o249
  have ne257 := o30.ne o249
  have ne258 := o51.ne o249
  have ne259 := o54.ne o249
  have ne260 := o57.ne o249
  have ne261 := o87.ne o249
  have ne262 := o101.ne o249
  have ne263 := o104.ne o249
  have ne264 := o107.ne o249
  have ne265 := o163.ne o249
  have ne266 := o191.ne o249
  have ne267 := o194.ne o249
  have ne268 := o197.ne o249
  have hs_o249 := o249.small; simp only [ints_length] at hs_o249
  replace b0 := b0.ext hx
  replace hr1a := hr1a.below hx
  replace hr1b := hr1b.below hx
  replace hr1c := hr1c.below hx
  replace hr2 := hr2.below hx
  replace o4 := o4.ext hx
  replace o7 := o7.ext hx
  replace o10 := o10.ext hx
  replace o17 := o17.ext hx
  replace o24 := o24.ext hx
  replace o27 := o27.ext hx
  replace o30 := o30.ext hx
  replace b47 := b47.ext hx
  replace o51 := o51.ext hx
  replace o54 := o54.ext hx
  replace o57 := o57.ext hx
  replace b83 := b83.ext hx
  replace o87 := o87.ext hx
  replace o101 := o101.ext hx
  replace o104 := o104.ext hx
  replace o107 := o107.ext hx
  replace b145 := b145.ext hx
  replace o163 := o163.ext hx
  replace o191 := o191.ext hx
  replace o194 := o194.ext hx
  replace o197 := o197.ext hx
  replace hx0 := hx0.trans hx
  clear hx
  go_wp2_with fail
  have le_o271 : w.heap.size ≤ w250.heap.size := hx0.size
  have le_o274 : w.heap.size ≤ w250.heap.size := hx0.size
  have le_o277 : w.heap.size ≤ w250.heap.size := hx0.size
  refine (implSparseOrder_any r1 Ax189 n1a kx190 Ax192 n1b kx193 Ax195 n1c kx196 Ax247 n2 kx248 xs1a xs1b xs1c xs2 _ o191.reads o194.reads o197.reads o249.reads).mono ?_
  rw [← Hd.out]
  rintro e w281 ⟨Ax269, kx270, Ax272, kx273, Ax275, kx276, rfl, o271, o274, o277, ne278, ne279, ne280, hx⟩
  have ne282 := o4.ne o271
  have ne283 := o7.ne o271
  have ne284 := o10.ne o271
  have ne285 := o17.ne o271
  have ne286 := o24.ne o271
  have ne287 := o27.ne o271
  have ne288 := o30.ne o271
  have ne289 := o51.ne o271
  have ne290 := o54.ne o271
  have ne291 := o57.ne o271
  have ne292 := o87.ne o271
  have ne293 := o101.ne o271
  have ne294 := o104.ne o271
  have ne295 := o107.ne o271
  have ne296 := o163.ne o271
  have ne297 := o191.ne o271
  have ne298 := o194.ne o271
  have ne299 := o197.ne o271
  have ne300 := o249.ne o271
  have hs_o271 := o271.small; simp only [ints_length] at hs_o271
  have ne301 := o4.ne o274
  have ne302 := o7.ne o274
  have ne303 := o10.ne o274
  have ne304 := o17.ne o274
  have ne305 := o24.ne o274
  have ne306 := o27.ne o274
  have ne307 := o30.ne o274
  have ne308 := o51.ne o274
  have ne309 := o54.ne o274
  have ne310 := o57.ne o274
  have ne311 := o87.ne o274
  have ne312 := o101.ne o274
  have ne313 := o104.ne o274
  have ne314 := o107.ne o274
  have ne315 := o163.ne o274
  have ne316 := o191.ne o274
  have ne317 := o194.ne o274
  have ne318 := o197.ne o274
  have ne319 := o249.ne o274
  have hs_o274 := o274.small; simp only [ints_length] at hs_o274
  have ne320 := o4.ne o277
  have ne321 := o7.ne o277
  have ne322 := o10.ne o277
  have ne323 := o17.ne o277
  have ne324 := o24.ne o277
  have ne325 := o27.ne o277
  have ne326 := o30.ne o277
  have ne327 := o51.ne o277
  have ne328 := o54.ne o277
  have ne329 := o57.ne o277
  have ne330 := o87.ne o277
  have ne331 := o101.ne o277
  have ne332 := o104.ne o277
  have ne333 := o107.ne o277
  have ne334 := o163.ne o277
  have ne335 := o191.ne o277
  have ne336 := o194.ne o277
  have ne337 := o197.ne o277
  have ne338 := o249.ne o277
  have hs_o277 := o277.small; simp only [flts_length] at hs_o277
  replace b0 := b0.ext hx
  replace hr1a := hr1a.below hx
  replace hr1b := hr1b.below hx
  replace hr1c := hr1c.below hx
  replace hr2 := hr2.below hx
  replace o4 := o4.ext hx
  replace o7 := o7.ext hx
  replace o10 := o10.ext hx
  replace o17 := o17.ext hx
  replace o24 := o24.ext hx
  replace o27 := o27.ext hx
  replace o30 := o30.ext hx
  replace b47 := b47.ext hx
  replace o51 := o51.ext hx
  replace o54 := o54.ext hx
  replace o57 := o57.ext hx
  replace b83 := b83.ext hx
  replace o87 := o87.ext hx
  replace o101 := o101.ext hx
  replace o104 := o104.ext hx
  replace o107 := o107.ext hx
  replace b145 := b145.ext hx
  replace o163 := o163.ext hx
  replace o191 := o191.ext hx
  replace o194 := o194.ext hx
  replace o197 := o197.ext hx
  replace o249 := o249.ext hx
  replace hx0 := hx0.trans hx
  clear hx
  have zb47_0 := b47.cell 0 rfl
  have zb47_1 := b47.cell 1 rfl
  have zb47_2 := b47.cell 2 rfl
  have zb47_3 := b47.cell 3 rfl
  have qb47 := b47.lt
  go_wp2_with fail
  obtain ⟨w340, hw⟩ : ∃ v : World, v = (w281.alloc (.cells #[.int .i64 d.sd, .slice Ax269 d.st.length kx270, .slice Ax272 d.co.length kx273, .slice Ax275 d.va.length kx276] 27)) := ⟨_, rfl⟩
  rw [← hw]
  have hx : Ext w281 w340 := by subst hw; exact (Ext.refl _).alloc _
  have b339 : Blk w340 w281.heap.size #[.int .i64 d.sd, .slice Ax269 d.st.length kx270, .slice Ax272 d.co.length kx273, .slice Ax275 d.va.length kx276] 27 := by subst hw; exact Blk.new _ _ _
  clear hw
  replace b0 := b0.ext hx
  replace hr1a := hr1a.below hx
  replace hr1b := hr1b.below hx
  replace hr1c := hr1c.below hx
  replace hr2 := hr2.below hx
  replace o4 := o4.ext hx
  replace o7 := o7.ext hx
  replace o10 := o10.ext hx
  replace o17 := o17.ext hx
  replace o24 := o24.ext hx
  replace o27 := o27.ext hx
  replace o30 := o30.ext hx
  replace b47 := b47.ext hx
  replace o51 := o51.ext hx
  replace o54 := o54.ext hx
  replace o57 := o57.ext hx
  replace b83 := b83.ext hx
  replace o87 := o87.ext hx
  replace o101 := o101.ext hx
  replace o104 := o104.ext hx
  replace o107 := o107.ext hx
  replace b145 := b145.ext hx
  replace o163 := o163.ext hx
  replace o191 := o191.ext hx
  replace o194 := o194.ext hx
  replace o197 := o197.ext hx
  replace o249 := o249.ext hx
  replace o271 := o271.ext hx
  replace o274 := o274.ext hx
  replace o277 := o277.ext hx
  replace hx0 := hx0.trans hx
  clear hx
  clear zb47_0 zb47_1 zb47_2 zb47_3 qb47
  refine (eqSparse_any d.sd d.sd Ax269 Ax272 Ax275 Ax22 Ax25 Ax28 d.st.length d.co.length d.va.length d.st.length d.co.length d.va.length kx270 kx273 kx276 kx23 kx26 kx29  d.st d.co d.va d.st d.co d.va _ o271.reads o274.reads o277.reads o24.reads o27.reads o30.reads ⟨rfl, rfl, rfl, rfl⟩).mono ?_
  rintro e w341 ⟨rfl, hx⟩
  replace b0 := b0.ext hx
  replace hr1a := hr1a.below hx
  replace hr1b := hr1b.below hx
  replace hr1c := hr1c.below hx
  replace hr2 := hr2.below hx
  replace o4 := o4.ext hx
  replace o7 := o7.ext hx
  replace o10 := o10.ext hx
  replace o17 := o17.ext hx
  replace o24 := o24.ext hx
  replace o27 := o27.ext hx
  replace o30 := o30.ext hx
  replace b47 := b47.ext hx
  replace o51 := o51.ext hx
  replace o54 := o54.ext hx
  replace o57 := o57.ext hx
  replace b83 := b83.ext hx
  replace o87 := o87.ext hx
  replace o101 := o101.ext hx
  replace o104 := o104.ext hx
  replace o107 := o107.ext hx
  replace b145 := b145.ext hx
  replace o163 := o163.ext hx
  replace o191 := o191.ext hx
  replace o194 := o194.ext hx
  replace o197 := o197.ext hx
  replace o249 := o249.ext hx
  replace o271 := o271.ext hx
  replace o274 := o274.ext hx
  replace o277 := o277.ext hx
  replace b339 := b339.ext hx
  replace hx0 := hx0.trans hx
  clear hx
  have zb145_0 := b145.cell 0 rfl
  have zb145_1 := b145.cell 1 rfl
  have zb145_2 := b145.cell 2 rfl
  have zb145_3 := b145.cell 3 rfl
  go_wp2_with fail
  clear zb145_0 zb145_1 zb145_2 zb145_3
  refine (heldSparse_any d.sd Ax99 d.st.length kx100 Ax102 d.co.length kx103 Ax105 d.va.length kx106 1 _ (by omega) (by omega) (by omega) (by omega) o101.reads o104.reads o107.reads).mono ?_
  rintro e w342 ⟨rfl, hx⟩
  replace b0 := b0.ext hx
  replace hr1a := hr1a.below hx
  replace hr1b := hr1b.below hx
  replace hr1c := hr1c.below hx
  replace hr2 := hr2.below hx
  replace o4 := o4.ext hx
  replace o7 := o7.ext hx
  replace o10 := o10.ext hx
  replace o17 := o17.ext hx
  replace o24 := o24.ext hx
  replace o27 := o27.ext hx
  replace o30 := o30.ext hx
  replace b47 := b47.ext hx
  replace o51 := o51.ext hx
  replace o54 := o54.ext hx
  replace o57 := o57.ext hx
  replace b83 := b83.ext hx
  replace o87 := o87.ext hx
  replace o101 := o101.ext hx
  replace o104 := o104.ext hx
  replace o107 := o107.ext hx
  replace b145 := b145.ext hx
  replace o163 := o163.ext hx
  replace o191 := o191.ext hx
  replace o194 := o194.ext hx
  replace o197 := o197.ext hx
  replace o249 := o249.ext hx
  replace o271 := o271.ext hx
  replace o274 := o274.ext hx
  replace o277 := o277.ext hx
  replace b339 := b339.ext hx
  replace hx0 := hx0.trans hx
  clear hx
  go_wp2_with fail
  go_ret
  exact ⟨rfl, hx0⟩

end Go.Proofs.Ytkifpligpobiaaa
