
import Derived.Test.YtkifpligpobiaaaEN6

import Derived.Test.YtkifpligpobiaaaEN8

import Derived.Test.YtkifpligpobiaaaEN9

import Derived.Test.YtkifpligpobiaaaSB1
set_option linter.unusedVariables false
set_option linter.unusedSimpArgs false

namespace Go.Proofs.Ytkifpligpobiaaa

open Go.RowKit


set_option maxRecDepth 20000 in
set_option maxHeartbeats 8000000 in
theorem law_SparseFrom (x1 : Int) (A2 : Option Addr) (n2 cap2 : Nat) (xs2 : List Ent) (w : World) (hr2 : RdsE w A2 n2 xs2) :
    Calls Try.prog 12 #[.int .i64 x1, .slice A2 n2 cap2] w fun e w' => e = .returned (.bool true) ∧ Ext w w' := by
  have hs_hr2 := hr2.small
  obtain ⟨w0, hw0⟩ : ∃ w0 : World, w0 = w := ⟨_, rfl⟩
  have hx0 : Ext w w0 := by subst hw0; exact Ext.refl _
  have Hw0 := Lib.hid hw0
  clear hw0
  have hr20 := hr2; replace hr2 := hr2.below hx0
  obtain ⟨d, hd⟩ : ∃ d : SD, d = fromD x1 xs2 := ⟨_, rfl⟩
  have Hd := Lib.hid hd; clear hd
  by_cases hn0 : n2 ≤ 1048576
  rotate_left
  · have HS0 : Hid (szL (n2) (1048576) = -1) := by show szL _ _ = -1; unfold szL; rw [if_pos (by omega)]
    go_enter Try.func12, Try.ntmps12
    go_wp2_with fail
    rw [← Hw0.out]
    refine (szEntryS_any A2 n2 cap2 1048576 (by omega) (by omega) _).mono ?_
    rw [HS0.out]
    rintro e w9 ⟨rfl, rfl⟩
    go_wp2_with fail
    go_ret
    exact ⟨rfl, hx0⟩
  have HS0 : Hid (szL (n2) (1048576) = 1048576 - (n2 : Int)) := by show szL _ _ = _; unfold szL; rw [if_neg (by omega)]
  go_enter Try.func12, Try.ntmps12
  go_wp2_with fail
  rw [← Hw0.out]
  refine (szEntryS_any A2 n2 cap2 1048576 (by omega) (by omega) _).mono ?_
  rw [HS0.out]
  rintro e w9 ⟨rfl, rfl⟩
  go_wp2_with fail
  have le_o3 : w.heap.size ≤ w0.heap.size := hx0.size
  refine (toEntryS_any A2 n2 cap2 xs2 _ hr2 (by omega)).mono ?_
  rintro e w4 ⟨Ax1, kx2, rfl, o3, hx⟩
  have hs_o3 := o3.small
  replace hr2 := hr2.below hx
  replace hx0 := hx0.trans hx
  clear hx
  go_wp2_with fail
  have le_o7 : w.heap.size ≤ w4.heap.size := hx0.size
  have le_o10 : w.heap.size ≤ w4.heap.size := hx0.size
  have le_o13 : w.heap.size ≤ w4.heap.size := hx0.size
  refine (specSparseFrom_any x1 Ax1 n2 kx2 xs2 _ o3.reads).mono ?_
  rw [← Hd.out]
  rintro e w17 ⟨Ax5, kx6, Ax8, kx9, Ax11, kx12, rfl, o7, o10, o13, ne14, ne15, ne16, hx⟩
  have ne18 := rows_ne o3.row o7.row
  have hs_o7 := o7.small; simp only [ints_length] at hs_o7
  have ne19 := rows_ne o3.row o10.row
  have hs_o10 := o10.small; simp only [ints_length] at hs_o10
  have ne20 := rows_ne o3.row o13.row
  have hs_o13 := o13.small; simp only [flts_length] at hs_o13
  replace hr2 := hr2.below hx
  replace o3 := o3.ext hx
  replace hx0 := hx0.trans hx
  clear hx
  go_wp2_with fail
  obtain ⟨w22, hw⟩ : ∃ v : World, v = (w17.alloc (.cells #[.int .i64 d.sd, .slice Ax5 d.st.length kx6, .slice Ax8 d.co.length kx9, .slice Ax11 d.va.length kx12] 27)) := ⟨_, rfl⟩
  rw [← hw]
  have hx : Ext w17 w22 := by subst hw; exact (Ext.refl _).alloc _
  have b21 : Blk w22 w17.heap.size #[.int .i64 d.sd, .slice Ax5 d.st.length kx6, .slice Ax8 d.co.length kx9, .slice Ax11 d.va.length kx12] 27 := by subst hw; exact Blk.new _ _ _
  clear hw
  replace hr2 := hr2.below hx
  replace o3 := o3.ext hx
  replace o7 := o7.ext hx
  replace o10 := o10.ext hx
  replace o13 := o13.ext hx
  replace hx0 := hx0.trans hx
  clear hx
  have le_o25 : w.heap.size ≤ w22.heap.size := hx0.size
  refine (toEntryS_any A2 n2 cap2 xs2 _ hr2 (by omega)).mono ?_
  rintro e w26 ⟨Ax23, kx24, rfl, o25, hx⟩
  have ne27 := rows_ne o3.row o25.row
  have ne28 := rows_ne o7.row o25.row
  have ne29 := rows_ne o10.row o25.row
  have ne30 := rows_ne o13.row o25.row
  have hs_o25 := o25.small
  replace hr2 := hr2.below hx
  replace o3 := o3.ext hx
  replace o7 := o7.ext hx
  replace o10 := o10.ext hx
  replace o13 := o13.ext hx
  replace b21 := b21.ext hx
  replace hx0 := hx0.trans hx
  clear hx
  go_wp2_with fail
  have le_o33 : w.heap.size ≤ w26.heap.size := hx0.size
  have le_o36 : w.heap.size ≤ w26.heap.size := hx0.size
  have le_o39 : w.heap.size ≤ w26.heap.size := hx0.size
  refine (implSparseFrom_any x1 Ax23 n2 kx24 xs2 _ o25.reads).mono ?_
  rw [← Hd.out]
  rintro e w43 ⟨Ax31, kx32, Ax34, kx35, Ax37, kx38, rfl, o33, o36, o39, ne40, ne41, ne42, hx⟩
  have ne44 := rows_ne o3.row o33.row
  have ne45 := o7.ne o33
  have ne46 := o10.ne o33
  have ne47 := o13.ne o33
  have ne48 := rows_ne o25.row o33.row
  have hs_o33 := o33.small; simp only [ints_length] at hs_o33
  have ne49 := rows_ne o3.row o36.row
  have ne50 := o7.ne o36
  have ne51 := o10.ne o36
  have ne52 := o13.ne o36
  have ne53 := rows_ne o25.row o36.row
  have hs_o36 := o36.small; simp only [ints_length] at hs_o36
  have ne54 := rows_ne o3.row o39.row
  have ne55 := o7.ne o39
  have ne56 := o10.ne o39
  have ne57 := o13.ne o39
  have ne58 := rows_ne o25.row o39.row
  have hs_o39 := o39.small; simp only [flts_length] at hs_o39
  replace hr2 := hr2.below hx
  replace o3 := o3.ext hx
  replace o7 := o7.ext hx
  replace o10 := o10.ext hx
  replace o13 := o13.ext hx
  replace b21 := b21.ext hx
  replace o25 := o25.ext hx
  replace hx0 := hx0.trans hx
  clear hx
  have zb21_0 := b21.cell 0 rfl
  have zb21_1 := b21.cell 1 rfl
  have zb21_2 := b21.cell 2 rfl
  have zb21_3 := b21.cell 3 rfl
  have qb21 := b21.lt
  go_wp2_with fail
  obtain ⟨w60, hw⟩ : ∃ v : World, v = (w43.alloc (.cells #[.int .i64 d.sd, .slice Ax31 d.st.length kx32, .slice Ax34 d.co.length kx35, .slice Ax37 d.va.length kx38] 27)) := ⟨_, rfl⟩
  rw [← hw]
  have hx : Ext w43 w60 := by subst hw; exact (Ext.refl _).alloc _
  have b59 : Blk w60 w43.heap.size #[.int .i64 d.sd, .slice Ax31 d.st.length kx32, .slice Ax34 d.co.length kx35, .slice Ax37 d.va.length kx38] 27 := by subst hw; exact Blk.new _ _ _
  clear hw
  replace hr2 := hr2.below hx
  replace o3 := o3.ext hx
  replace o7 := o7.ext hx
  replace o10 := o10.ext hx
  replace o13 := o13.ext hx
  replace b21 := b21.ext hx
  replace o25 := o25.ext hx
  replace o33 := o33.ext hx
  replace o36 := o36.ext hx
  replace o39 := o39.ext hx
  replace hx0 := hx0.trans hx
  clear hx
  clear zb21_0 zb21_1 zb21_2 zb21_3 qb21
  refine (eqSparse_any d.sd d.sd Ax31 Ax34 Ax37 Ax5 Ax8 Ax11 d.st.length d.co.length d.va.length d.st.length d.co.length d.va.length kx32 kx35 kx38 kx6 kx9 kx12  d.st d.co d.va d.st d.co d.va _ o33.reads o36.reads o39.reads o7.reads o10.reads o13.reads ⟨rfl, rfl, rfl, rfl⟩).mono ?_
  rintro e w61 ⟨rfl, hx⟩
  replace hr2 := hr2.below hx
  replace o3 := o3.ext hx
  replace o7 := o7.ext hx
  replace o10 := o10.ext hx
  replace o13 := o13.ext hx
  replace b21 := b21.ext hx
  replace o25 := o25.ext hx
  replace o33 := o33.ext hx
  replace o36 := o36.ext hx
  replace o39 := o39.ext hx
  replace b59 := b59.ext hx
  replace hx0 := hx0.trans hx
  clear hx
  go_wp2_with fail
  have le_o64 : w.heap.size ≤ w61.heap.size := hx0.size
  refine (toEntryS_any A2 n2 cap2 xs2 _ hr2 (by omega)).mono ?_
  rintro e w65 ⟨Ax62, kx63, rfl, o64, hx⟩
  have ne66 := rows_ne o3.row o64.row
  have ne67 := rows_ne o7.row o64.row
  have ne68 := rows_ne o10.row o64.row
  have ne69 := rows_ne o13.row o64.row
  have ne70 := rows_ne o25.row o64.row
  have ne71 := rows_ne o33.row o64.row
  have ne72 := rows_ne o36.row o64.row
  have ne73 := rows_ne o39.row o64.row
  have hs_o64 := o64.small
  replace hr2 := hr2.below hx
  replace o3 := o3.ext hx
  replace o7 := o7.ext hx
  replace o10 := o10.ext hx
  replace o13 := o13.ext hx
  replace b21 := b21.ext hx
  replace o25 := o25.ext hx
  replace o33 := o33.ext hx
  replace o36 := o36.ext hx
  replace o39 := o39.ext hx
  replace b59 := b59.ext hx
  replace hx0 := hx0.trans hx
  clear hx
  go_wp2_with fail
  refine (eqEntryS_any Ax23 Ax62 n2 n2 kx24 kx63  xs2 xs2 _ o25.reads o64.reads rfl).mono ?_
  rintro e w74 ⟨rfl, hx⟩
  replace hr2 := hr2.below hx
  replace o3 := o3.ext hx
  replace o7 := o7.ext hx
  replace o10 := o10.ext hx
  replace o13 := o13.ext hx
  replace b21 := b21.ext hx
  replace o25 := o25.ext hx
  replace o33 := o33.ext hx
  replace o36 := o36.ext hx
  replace o39 := o39.ext hx
  replace b59 := b59.ext hx
  replace o64 := o64.ext hx
  replace hx0 := hx0.trans hx
  clear hx
  go_wp2_with fail
  refine (markEntryS_any _ Ax23 n2 kx24 _ 1 _ (by omega) o25).mono ?_
  rintro e w75 ⟨rfl, o_, hw⟩
  replace o3 := o3.other hw ne27.1
  replace o7 := o7.other hw ne28.1
  replace o10 := o10.other hw ne29.1
  replace o13 := o13.other hw ne30.1
  replace b21 := b21.wrE hw o25 (by decide)
  replace o33 := o33.other hw ne48.2
  replace o36 := o36.other hw ne53.2
  replace o39 := o39.other hw ne58.2
  replace b59 := b59.wrE hw o25 (by decide)
  replace o64 := o64.other hw ne70.2
  replace hx0 := hw.extE hx0 (o25.base le_o25)
  replace hr2 := hr20.below hx0
  clear o25 hw; have o25 := o_; clear o_
  have zb59_0 := b59.cell 0 rfl
  have zb59_1 := b59.cell 1 rfl
  have zb59_2 := b59.cell 2 rfl
  have zb59_3 := b59.cell 3 rfl
  have zb21_0 := b21.cell 0 rfl
  have zb21_1 := b21.cell 1 rfl
  have zb21_2 := b21.cell 2 rfl
  have zb21_3 := b21.cell 3 rfl
  go_wp2_with fail
  clear zb59_0 zb59_1 zb59_2 zb59_3 zb21_0 zb21_1 zb21_2 zb21_3
  refine (eqSparse_any d.sd d.sd Ax31 Ax34 Ax37 Ax5 Ax8 Ax11 d.st.length d.co.length d.va.length d.st.length d.co.length d.va.length kx32 kx35 kx38 kx6 kx9 kx12  d.st d.co d.va d.st d.co d.va _ o33.reads o36.reads o39.reads o7.reads o10.reads o13.reads ⟨rfl, rfl, rfl, rfl⟩).mono ?_
  rintro e w76 ⟨rfl, hx⟩
  replace hr2 := hr2.below hx
  replace o3 := o3.ext hx
  replace o7 := o7.ext hx
  replace o10 := o10.ext hx
  replace o13 := o13.ext hx
  replace b21 := b21.ext hx
  replace o25 := o25.ext hx
  replace o33 := o33.ext hx
  replace o36 := o36.ext hx
  replace o39 := o39.ext hx
  replace b59 := b59.ext hx
  replace o64 := o64.ext hx
  replace hx0 := hx0.trans hx
  clear hx
  have zb59_0 := b59.cell 0 rfl
  have zb59_1 := b59.cell 1 rfl
  have zb59_2 := b59.cell 2 rfl
  have zb59_3 := b59.cell 3 rfl
  go_wp2_with fail
  clear zb59_0 zb59_1 zb59_2 zb59_3
  refine (markSparse_any _ d.sd Ax31 d.st.length kx32 Ax34 d.co.length kx35 Ax37 d.va.length kx38 _ _ _ 1 _ (by omega) o33 o36 o39 ne40 ne41 ne42).mono ?_
  rintro e w77 ⟨rfl, w78, w79, o1_, hw, o2_, hw2, o3_, hw3⟩
  replace o3 := o3.other hw ne44.1
  replace o7 := o7.other hw ne45.1
  replace o10 := o10.other hw ne46.1
  replace o13 := o13.other hw ne47.1
  replace b21 := b21.wr hw o33 (by decide)
  replace o25 := o25.other hw ne48.1
  replace o36 := o36.other hw ne40.2
  replace o39 := o39.other hw ne41.2
  replace b59 := b59.wr hw o33 (by decide)
  replace o64 := o64.other hw ne71.2
  replace hx0 := hw.ext hx0 (o33.base le_o33)
  replace hr2 := hr20.below hx0
  clear o33 hw; have o33 := o1_; clear o1_; have hw := hw2; clear hw2
  replace o3 := o3.other hw ne49.1
  replace o7 := o7.other hw ne50.1
  replace o10 := o10.other hw ne51.1
  replace o13 := o13.other hw ne52.1
  replace b21 := b21.wr hw o36 (by decide)
  replace o25 := o25.other hw ne53.1
  replace o33 := o33.other hw ne40.1
  replace o39 := o39.other hw ne42.2
  replace b59 := b59.wr hw o36 (by decide)
  replace o64 := o64.other hw ne72.2
  replace hx0 := hw.ext hx0 (o36.base le_o36)
  replace hr2 := hr20.below hx0
  clear o36 hw; have o36 := o2_; clear o2_; have hw := hw3; clear hw3
  replace o3 := o3.other hw ne54.1
  replace o7 := o7.other hw ne55.1
  replace o10 := o10.other hw ne56.1
  replace o13 := o13.other hw ne57.1
  replace b21 := b21.wr hw o39 (by decide)
  replace o25 := o25.other hw ne58.1
  replace o33 := o33.other hw ne41.1
  replace o36 := o36.other hw ne42.1
  replace b59 := b59.wr hw o39 (by decide)
  replace o64 := o64.other hw ne73.2
  replace hx0 := hw.ext hx0 (o39.base le_o39)
  replace hr2 := hr20.below hx0
  clear o39 hw; have o39 := o3_; clear o3_
  have zb59_0 := b59.cell 0 rfl
  have zb59_1 := b59.cell 1 rfl
  have zb59_2 := b59.cell 2 rfl
  have zb59_3 := b59.cell 3 rfl
  go_wp2_with fail
  clear zb59_0 zb59_1 zb59_2 zb59_3
  refine (heldSparse_any d.sd Ax31 d.st.length kx32 Ax34 d.co.length kx35 Ax37 d.va.length kx38 1 _ (by omega) (by omega) (by omega) (by omega) o33.reads o36.reads o39.reads).mono ?_
  rintro e w80 ⟨rfl, hx⟩
  replace hr2 := hr2.below hx
  replace o3 := o3.ext hx
  replace o7 := o7.ext hx
  replace o10 := o10.ext hx
  replace o13 := o13.ext hx
  replace b21 := b21.ext hx
  replace o25 := o25.ext hx
  replace o33 := o33.ext hx
  replace o36 := o36.ext hx
  replace o39 := o39.ext hx
  replace b59 := b59.ext hx
  replace o64 := o64.ext hx
  replace hx0 := hx0.trans hx
  clear hx
  go_wp2_with fail
  have le_o83 : w.heap.size ≤ w80.heap.size := hx0.size
  refine (toEntryS_any A2 n2 cap2 xs2 _ hr2 (by omega)).mono ?_
  rintro e w84 ⟨Ax81, kx82, rfl, o83, hx⟩
  have ne85 := rows_ne o3.row o83.row
  have ne86 := rows_ne o7.row o83.row
  have ne87 := rows_ne o10.row o83.row
  have ne88 := rows_ne o13.row o83.row
  have ne89 := rows_ne o25.row o83.row
  have ne90 := rows_ne o33.row o83.row
  have ne91 := rows_ne o36.row o83.row
  have ne92 := rows_ne o39.row o83.row
  have ne93 := rows_ne o64.row o83.row
  have hs_o83 := o83.small
  replace hr2 := hr2.below hx
  replace o3 := o3.ext hx
  replace o7 := o7.ext hx
  replace o10 := o10.ext hx
  replace o13 := o13.ext hx
  replace b21 := b21.ext hx
  replace o25 := o25.ext hx
  replace o33 := o33.ext hx
  replace o36 := o36.ext hx
  replace o39 := o39.ext hx
  replace b59 := b59.ext hx
  replace o64 := o64.ext hx
  replace hx0 := hx0.trans hx
  clear hx
  go_wp2_with fail
  have le_o96 : w.heap.size ≤ w84.heap.size := hx0.size
  have le_o99 : w.heap.size ≤ w84.heap.size := hx0.size
  have le_o102 : w.heap.size ≤ w84.heap.size := hx0.size
  refine (implSparseFrom_any x1 Ax81 n2 kx82 xs2 _ o83.reads).mono ?_
  rw [← Hd.out]
  rintro e w106 ⟨Ax94, kx95, Ax97, kx98, Ax100, kx101, rfl, o96, o99, o102, ne103, ne104, ne105, hx⟩
  have ne107 := rows_ne o3.row o96.row
  have ne108 := o7.ne o96
  have ne109 := o10.ne o96
  have ne110 := o13.ne o96
  have ne111 := rows_ne o25.row o96.row
  have ne112 := o33.ne o96
  have ne113 := o36.ne o96
  have ne114 := o39.ne o96
  have ne115 := rows_ne o64.row o96.row
  have ne116 := rows_ne o83.row o96.row
  have hs_o96 := o96.small; simp only [ints_length] at hs_o96
  have ne117 := rows_ne o3.row o99.row
  have ne118 := o7.ne o99
  have ne119 := o10.ne o99
  have ne120 := o13.ne o99
  have ne121 := rows_ne o25.row o99.row
  have ne122 := o33.ne o99
  have ne123 := o36.ne o99
  have ne124 := o39.ne o99
  have ne125 := rows_ne o64.row o99.row
  have ne126 := rows_ne o83.row o99.row
  have hs_o99 := o99.small; simp only [ints_length] at hs_o99
  have ne127 := rows_ne o3.row o102.row
  have ne128 := o7.ne o102
  have ne129 := o10.ne o102
  have ne130 := o13.ne o102
  have ne131 := rows_ne o25.row o102.row
  have ne132 := o33.ne o102
  have ne133 := o36.ne o102
  have ne134 := o39.ne o102
  have ne135 := rows_ne o64.row o102.row
  have ne136 := rows_ne o83.row o102.row
  have hs_o102 := o102.small; simp only [flts_length] at hs_o102
  replace hr2 := hr2.below hx
  replace o3 := o3.ext hx
  replace o7 := o7.ext hx
  replace o10 := o10.ext hx
  replace o13 := o13.ext hx
  replace b21 := b21.ext hx
  replace o25 := o25.ext hx
  replace o33 := o33.ext hx
  replace o36 := o36.ext hx
  replace o39 := o39.ext hx
  replace b59 := b59.ext hx
  replace o64 := o64.ext hx
  replace o83 := o83.ext hx
  replace hx0 := hx0.trans hx
  clear hx
  have zb21_0 := b21.cell 0 rfl
  have zb21_1 := b21.cell 1 rfl
  have zb21_2 := b21.cell 2 rfl
  have zb21_3 := b21.cell 3 rfl
  have qb21 := b21.lt
  go_wp2_with fail
  obtain ⟨w138, hw⟩ : ∃ v : World, v = (w106.alloc (.cells #[.int .i64 d.sd, .slice Ax94 d.st.length kx95, .slice Ax97 d.co.length kx98, .slice Ax100 d.va.length kx101] 27)) := ⟨_, rfl⟩
  rw [← hw]
  have hx : Ext w106 w138 := by subst hw; exact (Ext.refl _).alloc _
  have b137 : Blk w138 w106.heap.size #[.int .i64 d.sd, .slice Ax94 d.st.length kx95, .slice Ax97 d.co.length kx98, .slice Ax100 d.va.length kx101] 27 := by subst hw; exact Blk.new _ _ _
  clear hw
  replace hr2 := hr2.below hx
  replace o3 := o3.ext hx
  replace o7 := o7.ext hx
  replace o10 := o10.ext hx
  replace o13 := o13.ext hx
  replace b21 := b21.ext hx
  replace o25 := o25.ext hx
  replace o33 := o33.ext hx
  replace o36 := o36.ext hx
  replace o39 := o39.ext hx
  replace b59 := b59.ext hx
  replace o64 := o64.ext hx
  replace o83 := o83.ext hx
  replace o96 := o96.ext hx
  replace o99 := o99.ext hx
  replace o102 := o102.ext hx
  replace hx0 := hx0.trans hx
  clear hx
  clear zb21_0 zb21_1 zb21_2 zb21_3 qb21
  refine (eqSparse_any d.sd d.sd Ax94 Ax97 Ax100 Ax5 Ax8 Ax11 d.st.length d.co.length d.va.length d.st.length d.co.length d.va.length kx95 kx98 kx101 kx6 kx9 kx12  d.st d.co d.va d.st d.co d.va _ o96.reads o99.reads o102.reads o7.reads o10.reads o13.reads ⟨rfl, rfl, rfl, rfl⟩).mono ?_
  rintro e w139 ⟨rfl, hx⟩
  replace hr2 := hr2.below hx
  replace o3 := o3.ext hx
  replace o7 := o7.ext hx
  replace o10 := o10.ext hx
  replace o13 := o13.ext hx
  replace b21 := b21.ext hx
  replace o25 := o25.ext hx
  replace o33 := o33.ext hx
  replace o36 := o36.ext hx
  replace o39 := o39.ext hx
  replace b59 := b59.ext hx
  replace o64 := o64.ext hx
  replace o83 := o83.ext hx
  replace o96 := o96.ext hx
  replace o99 := o99.ext hx
  replace o102 := o102.ext hx
  replace b137 := b137.ext hx
  replace hx0 := hx0.trans hx
  clear hx
  have zb59_0 := b59.cell 0 rfl
  have zb59_1 := b59.cell 1 rfl
  have zb59_2 := b59.cell 2 rfl
  have zb59_3 := b59.cell 3 rfl
  go_wp2_with fail
  clear zb59_0 zb59_1 zb59_2 zb59_3
  refine (heldSparse_any d.sd Ax31 d.st.length kx32 Ax34 d.co.length kx35 Ax37 d.va.length kx38 1 _ (by omega) (by omega) (by omega) (by omega) o33.reads o36.reads o39.reads).mono ?_
  rintro e w140 ⟨rfl, hx⟩
  replace hr2 := hr2.below hx
  replace o3 := o3.ext hx
  replace o7 := o7.ext hx
  replace o10 := o10.ext hx
  replace o13 := o13.ext hx
  replace b21 := b21.ext hx
  replace o25 := o25.ext hx
  replace o33 := o33.ext hx
  replace o36 := o36.ext hx
  replace o39 := o39.ext hx
  replace b59 := b59.ext hx
  replace o64 := o64.ext hx
  replace o83 := o83.ext hx
  replace o96 := o96.ext hx
  replace o99 := o99.ext hx
  replace o102 := o102.ext hx
  replace b137 := b137.ext hx
  replace hx0 := hx0.trans hx
  clear hx
  go_wp2_with fail
  go_ret
  exact ⟨rfl, hx0⟩

end Go.Proofs.Ytkifpligpobiaaa
