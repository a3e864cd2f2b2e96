
import Derived.Test.YtkifpligpobiaaaV6

import Derived.Test.YtkifpligpobiaaaSB1
set_option linter.unusedVariables false
set_option linter.unusedSimpArgs false

namespace Go.Proofs.Ytkifpligpobiaaa

open Go.RowKit


set_option maxRecDepth 20000 in
set_option maxHeartbeats 8000000 in
theorem law_SameSparse (r1 : Int) (A1a : Option Addr) (n1a cap1a : Nat) (xs1a : List Int) (A1b : Option Addr) (n1b cap1b : Nat) (xs1b : List Int) (A1c : Option Addr) (n1c cap1c : Nat) (xs1c : List Nat) (r2 : Int) (A2a : Option Addr) (n2a cap2a : Nat) (xs2a : List Int) (A2b : Option Addr) (n2b cap2b : Nat) (xs2b : List Int) (A2c : Option Addr) (n2c cap2c : Nat) (xs2c : List Nat) (w : World) (hr1a : Rds w A1a n1a (ints xs1a)) (hr1b : Rds w A1b n1b (ints xs1b)) (hr1c : Rds w A1c n1c (flts xs1c)) (hr2a : Rds w A2a n2a (ints xs2a)) (hr2b : Rds w A2b n2b (ints xs2b)) (hr2c : Rds w A2c n2c (flts xs2c)) (hwf1 : ∀ x ∈ xs1c, x < 4294967296) (hwf2 : ∀ x ∈ xs2c, x < 4294967296) :
    Calls Try.prog 5 #[.agg #[.int .i64 r1, .slice A1a n1a cap1a, .slice A1b n1b cap1b, .slice A1c n1c cap1c], .agg #[.int .i64 r2, .slice A2a n2a cap2a, .slice A2b n2b cap2b, .slice A2c n2c cap2c]] w fun e w' => e = .returned (.bool true) ∧ Ext w w' := by
  have hs_hr1a := hr1a.small
  have hs_hr1b := hr1b.small
  have hs_hr1c := hr1c.small
  have hs_hr2a := hr2a.small
  have hs_hr2b := hr2b.small
  have hs_hr2c := hr2c.small
  obtain ⟨w0, hw0⟩ : ∃ w0 : World, w0 = ((w.alloc (.cells #[.int .i64 r1, .slice A1a n1a cap1a, .slice A1b n1b cap1b, .slice A1c n1c cap1c] 25)).alloc (.cells #[.int .i64 r2, .slice A2a n2a cap2a, .slice A2b n2b cap2b, .slice A2c n2c cap2c] 25)) := ⟨_, rfl⟩
  have b0 : Blk w0 (w.heap.size) #[.int .i64 r1, .slice A1a n1a cap1a, .slice A1b n1b cap1b, .slice A1c n1c cap1c] 25 := by subst hw0; simpa using (Blk.new w #[.int .i64 r1, .slice A1a n1a cap1a, .slice A1b n1b cap1b, .slice A1c n1c cap1c] 25).ext ((Ext.refl _).alloc _)
  have b1 : Blk w0 (w.heap.size + 1) #[.int .i64 r2, .slice A2a n2a cap2a, .slice A2b n2b cap2b, .slice A2c n2c cap2c] 25 := by subst hw0; simpa using (Blk.new (w.alloc (.cells #[.int .i64 r1, .slice A1a n1a cap1a, .slice A1b n1b cap1b, .slice A1c n1c cap1c] 25)) #[.int .i64 r2, .slice A2a n2a cap2a, .slice A2b n2b cap2b, .slice A2c n2c cap2c] 25)
  have hx0 : Ext w w0 := by subst hw0; exact ((Ext.refl _).alloc _).alloc _
  have Hw0 := Lib.hid hw0
  clear hw0
  have hr1a0 := hr1a; replace hr1a := hr1a.below hx0
  have hr1b0 := hr1b; replace hr1b := hr1b.below hx0
  have hr1c0 := hr1c; replace hr1c := hr1c.below hx0
  have hr2a0 := hr2a; replace hr2a := hr2a.below hx0
  have hr2b0 := hr2b; replace hr2b := hr2b.below hx0
  have hr2c0 := hr2c; replace hr2c := hr2c.below hx0
  obtain ⟨d, hd⟩ : ∃ d : Bool, d = sameSp r1 r2 xs1a xs1b xs1c xs2a xs2b xs2c := ⟨_, rfl⟩
  have Hd := Lib.hid hd; clear hd
  have Hwf1 := Lib.hid hwf1
  have Hwf2 := Lib.hid hwf2
  clear hwf1 hwf2
  by_cases hn0 : n1a + n1b + n1c ≤ 1048576
  rotate_left
  · have HS0 : Hid (szL (n1a + n1b + n1c) (1048576) = -1) := by show szL _ _ = -1; unfold szL; rw [if_pos (by omega)]
    go_enter Try.func5, Try.ntmps5
    have zb0_0 := b0.cell 0 rfl
    have zb0_1 := b0.cell 1 rfl
    have zb0_2 := b0.cell 2 rfl
    have zb0_3 := b0.cell 3 rfl
    go_wp2_with fail
    rw [← Hw0.out]
    clear zb0_0 zb0_1 zb0_2 zb0_3
    refine (szSparse_any r1 A1a n1a cap1a A1b n1b cap1b A1c n1c cap1c 1048576 (by omega) (by omega) (by omega) (by omega) _).mono ?_
    rw [HS0.out]
    rintro e w1 ⟨rfl, hx⟩
    replace b0 := b0.ext hx
    replace b1 := b1.ext hx
    replace hr1a := hr1a.below hx
    replace hr1b := hr1b.below hx
    replace hr1c := hr1c.below hx
    replace hr2a := hr2a.below hx
    replace hr2b := hr2b.below hx
    replace hr2c := hr2c.below hx
    replace hx0 := hx0.trans hx
    clear hx
    go_wp2_with fail
    go_ret
    exact ⟨rfl, hx0⟩
  have HS0 : Hid (szL (n1a + n1b + n1c) (1048576) = 1048576 - (n1a + n1b + n1c)) := by show szL _ _ = _; unfold szL; rw [if_neg (by omega)] <;> omega
  by_cases hn1 : n1a + n1b + n1c + n2a + n2b + n2c ≤ 1048576
  rotate_left
  · have HS1 : Hid (szL (n2a + n2b + n2c) (1048576 - (n1a + n1b + n1c)) = -1) := by show szL _ _ = -1; unfold szL; rw [if_pos (by omega)]
    go_enter Try.func5, Try.ntmps5
    have zb0_0 := b0.cell 0 rfl
    have zb0_1 := b0.cell 1 rfl
    have zb0_2 := b0.cell 2 rfl
    have zb0_3 := b0.cell 3 rfl
    go_wp2_with fail
    rw [← Hw0.out]
    clear zb0_0 zb0_1 zb0_2 zb0_3
    refine (szSparse_any r1 A1a n1a cap1a A1b n1b cap1b A1c n1c cap1c 1048576 (by omega) (by omega) (by omega) (by omega) _).mono ?_
    rw [HS0.out]
    rintro e w1 ⟨rfl, hx⟩
    replace b0 := b0.ext hx
    replace b1 := b1.ext hx
    replace hr1a := hr1a.below hx
    replace hr1b := hr1b.below hx
    replace hr1c := hr1c.below hx
    replace hr2a := hr2a.below hx
    replace hr2b := hr2b.below hx
    replace hr2c := hr2c.below hx
    replace hx0 := hx0.trans hx
    clear hx
    have zb1_0 := b1.cell 0 rfl
    have zb1_1 := b1.cell 1 rfl
    have zb1_2 := b1.cell 2 rfl
    have zb1_3 := b1.cell 3 rfl
    go_wp2_with fail
    clear zb1_0 zb1_1 zb1_2 zb1_3
    refine (szSparse_any r2 A2a n2a cap2a A2b n2b cap2b A2c n2c cap2c (1048576 - (n1a + n1b + n1c)) (by omega) (by omega) (by omega) (by omega) _).mono ?_
    rw [HS1.out]
    rintro e w2 ⟨rfl, hx⟩
    replace b0 := b0.ext hx
    replace b1 := b1.ext hx
    replace hr1a := hr1a.below hx
    replace hr1b := hr1b.below hx
    replace hr1c := hr1c.below hx
    replace hr2a := hr2a.below hx
    replace hr2b := hr2b.below hx
    replace hr2c := hr2c.below hx
    replace hx0 := hx0.trans hx
    clear hx
    go_wp2_with fail
    go_ret
    exact ⟨rfl, hx0⟩
  have HS1 : Hid (szL (n2a + n2b + n2c) (1048576 - (n1a + n1b + n1c)) = 1048576 - (n1a + n1b + n1c) - (n2a + n2b + n2c)) := by show szL _ _ = _; unfold szL; rw [if_neg (by omega)] <;> omega
  go_enter Try.func5, Try.ntmps5
  have zb0_0 := b0.cell 0 rfl
  have zb0_1 := b0.cell 1 rfl
  have zb0_2 := b0.cell 2 rfl
  have zb0_3 := b0.cell 3 rfl
  go_wp2_with fail
  rw [← Hw0.out]
  clear zb0_0 zb0_1 zb0_2 zb0_3
  refine (szSparse_any r1 A1a n1a cap1a A1b n1b cap1b A1c n1c cap1c 1048576 (by omega) (by omega) (by omega) (by omega) _).mono ?_
  rw [HS0.out]
  rintro e w1 ⟨rfl, hx⟩
  replace b0 := b0.ext hx
  replace b1 := b1.ext hx
  replace hr1a := hr1a.below hx
  replace hr1b := hr1b.below hx
  replace hr1c := hr1c.below hx
  replace hr2a := hr2a.below hx
  replace hr2b := hr2b.below hx
  replace hr2c := hr2c.below hx
  replace hx0 := hx0.trans hx
  clear hx
  have zb1_0 := b1.cell 0 rfl
  have zb1_1 := b1.cell 1 rfl
  have zb1_2 := b1.cell 2 rfl
  have zb1_3 := b1.cell 3 rfl
  go_wp2_with fail
  clear zb1_0 zb1_1 zb1_2 zb1_3
  refine (szSparse_any r2 A2a n2a cap2a A2b n2b cap2b A2c n2c cap2c (1048576 - (n1a + n1b + n1c)) (by omega) (by omega) (by omega) (by omega) _).mono ?_
  rw [HS1.out]
  rintro e w2 ⟨rfl, hx⟩
  replace b0 := b0.ext hx
  replace b1 := b1.ext hx
  replace hr1a := hr1a.below hx
  replace hr1b := hr1b.below hx
  replace hr1c := hr1c.below hx
  replace hr2a := hr2a.below hx
  replace hr2b := hr2b.below hx
  replace hr2c := hr2c.below hx
  replace hx0 := hx0.trans hx
  clear hx
  go_wp2_with fail
  have zb0_0 := b0.cell 0 rfl
  have zb0_1 := b0.cell 1 rfl
  have zb0_2 := b0.cell 2 rfl
  have zb0_3 := b0.cell 3 rfl
  have zb1_0 := b1.cell 0 rfl
  have zb1_1 := b1.cell 1 rfl
  have zb1_2 := b1.cell 2 rfl
  have zb1_3 := b1.cell 3 rfl
  refine wp_region_T (cs := []) [0, 1, 2, 3, 4, 5] [] [1, 3, 4] [(4, [1, 3])] (fun i__ v => match i__ with | 1 => ∃ (Ax3 : Option Addr) (kx4 : Nat) (Ax6 : Option Addr) (kx7 : Nat) (Ax9 : Option Addr) (kx10 : Nat), v = (.agg #[.int .i64 r1, .slice Ax3 n1a kx4, .slice Ax6 n1b kx7, .slice Ax9 n1c kx10]) | 3 => ∃ (Ax15 : Option Addr) (kx16 : Nat) (Ax18 : Option Addr) (kx19 : Nat) (Ax21 : Option Addr) (kx22 : Nat), v = (.agg #[.int .i64 r2, .slice Ax15 n2a kx16, .slice Ax18 n2b kx19, .slice Ax21 n2c kx22]) | 4 => v = (.bool d) | _ => False) (fun i__ v w' => match i__ with | 1 => OwnF w' w2.heap.size 2 v [1] (ints xs1a) ∧ OwnF w' w2.heap.size 2 v [2] (ints xs1b) ∧ OwnF w' w2.heap.size 43 v [3] (flts xs1c) | 3 => OwnF w' w2.heap.size 2 v [1] (ints xs2a) ∧ OwnF w' w2.heap.size 2 v [2] (ints xs2b) ∧ OwnF w' w2.heap.size 43 v [3] (flts xs2c) | _ => True) (by kernel_rfl) (by kernel_rfl) (by intro i v w' w2 h hx; revert h; (try dsimp only); split <;> intro h <;> first | trivial | exact RdsF.ext h hx | exact OwnF.ext h hx | exact BlkF.ext h hx | exact ⟨RdsF.ext h.1 hx, RdsF.ext h.2 hx⟩ | exact ⟨OwnF.ext h.1 hx, OwnF.ext h.2 hx⟩ | exact ⟨RdsF.ext h.1 hx, RdsF.ext h.2.1 hx, RdsF.ext h.2.2 hx⟩ | exact ⟨OwnF.ext h.1 hx, OwnF.ext h.2.1 hx, OwnF.ext h.2.2 hx⟩) ?_
  refine' wpT_det (o := ⟨some 20, Op.load 25 (Operand.tmp 2), 25, "exact.go:4679", #[], none⟩) rfl (by rfl) (by rfl) (fun w' hw' => ?_) ?_; rotate_left
  · have zb0_0_ := Ext.cell hw' zb0_0; have zb0_1_ := Ext.cell hw' zb0_1; have zb0_2_ := Ext.cell hw' zb0_2; have zb0_3_ := Ext.cell hw' zb0_3; have zb1_0_ := Ext.cell hw' zb1_0; have zb1_1_ := Ext.cell hw' zb1_1; have zb1_2_ := Ext.cell hw' zb1_2; have zb1_3_ := Ext.cell hw' zb1_3; go_simp <;> first | rfl | exact ⟨rfl, rfl⟩
  simp only [Act.put, List.setIfInBounds_toArray, List.set_cons_zero, List.set_cons_succ]
  refine wpT_nd (o := ⟨some 21, Op.call { callee := Callee.value (Operand.func 22), args := #[Operand.tmp 20], argTypes := #[25] }, 27, "exact.go:4679", #[{ on := 0, ground := Ground.data }], none⟩) rfl (by rfl) (by rfl) (fun w' hw' hF R__ hGo => ?_) ⟨_, none, 0, none, 0, none, 0, rfl⟩ ?_
  · go_simp
    refine gives_enter rfl ?_
    refine (toSparse_any r1 A1a n1a cap1a A1b n1b cap1b A1c n1c cap1c xs1a xs1b xs1c _ (hr1a.below hw'.undrew) (hr1b.below hw'.undrew) (hr1c.below hw'.undrew) (by omega) (by omega) (by omega)).mono ?_
    rintro e w2 ⟨Ax3, kx4, Ax6, kx7, Ax9, kx10, rfl, o5, o8, o11, ne12, ne13, ne14, hx⟩
    exact ⟨_, rfl, hGo _ _ hx ⟨_, _, _, _, _, _, rfl⟩ ⟨OwnF.of (o5.base hw'.size) rfl, OwnF.of (o8.base hw'.size) rfl, OwnF.of (o11.base hw'.size) rfl⟩⟩
  rintro _ ⟨Ax3, kx4, Ax6, kx7, Ax9, kx10, rfl⟩
  simp only [Act.put, List.setIfInBounds_toArray, List.set_cons_zero, List.set_cons_succ]
  refine' wpT_det (o := ⟨some 22, Op.load 25 (Operand.tmp 3), 25, "exact.go:4679", #[], none⟩) rfl (by rfl) (by rfl) (fun w' hw' => ?_) ?_; rotate_left
  · have zb0_0_ := Ext.cell hw' zb0_0; have zb0_1_ := Ext.cell hw' zb0_1; have zb0_2_ := Ext.cell hw' zb0_2; have zb0_3_ := Ext.cell hw' zb0_3; have zb1_0_ := Ext.cell hw' zb1_0; have zb1_1_ := Ext.cell hw' zb1_1; have zb1_2_ := Ext.cell hw' zb1_2; have zb1_3_ := Ext.cell hw' zb1_3; go_simp <;> first | rfl | exact ⟨rfl, rfl⟩
  simp only [Act.put, List.setIfInBounds_toArray, List.set_cons_zero, List.set_cons_succ]
  refine wpT_nd (o := ⟨some 23, Op.call { callee := Callee.value (Operand.func 22), args := #[Operand.tmp 22], argTypes := #[25] }, 27, "exact.go:4679", #[{ on := 2, ground := Ground.data }, { on := 1, ground := Ground.chain }], none⟩) rfl (by rfl) (by rfl) (fun w' hw' hF R__ hGo => ?_) ⟨_, none, 0, none, 0, none, 0, rfl⟩ ?_
  · go_simp
    refine gives_enter rfl ?_
    refine (toSparse_any r2 A2a n2a cap2a A2b n2b cap2b A2c n2c cap2c xs2a xs2b xs2c _ (hr2a.below hw'.undrew) (hr2b.below hw'.undrew) (hr2c.below hw'.undrew) (by omega) (by omega) (by omega)).mono ?_
    rintro e w2 ⟨Ax15, kx16, Ax18, kx19, Ax21, kx22, rfl, o17, o20, o23, ne24, ne25, ne26, hx⟩
    exact ⟨_, rfl, hGo _ _ hx ⟨_, _, _, _, _, _, rfl⟩ ⟨OwnF.of (o17.base hw'.size) rfl, OwnF.of (o20.base hw'.size) rfl, OwnF.of (o23.base hw'.size) rfl⟩⟩
  rintro _ ⟨Ax15, kx16, Ax18, kx19, Ax21, kx22, rfl⟩
  simp only [Act.put, List.setIfInBounds_toArray, List.set_cons_zero, List.set_cons_succ]
  refine wpT_nd (o := ⟨some 24, Op.call { callee := Callee.value (Operand.func 32), args := #[Operand.tmp 21, Operand.tmp 23], argTypes := #[27, 27] }, 4, "exact.go:4679", #[{ on := 1, ground := Ground.data }, { on := 3, ground := Ground.data }, { on := 3, ground := Ground.chain }], none⟩) rfl (by rfl) (by rfl) (fun w' hw' hF R__ hGo => ?_) ⟨_, rfl⟩ ?_
  · go_simp
    refine gives_enter rfl ?_
    refine (specSameSparse_any r1 Ax3 n1a kx4 Ax6 n1b kx7 Ax9 n1c kx10 r2 Ax15 n2a kx16 Ax18 n2b kx19 Ax21 n2c kx22 xs1a xs1b xs1c xs2a xs2b xs2c _ Hwf1.out Hwf2.out ((hF 1 (by simp [uses]) _ rfl).1 _ _ _ rfl).reads ((hF 1 (by simp [uses]) _ rfl).2.1 _ _ _ rfl).reads ((hF 1 (by simp [uses]) _ rfl).2.2 _ _ _ rfl).reads ((hF 3 (by simp [uses]) _ rfl).1 _ _ _ rfl).reads ((hF 3 (by simp [uses]) _ rfl).2.1 _ _ _ rfl).reads ((hF 3 (by simp [uses]) _ rfl).2.2 _ _ _ rfl).reads).mono ?_
    rw [← Hd.out]
    rintro e w2 ⟨rfl, hx⟩
    exact ⟨_, rfl, hGo _ _ hx rfl trivial⟩
  intro v hv
  obtain rfl : v = (.bool d) := hv
  simp only [Act.put, List.setIfInBounds_toArray, List.set_cons_zero, List.set_cons_succ]
  refine' wpT_det (o := ⟨some 6, Op.assign (Operand.tmp 24), 4, "exact.go:4679", #[{ on := 4, ground := Ground.data }, { on := 4, ground := Ground.chain }, { on := 0, ground := Ground.phase }, { on := 1, ground := Ground.phase }, { on := 2, ground := Ground.phase }, { on := 3, ground := Ground.phase }, { on := 4, ground := Ground.phase }], none⟩) rfl (by rfl) (by rfl) (fun w' hw' => ?_) ?_; rotate_left
  · go_simp <;> first | rfl | exact ⟨rfl, rfl⟩
  simp only [Act.put, List.setIfInBounds_toArray, List.set_cons_zero, List.set_cons_succ]
  refine wpT_nil (fun w27 hw' hF => ?_)
  refine wpList_nil ?_
  clear zb0_0 zb0_1 zb0_2 zb0_3 zb1_0 zb1_1 zb1_2 zb1_3
  have hx := hw'.undrew; clear hw'
  clear hF
  replace b0 := b0.ext hx
  replace b1 := b1.ext hx
  replace hr1a := hr1a.below hx
  replace hr1b := hr1b.below hx
  replace hr1c := hr1c.below hx
  replace hr2a := hr2a.below hx
  replace hr2b := hr2b.below hx
  replace hr2c := hr2c.below hx
  replace hx0 := hx0.trans hx
  clear hx
  have zb0_0 := b0.cell 0 rfl
  have zb0_1 := b0.cell 1 rfl
  have zb0_2 := b0.cell 2 rfl
  have zb0_3 := b0.cell 3 rfl
  go_wp2_with fail
  clear zb0_0 zb0_1 zb0_2 zb0_3
  have le_o30 : w.heap.size ≤ w27.heap.size := hx0.size
  have le_o33 : w.heap.size ≤ w27.heap.size := hx0.size
  have le_o36 : w.heap.size ≤ w27.heap.size := hx0.size
  refine (toSparse_any r1 A1a n1a cap1a A1b n1b cap1b A1c n1c cap1c xs1a xs1b xs1c _ hr1a hr1b hr1c (by omega) (by omega) (by omega)).mono ?_
  rintro e w40 ⟨Ax28, kx29, Ax31, kx32, Ax34, kx35, rfl, o30, o33, o36, ne37, ne38, ne39, hx⟩
  have hs_o30 := o30.small; simp only [ints_length] at hs_o30
  have hs_o33 := o33.small; simp only [ints_length] at hs_o33
  have hs_o36 := o36.small; simp only [flts_length] at hs_o36
  replace b0 := b0.ext hx
  replace b1 := b1.ext hx
  replace hr1a := hr1a.below hx
  replace hr1b := hr1b.below hx
  replace hr1c := hr1c.below hx
  replace hr2a := hr2a.below hx
  replace hr2b := hr2b.below hx
  replace hr2c := hr2c.below hx
  replace hx0 := hx0.trans hx
  clear hx
  have zb1_0 := b1.cell 0 rfl
  have zb1_1 := b1.cell 1 rfl
  have zb1_2 := b1.cell 2 rfl
  have zb1_3 := b1.cell 3 rfl
  have qb1 := b1.lt
  go_wp2_with fail
  obtain ⟨w42, hw⟩ : ∃ v : World, v = (w40.alloc (.cells #[.int .i64 r1, .slice Ax28 n1a kx29, .slice Ax31 n1b kx32, .slice Ax34 n1c kx35] 27)) := ⟨_, rfl⟩
  rw [← hw]
  have hx : Ext w40 w42 := by subst hw; exact (Ext.refl _).alloc _
  have b41 : Blk w42 w40.heap.size #[.int .i64 r1, .slice Ax28 n1a kx29, .slice Ax31 n1b kx32, .slice Ax34 n1c kx35] 27 := by subst hw; exact Blk.new _ _ _
  clear hw
  replace b0 := b0.ext hx
  replace b1 := b1.ext hx
  replace hr1a := hr1a.below hx
  replace hr1b := hr1b.below hx
  replace hr1c := hr1c.below hx
  replace hr2a := hr2a.below hx
  replace hr2b := hr2b.below hx
  replace hr2c := hr2c.below hx
  replace o30 := o30.ext hx
  replace o33 := o33.ext hx
  replace o36 := o36.ext hx
  replace hx0 := hx0.trans hx
  clear hx
  clear zb1_0 zb1_1 zb1_2 zb1_3 qb1
  have le_o45 : w.heap.size ≤ w42.heap.size := hx0.size
  have le_o48 : w.heap.size ≤ w42.heap.size := hx0.size
  have le_o51 : w.heap.size ≤ w42.heap.size := hx0.size
  refine (toSparse_any r2 A2a n2a cap2a A2b n2b cap2b A2c n2c cap2c xs2a xs2b xs2c _ hr2a hr2b hr2c (by omega) (by omega) (by omega)).mono ?_
  rintro e w55 ⟨Ax43, kx44, Ax46, kx47, Ax49, kx50, rfl, o45, o48, o51, ne52, ne53, ne54, hx⟩
  have ne56 := o30.ne o45
  have ne57 := o33.ne o45
  have ne58 := o36.ne o45
  have hs_o45 := o45.small; simp only [ints_length] at hs_o45
  have ne59 := o30.ne o48
  have ne60 := o33.ne o48
  have ne61 := o36.ne o48
  have hs_o48 := o48.small; simp only [ints_length] at hs_o48
  have ne62 := o30.ne o51
  have ne63 := o33.ne o51
  have ne64 := o36.ne o51
  have hs_o51 := o51.small; simp only [flts_length] at hs_o51
  replace b0 := b0.ext hx
  replace b1 := b1.ext hx
  replace hr1a := hr1a.below hx
  replace hr1b := hr1b.below hx
  replace hr1c := hr1c.below hx
  replace hr2a := hr2a.below hx
  replace hr2b := hr2b.below hx
  replace hr2c := hr2c.below hx
  replace o30 := o30.ext hx
  replace o33 := o33.ext hx
  replace o36 := o36.ext hx
  replace b41 := b41.ext hx
  replace hx0 := hx0.trans hx
  clear hx
  have zb41_0 := b41.cell 0 rfl
  have zb41_1 := b41.cell 1 rfl
  have zb41_2 := b41.cell 2 rfl
  have zb41_3 := b41.cell 3 rfl
  have qb41 := b41.lt
  go_wp2_with fail
  obtain ⟨w66, hw⟩ : ∃ v : World, v = (w55.alloc (.cells #[.int .i64 r2, .slice Ax43 n2a kx44, .slice Ax46 n2b kx47, .slice Ax49 n2c kx50] 27)) := ⟨_, rfl⟩
  rw [← hw]
  have hx : Ext w55 w66 := by subst hw; exact (Ext.refl _).alloc _
  have b65 : Blk w66 w55.heap.size #[.int .i64 r2, .slice Ax43 n2a kx44, .slice Ax46 n2b kx47, .slice Ax49 n2c kx50] 27 := by subst hw; exact Blk.new _ _ _
  clear hw
  replace b0 := b0.ext hx
  replace b1 := b1.ext hx
  replace hr1a := hr1a.below hx
  replace hr1b := hr1b.below hx
  replace hr1c := hr1c.below hx
  replace hr2a := hr2a.below hx
  replace hr2b := hr2b.below hx
  replace hr2c := hr2c.below hx
  replace o30 := o30.ext hx
  replace o33 := o33.ext hx
  replace o36 := o36.ext hx
  replace b41 := b41.ext hx
  replace o45 := o45.ext hx
  replace o48 := o48.ext hx
  replace o51 := o51.ext hx
  replace hx0 := hx0.trans hx
  clear hx
  clear zb41_0 zb41_1 zb41_2 zb41_3 qb41
  refine (implSameSparse_any r1 Ax28 n1a kx29 Ax31 n1b kx32 Ax34 n1c kx35 r2 Ax43 n2a kx44 Ax46 n2b kx47 Ax49 n2c kx50 xs1a xs1b xs1c xs2a xs2b xs2c _ Hwf1.out Hwf2.out o30.reads o33.reads o36.reads o45.reads o48.reads o51.reads).mono ?_
  rw [← Hd.out]
  rintro e w67 ⟨rfl, hx⟩
  replace b0 := b0.ext hx
  replace b1 := b1.ext hx
  replace hr1a := hr1a.below hx
  replace hr1b := hr1b.below hx
  replace hr1c := hr1c.below hx
  replace hr2a := hr2a.below hx
  replace hr2b := hr2b.below hx
  replace hr2c := hr2c.below hx
  replace o30 := o30.ext hx
  replace o33 := o33.ext hx
  replace o36 := o36.ext hx
  replace b41 := b41.ext hx
  replace o45 := o45.ext hx
  replace o48 := o48.ext hx
  replace o51 := o51.ext hx
  replace b65 := b65.ext hx
  replace hx0 := hx0.trans hx
  clear hx
  go_wp2_with fail
  have zb41_0 := b41.cell 0 rfl
  have zb41_1 := b41.cell 1 rfl
  have zb41_2 := b41.cell 2 rfl
  have zb41_3 := b41.cell 3 rfl
  have zb0_0 := b0.cell 0 rfl
  have zb0_1 := b0.cell 1 rfl
  have zb0_2 := b0.cell 2 rfl
  have zb0_3 := b0.cell 3 rfl
  refine wp_region_T (cs := []) [0, 1, 2, 3, 4] [] [2, 3] [(3, [2])] (fun i__ v => match i__ with | 2 => ∃ (Ax68 : Option Addr) (kx69 : Nat) (Ax71 : Option Addr) (kx72 : Nat) (Ax74 : Option Addr) (kx75 : Nat), v = (.agg #[.int .i64 r1, .slice Ax68 n1a kx69, .slice Ax71 n1b kx72, .slice Ax74 n1c kx75]) | 3 => v = (.bool true) | _ => False) (fun i__ v w' => match i__ with | 2 => OwnF w' w67.heap.size 2 v [1] (ints xs1a) ∧ OwnF w' w67.heap.size 2 v [2] (ints xs1b) ∧ OwnF w' w67.heap.size 43 v [3] (flts xs1c) | _ => True) (by kernel_rfl) (by kernel_rfl) (by intro i v w' w2 h hx; revert h; (try dsimp only); split <;> intro h <;> first | trivial | exact RdsF.ext h hx | exact OwnF.ext h hx | exact BlkF.ext h hx | exact ⟨RdsF.ext h.1 hx, RdsF.ext h.2 hx⟩ | exact ⟨OwnF.ext h.1 hx, OwnF.ext h.2 hx⟩ | exact ⟨RdsF.ext h.1 hx, RdsF.ext h.2.1 hx, RdsF.ext h.2.2 hx⟩ | exact ⟨OwnF.ext h.1 hx, OwnF.ext h.2.1 hx, OwnF.ext h.2.2 hx⟩) ?_
  refine' wpT_det (o := ⟨some 35, Op.load 27 (Operand.tmp 7), 27, "exact.go:4686", #[], none⟩) rfl (by rfl) (by rfl) (fun w' hw' => ?_) ?_; rotate_left
  · have zb41_0_ := Ext.cell hw' zb41_0; have zb41_1_ := Ext.cell hw' zb41_1; have zb41_2_ := Ext.cell hw' zb41_2; have zb41_3_ := Ext.cell hw' zb41_3; have zb0_0_ := Ext.cell hw' zb0_0; have zb0_1_ := Ext.cell hw' zb0_1; have zb0_2_ := Ext.cell hw' zb0_2; have zb0_3_ := Ext.cell hw' zb0_3; go_simp <;> first | rfl | exact ⟨rfl, rfl⟩
  simp only [Act.put, List.setIfInBounds_toArray, List.set_cons_zero, List.set_cons_succ]
  refine' wpT_det (o := ⟨some 36, Op.load 25 (Operand.tmp 2), 25, "exact.go:4686", #[], none⟩) rfl (by rfl) (by rfl) (fun w' hw' => ?_) ?_; rotate_left
  · have zb41_0_ := Ext.cell hw' zb41_0; have zb41_1_ := Ext.cell hw' zb41_1; have zb41_2_ := Ext.cell hw' zb41_2; have zb41_3_ := Ext.cell hw' zb41_3; have zb0_0_ := Ext.cell hw' zb0_0; have zb0_1_ := Ext.cell hw' zb0_1; have zb0_2_ := Ext.cell hw' zb0_2; have zb0_3_ := Ext.cell hw' zb0_3; go_simp <;> first | rfl | exact ⟨rfl, rfl⟩
  simp only [Act.put, List.setIfInBounds_toArray, List.set_cons_zero, List.set_cons_succ]
  refine wpT_nd (o := ⟨some 37, Op.call { callee := Callee.value (Operand.func 22), args := #[Operand.tmp 36], argTypes := #[25] }, 27, "exact.go:4686", #[{ on := 1, ground := Ground.data }], none⟩) rfl (by rfl) (by rfl) (fun w' hw' hF R__ hGo => ?_) ⟨_, none, 0, none, 0, none, 0, rfl⟩ ?_
  · go_simp
    refine gives_enter rfl ?_
    refine (toSparse_any r1 A1a n1a cap1a A1b n1b cap1b A1c n1c cap1c xs1a xs1b xs1c _ (hr1a.below hw'.undrew) (hr1b.below hw'.undrew) (hr1c.below hw'.undrew) (by omega) (by omega) (by omega)).mono ?_
    rintro e w2 ⟨Ax68, kx69, Ax71, kx72, Ax74, kx75, rfl, o70, o73, o76, ne77, ne78, ne79, hx⟩
    exact ⟨_, rfl, hGo _ _ hx ⟨_, _, _, _, _, _, rfl⟩ ⟨OwnF.of (o70.base hw'.size) rfl, OwnF.of (o73.base hw'.size) rfl, OwnF.of (o76.base hw'.size) rfl⟩⟩
  rintro _ ⟨Ax68, kx69, Ax71, kx72, Ax74, kx75, rfl⟩
  simp only [Act.put, List.setIfInBounds_toArray, List.set_cons_zero, List.set_cons_succ]
  refine wpT_nd (o := ⟨some 38, Op.call { callee := Callee.value (Operand.func 24), args := #[Operand.tmp 35, Operand.tmp 37], argTypes := #[27, 27] }, 4, "exact.go:4686", #[{ on := 0, ground := Ground.data }, { on := 2, ground := Ground.data }, { on := 2, ground := Ground.chain }], none⟩) rfl (by rfl) (by rfl) (fun w' hw' hF R__ hGo => ?_) ⟨_, rfl⟩ ?_
  · go_simp
    refine gives_enter rfl ?_
    refine (eqSparse_any r1 r1 Ax28 Ax31 Ax34 Ax68 Ax71 Ax74 n1a n1b n1c n1a n1b n1c kx29 kx32 kx35 kx69 kx72 kx75  xs1a xs1b xs1c xs1a xs1b xs1c _ (o30.reads.below hw'.undrew) (o33.reads.below hw'.undrew) (o36.reads.below hw'.undrew) ((hF 2 (by simp [uses]) _ rfl).1 _ _ _ rfl).reads ((hF 2 (by simp [uses]) _ rfl).2.1 _ _ _ rfl).reads ((hF 2 (by simp [uses]) _ rfl).2.2 _ _ _ rfl).reads ⟨rfl, rfl, rfl, rfl⟩).mono ?_
    rintro e w2 ⟨rfl, hx⟩
    exact ⟨_, rfl, hGo _ _ hx rfl trivial⟩
  intro v hv
  obtain rfl : v = (.bool true) := hv
  simp only [Act.put, List.setIfInBounds_toArray, List.set_cons_zero, List.set_cons_succ]
  refine' wpT_det (o := ⟨some 39, Op.unOp UnOp.not 4 (Operand.tmp 38), 4, "exact.go:4686", #[{ on := 3, ground := Ground.data }], none⟩) rfl (by rfl) (by rfl) (fun w' hw' => ?_) ?_; rotate_left
  · go_simp <;> first | rfl | exact ⟨rfl, rfl⟩
  simp only [Act.put, List.setIfInBounds_toArray, List.set_cons_zero, List.set_cons_succ]
  refine wpT_nil (fun w80 hw' hF => ?_)
  refine wpList_nil ?_
  clear zb41_0 zb41_1 zb41_2 zb41_3 zb0_0 zb0_1 zb0_2 zb0_3
  have hx := hw'.undrew; clear hw'
  clear hF
  replace b0 := b0.ext hx
  replace b1 := b1.ext hx
  replace hr1a := hr1a.below hx
  replace hr1b := hr1b.below hx
  replace hr1c := hr1c.below hx
  replace hr2a := hr2a.below hx
  replace hr2b := hr2b.below hx
  replace hr2c := hr2c.below hx
  replace o30 := o30.ext hx
  replace o33 := o33.ext hx
  replace o36 := o36.ext hx
  replace b41 := b41.ext hx
  replace o45 := o45.ext hx
  replace o48 := o48.ext hx
  replace o51 := o51.ext hx
  replace b65 := b65.ext hx
  replace hx0 := hx0.trans hx
  clear hx
  go_wp2_with fail
  have zb65_0 := b65.cell 0 rfl
  have zb65_1 := b65.cell 1 rfl
  have zb65_2 := b65.cell 2 rfl
  have zb65_3 := b65.cell 3 rfl
  have zb1_0 := b1.cell 0 rfl
  have zb1_1 := b1.cell 1 rfl
  have zb1_2 := b1.cell 2 rfl
  have zb1_3 := b1.cell 3 rfl
  refine wp_region_T (cs := []) [0, 1, 2, 3, 4] [] [2, 3] [(3, [2])] (fun i__ v => match i__ with | 2 => ∃ (Ax81 : Option Addr) (kx82 : Nat) (Ax84 : Option Addr) (kx85 : Nat) (Ax87 : Option Addr) (kx88 : Nat), v = (.agg #[.int .i64 r2, .slice Ax81 n2a kx82, .slice Ax84 n2b kx85, .slice Ax87 n2c kx88]) | 3 => v = (.bool true) | _ => False) (fun i__ v w' => match i__ with | 2 => OwnF w' w80.heap.size 2 v [1] (ints xs2a) ∧ OwnF w' w80.heap.size 2 v [2] (ints xs2b) ∧ OwnF w' w80.heap.size 43 v [3] (flts xs2c) | _ => True) (by kernel_rfl) (by kernel_rfl) (by intro i v w' w2 h hx; revert h; (try dsimp only); split <;> intro h <;> first | trivial | exact RdsF.ext h hx | exact OwnF.ext h hx | exact BlkF.ext h hx | exact ⟨RdsF.ext h.1 hx, RdsF.ext h.2 hx⟩ | exact ⟨OwnF.ext h.1 hx, OwnF.ext h.2 hx⟩ | exact ⟨RdsF.ext h.1 hx, RdsF.ext h.2.1 hx, RdsF.ext h.2.2 hx⟩ | exact ⟨OwnF.ext h.1 hx, OwnF.ext h.2.1 hx, OwnF.ext h.2.2 hx⟩) ?_
  refine' wpT_det (o := ⟨some 40, Op.load 27 (Operand.tmp 8), 27, "exact.go:4689", #[], none⟩) rfl (by rfl) (by rfl) (fun w' hw' => ?_) ?_; rotate_left
  · have zb65_0_ := Ext.cell hw' zb65_0; have zb65_1_ := Ext.cell hw' zb65_1; have zb65_2_ := Ext.cell hw' zb65_2; have zb65_3_ := Ext.cell hw' zb65_3; have zb1_0_ := Ext.cell hw' zb1_0; have zb1_1_ := Ext.cell hw' zb1_1; have zb1_2_ := Ext.cell hw' zb1_2; have zb1_3_ := Ext.cell hw' zb1_3; go_simp <;> first | rfl | exact ⟨rfl, rfl⟩
  simp only [Act.put, List.setIfInBounds_toArray, List.set_cons_zero, List.set_cons_succ]
  refine' wpT_det (o := ⟨some 41, Op.load 25 (Operand.tmp 3), 25, "exact.go:4689", #[], none⟩) rfl (by rfl) (by rfl) (fun w' hw' => ?_) ?_; rotate_left
  · have zb65_0_ := Ext.cell hw' zb65_0; have zb65_1_ := Ext.cell hw' zb65_1; have zb65_2_ := Ext.cell hw' zb65_2; have zb65_3_ := Ext.cell hw' zb65_3; have zb1_0_ := Ext.cell hw' zb1_0; have zb1_1_ := Ext.cell hw' zb1_1; have zb1_2_ := Ext.cell hw' zb1_2; have zb1_3_ := Ext.cell hw' zb1_3; go_simp <;> first | rfl | exact ⟨rfl, rfl⟩
  simp only [Act.put, List.setIfInBounds_toArray, List.set_cons_zero, List.set_cons_succ]
  refine wpT_nd (o := ⟨some 42, Op.call { callee := Callee.value (Operand.func 22), args := #[Operand.tmp 41], argTypes := #[25] }, 27, "exact.go:4689", #[{ on := 1, ground := Ground.data }], none⟩) rfl (by rfl) (by rfl) (fun w' hw' hF R__ hGo => ?_) ⟨_, none, 0, none, 0, none, 0, rfl⟩ ?_
  · go_simp
    refine gives_enter rfl ?_
    refine (toSparse_any r2 A2a n2a cap2a A2b n2b cap2b A2c n2c cap2c xs2a xs2b xs2c _ (hr2a.below hw'.undrew) (hr2b.below hw'.undrew) (hr2c.below hw'.undrew) (by omega) (by omega) (by omega)).mono ?_
    rintro e w2 ⟨Ax81, kx82, Ax84, kx85, Ax87, kx88, rfl, o83, o86, o89, ne90, ne91, ne92, hx⟩
    exact ⟨_, rfl, hGo _ _ hx ⟨_, _, _, _, _, _, rfl⟩ ⟨OwnF.of (o83.base hw'.size) rfl, OwnF.of (o86.base hw'.size) rfl, OwnF.of (o89.base hw'.size) rfl⟩⟩
  rintro _ ⟨Ax81, kx82, Ax84, kx85, Ax87, kx88, rfl⟩
  simp only [Act.put, List.setIfInBounds_toArray, List.set_cons_zero, List.set_cons_succ]
  refine wpT_nd (o := ⟨some 43, Op.call { callee := Callee.value (Operand.func 24), args := #[Operand.tmp 40, Operand.tmp 42], argTypes := #[27, 27] }, 4, "exact.go:4689", #[{ on := 0, ground := Ground.data }, { on := 2, ground := Ground.data }, { on := 2, ground := Ground.chain }], none⟩) rfl (by rfl) (by rfl) (fun w' hw' hF R__ hGo => ?_) ⟨_, rfl⟩ ?_
  · go_simp
    refine gives_enter rfl ?_
    refine (eqSparse_any r2 r2 Ax43 Ax46 Ax49 Ax81 Ax84 Ax87 n2a n2b n2c n2a n2b n2c kx44 kx47 kx50 kx82 kx85 kx88  xs2a xs2b xs2c xs2a xs2b xs2c _ (o45.reads.below hw'.undrew) (o48.reads.below hw'.undrew) (o51.reads.below hw'.undrew) ((hF 2 (by simp [uses]) _ rfl).1 _ _ _ rfl).reads ((hF 2 (by simp [uses]) _ rfl).2.1 _ _ _ rfl).reads ((hF 2 (by simp [uses]) _ rfl).2.2 _ _ _ rfl).reads ⟨rfl, rfl, rfl, rfl⟩).mono ?_
    rintro e w2 ⟨rfl, hx⟩
    exact ⟨_, rfl, hGo _ _ hx rfl trivial⟩
  intro v hv
  obtain rfl : v = (.bool true) := hv
  simp only [Act.put, List.setIfInBounds_toArray, List.set_cons_zero, List.set_cons_succ]
  refine' wpT_det (o := ⟨some 44, Op.unOp UnOp.not 4 (Operand.tmp 43), 4, "exact.go:4689", #[{ on := 3, ground := Ground.data }], none⟩) rfl (by rfl) (by rfl) (fun w' hw' => ?_) ?_; rotate_left
  · go_simp <;> first | rfl | exact ⟨rfl, rfl⟩
  simp only [Act.put, List.setIfInBounds_toArray, List.set_cons_zero, List.set_cons_succ]
  refine wpT_nil (fun w93 hw' hF => ?_)
  refine wpList_nil ?_
  clear zb65_0 zb65_1 zb65_2 zb65_3 zb1_0 zb1_1 zb1_2 zb1_3
  have hx := hw'.undrew; clear hw'
  clear hF
  replace b0 := b0.ext hx
  replace b1 := b1.ext hx
  replace hr1a := hr1a.below hx
  replace hr1b := hr1b.below hx
  replace hr1c := hr1c.below hx
  replace hr2a := hr2a.below hx
  replace hr2b := hr2b.below hx
  replace hr2c := hr2c.below hx
  replace o30 := o30.ext hx
  replace o33 := o33.ext hx
  replace o36 := o36.ext hx
  replace b41 := b41.ext hx
  replace o45 := o45.ext hx
  replace o48 := o48.ext hx
  replace o51 := o51.ext hx
  replace b65 := b65.ext hx
  replace hx0 := hx0.trans hx
  clear hx
  go_wp2_with fail
  go_ret
  exact ⟨rfl, hx0⟩

end Go.Proofs.Ytkifpligpobiaaa
