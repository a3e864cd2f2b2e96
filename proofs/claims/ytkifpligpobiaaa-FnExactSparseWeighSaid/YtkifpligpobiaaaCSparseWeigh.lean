
import Derived.Test.YtkifpligpobiaaaJ4

import Derived.Test.YtkifpligpobiaaaSB1
set_option linter.unusedVariables false
set_option linter.unusedSimpArgs false

namespace Go.Proofs.Ytkifpligpobiaaa

open Go.RowKit


set_option maxRecDepth 20000 in
set_option maxHeartbeats 8000000 in
theorem law_SparseWeigh (r1 : Int) (A1a : Option Addr) (n1a cap1a : Nat) (xs1a : List Int) (A1b : Option Addr) (n1b cap1b : Nat) (xs1b : List Int) (A1c : Option Addr) (n1c cap1c : Nat) (xs1c : List Nat) (r2 : Int) (A2a : Option Addr) (n2a cap2a : Nat) (xs2a : List Int) (A2b : Option Addr) (n2b cap2b : Nat) (xs2b : List Int) (A2c : Option Addr) (n2c cap2c : Nat) (xs2c : List Nat) (x3 : Nat) (x4 : Nat) (w : World) (hr1a : Rds w A1a n1a (ints xs1a)) (hr1b : Rds w A1b n1b (ints xs1b)) (hr1c : Rds w A1c n1c (flts xs1c)) (hr2a : Rds w A2a n2a (ints xs2a)) (hr2b : Rds w A2b n2b (ints xs2b)) (hr2c : Rds w A2c n2c (flts xs2c)) :
    Calls Try.prog 15 #[.agg #[.int .i64 r1, .slice A1a n1a cap1a, .slice A1b n1b cap1b, .slice A1c n1c cap1c], .agg #[.int .i64 r2, .slice A2a n2a cap2a, .slice A2b n2b cap2b, .slice A2c n2c cap2c], .float .f32 x3, .float .f32 x4] w fun e w' => e = .returned (.bool true) ∧ Ext w w' := by
  have hs_hr1a := hr1a.small
  have hs_hr1b := hr1b.small
  have hs_hr1c := hr1c.small
  have hs_hr2a := hr2a.small
  have hs_hr2b := hr2b.small
  have hs_hr2c := hr2c.small
  obtain ⟨w0, hw0⟩ : ∃ w0 : World, w0 = ((w.alloc (.cells #[.int .i64 r1, .slice A1a n1a cap1a, .slice A1b n1b cap1b, .slice A1c n1c cap1c] 25)).alloc (.cells #[.int .i64 r2, .slice A2a n2a cap2a, .slice A2b n2b cap2b, .slice A2c n2c cap2c] 25)) := ⟨_, rfl⟩
  have b0 : Blk w0 (w.heap.size) #[.int .i64 r1, .slice A1a n1a cap1a, .slice A1b n1b cap1b, .slice A1c n1c cap1c] 25 := by subst hw0; simpa using (Blk.new w #[.int .i64 r1, .slice A1a n1a cap1a, .slice A1b n1b cap1b, .slice A1c n1c cap1c] 25).ext ((Ext.refl _).alloc _)
  have b1 : Blk w0 (w.heap.size + 1) #[.int .i64 r2, .slice A2a n2a cap2a, .slice A2b n2b cap2b, .slice A2c n2c cap2c] 25 := by subst hw0; simpa using (Blk.new (w.alloc (.cells #[.int .i64 r1, .slice A1a n1a cap1a, .slice A1b n1b cap1b, .slice A1c n1c cap1c] 25)) #[.int .i64 r2, .slice A2a n2a cap2a, .slice A2b n2b cap2b, .slice A2c n2c cap2c] 25)
  have hx0 : Ext w w0 := by subst hw0; exact ((Ext.refl _).alloc _).alloc _
  have Hw0 := Lib.hid hw0
  clear hw0
  have hr1a0 := hr1a; replace hr1a := hr1a.below hx0
  have hr1b0 := hr1b; replace hr1b := hr1b.below hx0
  have hr1c0 := hr1c; replace hr1c := hr1c.below hx0
  have hr2a0 := hr2a; replace hr2a := hr2a.below hx0
  have hr2b0 := hr2b; replace hr2b := hr2b.below hx0
  have hr2c0 := hr2c; replace hr2c := hr2c.below hx0
  obtain ⟨d, hd⟩ : ∃ d : SD, d = weiD r1 r2 x3 x4 xs1a xs1b xs1c xs2a xs2b xs2c := ⟨_, rfl⟩
  have Hd := Lib.hid hd; clear hd
  by_cases hn0 : n1a + n1b + n1c ≤ 1048576
  rotate_left
  · have HS0 : Hid (szL (n1a + n1b + n1c) (1048576) = -1) := by show szL _ _ = -1; unfold szL; rw [if_pos (by omega)]
    go_enter Try.func15, Try.ntmps15
    have zb0_0 := b0.cell 0 rfl
    have zb0_1 := b0.cell 1 rfl
    have zb0_2 := b0.cell 2 rfl
    have zb0_3 := b0.cell 3 rfl
    go_wp2_with fail
    rw [← Hw0.out]
    clear zb0_0 zb0_1 zb0_2 zb0_3
    refine (szSparse_any r1 A1a n1a cap1a A1b n1b cap1b A1c n1c cap1c 1048576 (by omega) (by omega) (by omega) (by omega) _).mono ?_
    rw [HS0.out]
    rintro e w1 ⟨rfl, hx⟩
    replace b0 := b0.ext hx
    replace b1 := b1.ext hx
    replace hr1a := hr1a.below hx
    replace hr1b := hr1b.below hx
    replace hr1c := hr1c.below hx
    replace hr2a := hr2a.below hx
    replace hr2b := hr2b.below hx
    replace hr2c := hr2c.below hx
    replace hx0 := hx0.trans hx
    clear hx
    go_wp2_with fail
    go_ret
    exact ⟨rfl, hx0⟩
  have HS0 : Hid (szL (n1a + n1b + n1c) (1048576) = 1048576 - (n1a + n1b + n1c)) := by show szL _ _ = _; unfold szL; rw [if_neg (by omega)] <;> omega
  by_cases hn1 : n1a + n1b + n1c + n2a + n2b + n2c ≤ 1048576
  rotate_left
  · have HS1 : Hid (szL (n2a + n2b + n2c) (1048576 - (n1a + n1b + n1c)) = -1) := by show szL _ _ = -1; unfold szL; rw [if_pos (by omega)]
    go_enter Try.func15, Try.ntmps15
    have zb0_0 := b0.cell 0 rfl
    have zb0_1 := b0.cell 1 rfl
    have zb0_2 := b0.cell 2 rfl
    have zb0_3 := b0.cell 3 rfl
    go_wp2_with fail
    rw [← Hw0.out]
    clear zb0_0 zb0_1 zb0_2 zb0_3
    refine (szSparse_any r1 A1a n1a cap1a A1b n1b cap1b A1c n1c cap1c 1048576 (by omega) (by omega) (by omega) (by omega) _).mono ?_
    rw [HS0.out]
    rintro e w1 ⟨rfl, hx⟩
    replace b0 := b0.ext hx
    replace b1 := b1.ext hx
    replace hr1a := hr1a.below hx
    replace hr1b := hr1b.below hx
    replace hr1c := hr1c.below hx
    replace hr2a := hr2a.below hx
    replace hr2b := hr2b.below hx
    replace hr2c := hr2c.below hx
    replace hx0 := hx0.trans hx
    clear hx
    have zb1_0 := b1.cell 0 rfl
    have zb1_1 := b1.cell 1 rfl
    have zb1_2 := b1.cell 2 rfl
    have zb1_3 := b1.cell 3 rfl
    go_wp2_with fail
    clear zb1_0 zb1_1 zb1_2 zb1_3
    refine (szSparse_any r2 A2a n2a cap2a A2b n2b cap2b A2c n2c cap2c (1048576 - (n1a + n1b + n1c)) (by omega) (by omega) (by omega) (by omega) _).mono ?_
    rw [HS1.out]
    rintro e w2 ⟨rfl, hx⟩
    replace b0 := b0.ext hx
    replace b1 := b1.ext hx
    replace hr1a := hr1a.below hx
    replace hr1b := hr1b.below hx
    replace hr1c := hr1c.below hx
    replace hr2a := hr2a.below hx
    replace hr2b := hr2b.below hx
    replace hr2c := hr2c.below hx
    replace hx0 := hx0.trans hx
    clear hx
    go_wp2_with fail
    go_ret
    exact ⟨rfl, hx0⟩
  have HS1 : Hid (szL (n2a + n2b + n2c) (1048576 - (n1a + n1b + n1c)) = 1048576 - (n1a + n1b + n1c) - (n2a + n2b + n2c)) := by show szL _ _ = _; unfold szL; rw [if_neg (by omega)] <;> omega
  go_enter Try.func15, Try.ntmps15
  have zb0_0 := b0.cell 0 rfl
  have zb0_1 := b0.cell 1 rfl
  have zb0_2 := b0.cell 2 rfl
  have zb0_3 := b0.cell 3 rfl
  go_wp2_with fail
  rw [← Hw0.out]
  clear zb0_0 zb0_1 zb0_2 zb0_3
  refine (szSparse_any r1 A1a n1a cap1a A1b n1b cap1b A1c n1c cap1c 1048576 (by omega) (by omega) (by omega) (by omega) _).mono ?_
  rw [HS0.out]
  rintro e w1 ⟨rfl, hx⟩
  replace b0 := b0.ext hx
  replace b1 := b1.ext hx
  replace hr1a := hr1a.below hx
  replace hr1b := hr1b.below hx
  replace hr1c := hr1c.below hx
  replace hr2a := hr2a.below hx
  replace hr2b := hr2b.below hx
  replace hr2c := hr2c.below hx
  replace hx0 := hx0.trans hx
  clear hx
  have zb1_0 := b1.cell 0 rfl
  have zb1_1 := b1.cell 1 rfl
  have zb1_2 := b1.cell 2 rfl
  have zb1_3 := b1.cell 3 rfl
  go_wp2_with fail
  clear zb1_0 zb1_1 zb1_2 zb1_3
  refine (szSparse_any r2 A2a n2a cap2a A2b n2b cap2b A2c n2c cap2c (1048576 - (n1a + n1b + n1c)) (by omega) (by omega) (by omega) (by omega) _).mono ?_
  rw [HS1.out]
  rintro e w2 ⟨rfl, hx⟩
  replace b0 := b0.ext hx
  replace b1 := b1.ext hx
  replace hr1a := hr1a.below hx
  replace hr1b := hr1b.below hx
  replace hr1c := hr1c.below hx
  replace hr2a := hr2a.below hx
  replace hr2b := hr2b.below hx
  replace hr2c := hr2c.below hx
  replace hx0 := hx0.trans hx
  clear hx
  go_wp2_with fail
  have zb0_0 := b0.cell 0 rfl
  have zb0_1 := b0.cell 1 rfl
  have zb0_2 := b0.cell 2 rfl
  have zb0_3 := b0.cell 3 rfl
  have zb1_0 := b1.cell 0 rfl
  have zb1_1 := b1.cell 1 rfl
  have zb1_2 := b1.cell 2 rfl
  have zb1_3 := b1.cell 3 rfl
  have old_b0 := b0.lt
  have old_b1 := b1.lt
  refine wp_region_Fl (cs := []) 9 11 [0, 1, 2, 3, 4, 5, 6, 7, 8, 9, 10] [12] [1, 3, 6, 10] [(6, [1, 3])] (fun i__ v => match i__ with | 1 => ∃ (Ax3 : Option Addr) (kx4 : Nat) (Ax6 : Option Addr) (kx7 : Nat) (Ax9 : Option Addr) (kx10 : Nat), v = (.agg #[.int .i64 r1, .slice Ax3 n1a kx4, .slice Ax6 n1b kx7, .slice Ax9 n1c kx10]) | 3 => ∃ (Ax15 : Option Addr) (kx16 : Nat) (Ax18 : Option Addr) (kx19 : Nat) (Ax21 : Option Addr) (kx22 : Nat), v = (.agg #[.int .i64 r2, .slice Ax15 n2a kx16, .slice Ax18 n2b kx19, .slice Ax21 n2c kx22]) | 6 => ∃ (Ax27 : Option Addr) (kx28 : Nat) (Ax30 : Option Addr) (kx31 : Nat) (Ax33 : Option Addr) (kx34 : Nat), v = (.tuple #[.agg #[.int .i64 d.sd, .slice Ax27 d.st.length kx28, .slice Ax30 d.co.length kx31, .slice Ax33 d.va.length kx34], .bool d.ok]) | 10 => ∃ b, v = (.pointer (some ⟨b, 0, none⟩)) | _ => False) (fun i__ v w' => match i__ with | 1 => OwnF w' w2.heap.size 2 v [1] (ints xs1a) ∧ OwnF w' w2.heap.size 2 v [2] (ints xs1b) ∧ OwnF w' w2.heap.size 43 v [3] (flts xs1c) | 3 => OwnF w' w2.heap.size 2 v [1] (ints xs2a) ∧ OwnF w' w2.heap.size 2 v [2] (ints xs2b) ∧ OwnF w' w2.heap.size 43 v [3] (flts xs2c) | 6 => OwnF w' w2.heap.size 2 v [0, 1] (ints d.st) ∧ OwnF w' w2.heap.size 2 v [0, 2] (ints d.co) ∧ OwnF w' w2.heap.size 43 v [0, 3] (flts d.va) | 10 => BlkF w' v w2.heap.size #[.int .i64 0, .slice none 0 0, .slice none 0 0, .slice none 0 0] 27 | _ => True) (by kernel_rfl) (by kernel_rfl) (by kernel_rfl) (by intro i v w' w2 h hx; revert h; (try dsimp only); split <;> intro h <;> first | trivial | exact RdsF.ext h hx | exact OwnF.ext h hx | exact BlkF.ext h hx | exact ⟨RdsF.ext h.1 hx, RdsF.ext h.2 hx⟩ | exact ⟨OwnF.ext h.1 hx, OwnF.ext h.2 hx⟩ | exact ⟨RdsF.ext h.1 hx, RdsF.ext h.2.1 hx, RdsF.ext h.2.2 hx⟩ | exact ⟨OwnF.ext h.1 hx, OwnF.ext h.2.1 hx, OwnF.ext h.2.2 hx⟩) ?_
  refine' wpT_det (o := ⟨some 32, Op.load 25 (Operand.tmp 4), 25, "exact.go:4971", #[], none⟩) rfl (by rfl) (by rfl) (fun w' hw' => ?_) ?_; rotate_left
  · have zb0_0_ := Ext.cell hw' zb0_0; have zb0_1_ := Ext.cell hw' zb0_1; have zb0_2_ := Ext.cell hw' zb0_2; have zb0_3_ := Ext.cell hw' zb0_3; have zb1_0_ := Ext.cell hw' zb1_0; have zb1_1_ := Ext.cell hw' zb1_1; have zb1_2_ := Ext.cell hw' zb1_2; have zb1_3_ := Ext.cell hw' zb1_3; go_simp <;> first | rfl | exact ⟨rfl, rfl⟩
  simp only [Act.put, List.setIfInBounds_toArray, List.set_cons_zero, List.set_cons_succ]
  refine wpT_nd (o := ⟨some 33, Op.call { callee := Callee.value (Operand.func 22), args := #[Operand.tmp 32], argTypes := #[25] }, 27, "exact.go:4971", #[{ on := 0, ground := Ground.data }], none⟩) rfl (by rfl) (by rfl) (fun w' hw' hF R__ hGo => ?_) ⟨_, none, 0, none, 0, none, 0, rfl⟩ ?_
  · go_simp
    refine gives_enter rfl ?_
    refine (toSparse_any r1 A1a n1a cap1a A1b n1b cap1b A1c n1c cap1c xs1a xs1b xs1c _ (hr1a.below hw'.undrew) (hr1b.below hw'.undrew) (hr1c.below hw'.undrew) (by omega) (by omega) (by omega)).mono ?_
    rintro e w2 ⟨Ax3, kx4, Ax6, kx7, Ax9, kx10, rfl, o5, o8, o11, ne12, ne13, ne14, hx⟩
    exact ⟨_, rfl, hGo _ _ hx ⟨_, _, _, _, _, _, rfl⟩ ⟨OwnF.of (o5.base hw'.size) rfl, OwnF.of (o8.base hw'.size) rfl, OwnF.of (o11.base hw'.size) rfl⟩⟩
  rintro _ ⟨Ax3, kx4, Ax6, kx7, Ax9, kx10, rfl⟩
  simp only [Act.put, List.setIfInBounds_toArray, List.set_cons_zero, List.set_cons_succ]
  refine' wpT_det (o := ⟨some 34, Op.load 25 (Operand.tmp 5), 25, "exact.go:4971", #[], none⟩) rfl (by rfl) (by rfl) (fun w' hw' => ?_) ?_; rotate_left
  · have zb0_0_ := Ext.cell hw' zb0_0; have zb0_1_ := Ext.cell hw' zb0_1; have zb0_2_ := Ext.cell hw' zb0_2; have zb0_3_ := Ext.cell hw' zb0_3; have zb1_0_ := Ext.cell hw' zb1_0; have zb1_1_ := Ext.cell hw' zb1_1; have zb1_2_ := Ext.cell hw' zb1_2; have zb1_3_ := Ext.cell hw' zb1_3; go_simp <;> first | rfl | exact ⟨rfl, rfl⟩
  simp only [Act.put, List.setIfInBounds_toArray, List.set_cons_zero, List.set_cons_succ]
  refine wpT_nd (o := ⟨some 35, Op.call { callee := Callee.value (Operand.func 22), args := #[Operand.tmp 34], argTypes := #[25] }, 27, "exact.go:4971", #[{ on := 2, ground := Ground.data }, { on := 1, ground := Ground.chain }], none⟩) rfl (by rfl) (by rfl) (fun w' hw' hF R__ hGo => ?_) ⟨_, none, 0, none, 0, none, 0, rfl⟩ ?_
  · go_simp
    refine gives_enter rfl ?_
    refine (toSparse_any r2 A2a n2a cap2a A2b n2b cap2b A2c n2c cap2c xs2a xs2b xs2c _ (hr2a.below hw'.undrew) (hr2b.below hw'.undrew) (hr2c.below hw'.undrew) (by omega) (by omega) (by omega)).mono ?_
    rintro e w2 ⟨Ax15, kx16, Ax18, kx19, Ax21, kx22, rfl, o17, o20, o23, ne24, ne25, ne26, hx⟩
    exact ⟨_, rfl, hGo _ _ hx ⟨_, _, _, _, _, _, rfl⟩ ⟨OwnF.of (o17.base hw'.size) rfl, OwnF.of (o20.base hw'.size) rfl, OwnF.of (o23.base hw'.size) rfl⟩⟩
  rintro _ ⟨Ax15, kx16, Ax18, kx19, Ax21, kx22, rfl⟩
  simp only [Act.put, List.setIfInBounds_toArray, List.set_cons_zero, List.set_cons_succ]
  refine' wpT_det (o := ⟨some 36, Op.move (Operand.tmp 2), 43, "exact.go:4971", #[], none⟩) rfl (by rfl) (by rfl) (fun w' hw' => ?_) ?_; rotate_left
  · go_simp <;> first | rfl | exact ⟨rfl, rfl⟩
  simp only [Act.put, List.setIfInBounds_toArray, List.set_cons_zero, List.set_cons_succ]
  refine' wpT_det (o := ⟨some 37, Op.move (Operand.tmp 3), 43, "exact.go:4971", #[], none⟩) rfl (by rfl) (by rfl) (fun w' hw' => ?_) ?_; rotate_left
  · go_simp <;> first | rfl | exact ⟨rfl, rfl⟩
  simp only [Act.put, List.setIfInBounds_toArray, List.set_cons_zero, List.set_cons_succ]
  refine wpT_nd (o := ⟨some 38, Op.call { callee := Callee.value (Operand.func 59), args := #[Operand.tmp 33, Operand.tmp 35, Operand.tmp 36, Operand.tmp 37], argTypes := #[27, 27, 43, 43] }, 28, "exact.go:4971", #[{ on := 1, ground := Ground.data }, { on := 3, ground := Ground.data }, { on := 4, ground := Ground.data }, { on := 5, ground := Ground.data }, { on := 3, ground := Ground.chain }], none⟩) rfl (by rfl) (by rfl) (fun w' hw' hF R__ hGo => ?_) ⟨_, none, 0, none, 0, none, 0, rfl⟩ ?_
  · go_simp
    refine gives_enter rfl ?_
    refine (specSparseWeigh_any r1 Ax3 n1a kx4 Ax6 n1b kx7 Ax9 n1c kx10 r2 Ax15 n2a kx16 Ax18 n2b kx19 Ax21 n2c kx22 x3 x4 xs1a xs1b xs1c xs2a xs2b xs2c _ ((hF 1 (by simp [uses]) _ rfl).1 _ _ _ rfl).reads ((hF 1 (by simp [uses]) _ rfl).2.1 _ _ _ rfl).reads ((hF 1 (by simp [uses]) _ rfl).2.2 _ _ _ rfl).reads ((hF 3 (by simp [uses]) _ rfl).1 _ _ _ rfl).reads ((hF 3 (by simp [uses]) _ rfl).2.1 _ _ _ rfl).reads ((hF 3 (by simp [uses]) _ rfl).2.2 _ _ _ rfl).reads).mono ?_
    rw [← Hd.out]
    rintro e w2 ⟨Ax27, kx28, Ax30, kx31, Ax33, kx34, rfl, o29, o32, o35, ne36, ne37, ne38, hx⟩
    exact ⟨_, rfl, hGo _ _ hx ⟨_, _, _, _, _, _, rfl⟩ ⟨OwnF.of (o29.base hw'.size) rfl, OwnF.of (o32.base hw'.size) rfl, OwnF.of (o35.base hw'.size) rfl⟩⟩
  rintro _ ⟨Ax27, kx28, Ax30, kx31, Ax33, kx34, rfl⟩
  simp only [Act.put, List.setIfInBounds_toArray, List.set_cons_zero, List.set_cons_succ]
  refine' wpT_det (o := ⟨some 31, Op.move (Operand.tmp 38), 28, "exact.go:4971", #[{ on := 6, ground := Ground.data }], none⟩) rfl (by rfl) (by rfl) (fun w' hw' => ?_) ?_; rotate_left
  · go_simp <;> first | rfl | exact ⟨rfl, rfl⟩
  simp only [Act.put, List.setIfInBounds_toArray, List.set_cons_zero, List.set_cons_succ]
  refine' wpT_det (o := ⟨some 39, Op.extract (Operand.tmp 31) 0, 27, "exact.go:4971", #[{ on := 7, ground := Ground.data }], none⟩) rfl (by rfl) (by rfl) (fun w' hw' => ?_) ?_; rotate_left
  · go_simp <;> first | rfl | exact ⟨rfl, rfl⟩
  simp only [Act.put, List.setIfInBounds_toArray, List.set_cons_zero, List.set_cons_succ]
  refine' wpT_det (o := ⟨some 40, Op.extract (Operand.tmp 31) 1, 4, "exact.go:4971", #[{ on := 7, ground := Ground.data }, { on := 11, ground := Ground.gcOnly Departure.lateStores }], none⟩) rfl (by rfl) (by rfl) (fun w' hw' => ?_) ?_; rotate_left
  · go_simp <;> first | rfl | exact ⟨rfl, rfl⟩
  simp only [Act.put, List.setIfInBounds_toArray, List.set_cons_zero, List.set_cons_succ]
  refine wpT_nd (o := ⟨some 10, Op.alloc 27, 0, "exact.go:4971", #[], none⟩) rfl (by rfl) (by rfl) (fun w' hw' hF R__ hGo => ?_) ⟨_, 0, rfl⟩ ?_
  · go_simp; exact gives_value rfl (hGo _ _ ((Ext.refl _).alloc _) ⟨_, rfl⟩ (fun b e => by simp only [Value.pointer.injEq, Option.some.injEq, Addr.mk.injEq, and_true] at e; subst e; exact ⟨Blk.new _ _ _, hw'.size⟩))
  rintro _ ⟨nb39, rfl⟩
  simp only [Act.put, List.setIfInBounds_toArray, List.set_cons_zero, List.set_cons_succ]
  refine wpT_nil (fun w40 hw' hF => ?_)
  clear zb0_0 zb0_1 zb0_2 zb0_3 zb1_0 zb1_1 zb1_2 zb1_3
  have hE_ := hw'
  have hx := hw'.undrew; clear hw'
  have o29 := (hF 6 _ rfl).1 _ _ _ rfl
  have le_o29 : w.heap.size ≤ w2.heap.size := hx0.size
  have o32 := (hF 6 _ rfl).2.1 _ _ _ rfl
  have le_o32 : w.heap.size ≤ w2.heap.size := hx0.size
  have o35 := (hF 6 _ rfl).2.2 _ _ _ rfl
  have le_o35 : w.heap.size ≤ w2.heap.size := hx0.size
  have b39 := (hF 10 _ rfl nb39 rfl).1
  have hb_ := (hF 10 _ rfl nb39 rfl).2
  clear hF
  have hs_o29 := o29.small; simp only [ints_length] at hs_o29
  have hs_o32 := o32.small; simp only [ints_length] at hs_o32
  have hs_o35 := o35.small; simp only [flts_length] at hs_o35
  replace b0 := b0.ext hx
  replace b1 := b1.ext hx
  replace hr1a := hr1a.below hx
  replace hr1b := hr1b.below hx
  replace hr1c := hr1c.below hx
  replace hr2a := hr2a.below hx
  replace hr2b := hr2b.below hx
  replace hr2c := hr2c.below hx
  replace hx0 := hx0.trans hx
  clear hx
  have z_0 := b39.cell 0 rfl; have y_0 := b39.free 0
  have z_1 := b39.cell 1 rfl; have y_1 := b39.free 1
  have z_2 := b39.cell 2 rfl; have y_2 := b39.free 2
  have z_3 := b39.cell 3 rfl; have y_3 := b39.free 3
  refine ⟨(⟨none, Op.store 27 (Operand.tmp 10) (Operand.tmp 39), 0, "exact.go:4971", #[{ on := 10, ground := Ground.data }, { on := 8, ground := Ground.data }, { on := 6, ground := Ground.chain }, { on := 0, ground := Ground.phase }, { on := 1, ground := Ground.phase }, { on := 2, ground := Ground.phase }, { on := 3, ground := Ground.phase }, { on := 4, ground := Ground.phase }, { on := 5, ground := Ground.phase }, { on := 6, ground := Ground.phase }, { on := 7, ground := Ground.phase }, { on := 8, ground := Ground.phase }, { on := 9, ground := Ground.textOnly Departure.lateStores }, { on := 10, ground := Ground.phase }], none⟩ : Oper), ((((w40.setCell ⟨nb39, 0, none⟩ (.int .i64 d.sd)).setCell ⟨nb39, 1, none⟩ (.slice Ax27 d.st.length kx28)).setCell ⟨nb39, 2, none⟩ (.slice Ax30 d.co.length kx31)).setCell ⟨nb39, 3, none⟩ (.slice Ax33 d.va.length kx34)), rfl, (by go_simp), ?_, ?_⟩
  · exact (Ext.set (Ext.set (Ext.set (Ext.set hE_ (by exact hb_) _) (by exact hb_) _) (by exact hb_) _) (by exact hb_) _)
  clear hE_
  show wpList _ _ _ [(⟨some 11, Op.assign (Operand.tmp 40), 4, "exact.go:4971", #[{ on := 9, ground := Ground.data }, { on := 11, ground := Ground.chain }, { on := 0, ground := Ground.phase }, { on := 1, ground := Ground.phase }, { on := 2, ground := Ground.phase }, { on := 3, ground := Ground.phase }, { on := 4, ground := Ground.phase }, { on := 5, ground := Ground.phase }, { on := 6, ground := Ground.phase }, { on := 7, ground := Ground.phase }, { on := 8, ground := Ground.phase }, { on := 9, ground := Ground.phase }, { on := 10, ground := Ground.phase }, { on := 11, ground := Ground.phase }], none⟩ : Oper)] _ _
  go_upto_region 9 with (fail)
  clear z_0 y_0 z_1 y_1 z_2 y_2 z_3 y_3
  obtain ⟨w41, hw⟩ : ∃ v : World, v = ((((w40.setCell ⟨nb39, 0, none⟩ (.int .i64 d.sd)).setCell ⟨nb39, 1, none⟩ (.slice Ax27 d.st.length kx28)).setCell ⟨nb39, 2, none⟩ (.slice Ax30 d.co.length kx31)).setCell ⟨nb39, 3, none⟩ (.slice Ax33 d.va.length kx34)) := ⟨_, rfl⟩
  rw [← hw]
  have hl_ : w.heap.size ≤ w2.heap.size := le_o29
  have b0_ : Blk w41 (w.heap.size) #[.int .i64 r1, .slice A1a n1a cap1a, .slice A1b n1b cap1b, .slice A1c n1c cap1c] 25 := by subst hw; exact (Blk.other (Blk.other (Blk.other (Blk.other b0 (by omega) 0 _) (by omega) 1 _) (by omega) 2 _) (by omega) 3 _)
  have b1_ : Blk w41 (w.heap.size + 1) #[.int .i64 r2, .slice A2a n2a cap2a, .slice A2b n2b cap2b, .slice A2c n2c cap2c] 25 := by subst hw; exact (Blk.other (Blk.other (Blk.other (Blk.other b1 (by omega) 0 _) (by omega) 1 _) (by omega) 2 _) (by omega) 3 _)
  have o29_ := (Own.setBlk (Own.setBlk (Own.setBlk (Own.setBlk o29 b39 (by decide) 0 (.int .i64 d.sd)) (b39.set 0 (.int .i64 d.sd)) (by decide) 1 (.slice Ax27 d.st.length kx28)) ((b39.set 0 (.int .i64 d.sd)).set 1 (.slice Ax27 d.st.length kx28)) (by decide) 2 (.slice Ax30 d.co.length kx31)) (((b39.set 0 (.int .i64 d.sd)).set 1 (.slice Ax27 d.st.length kx28)).set 2 (.slice Ax30 d.co.length kx31)) (by decide) 3 (.slice Ax33 d.va.length kx34)); rw [← hw] at o29_
  have o32_ := (Own.setBlk (Own.setBlk (Own.setBlk (Own.setBlk o32 b39 (by decide) 0 (.int .i64 d.sd)) (b39.set 0 (.int .i64 d.sd)) (by decide) 1 (.slice Ax27 d.st.length kx28)) ((b39.set 0 (.int .i64 d.sd)).set 1 (.slice Ax27 d.st.length kx28)) (by decide) 2 (.slice Ax30 d.co.length kx31)) (((b39.set 0 (.int .i64 d.sd)).set 1 (.slice Ax27 d.st.length kx28)).set 2 (.slice Ax30 d.co.length kx31)) (by decide) 3 (.slice Ax33 d.va.length kx34)); rw [← hw] at o32_
  have o35_ := (Own.setBlk (Own.setBlk (Own.setBlk (Own.setBlk o35 b39 (by decide) 0 (.int .i64 d.sd)) (b39.set 0 (.int .i64 d.sd)) (by decide) 1 (.slice Ax27 d.st.length kx28)) ((b39.set 0 (.int .i64 d.sd)).set 1 (.slice Ax27 d.st.length kx28)) (by decide) 2 (.slice Ax30 d.co.length kx31)) (((b39.set 0 (.int .i64 d.sd)).set 1 (.slice Ax27 d.st.length kx28)).set 2 (.slice Ax30 d.co.length kx31)) (by decide) 3 (.slice Ax33 d.va.length kx34)); rw [← hw] at o35_
  have hx0_ : Ext w w41 := by subst hw; exact ((((hx0.set (Nat.le_trans hl_ hb_) _).set (Nat.le_trans hl_ hb_) _).set (Nat.le_trans hl_ hb_) _).set (Nat.le_trans hl_ hb_) _)
  have b39_ : Blk w41 nb39 #[.int .i64 d.sd, .slice Ax27 d.st.length kx28, .slice Ax30 d.co.length kx31, .slice Ax33 d.va.length kx34] 27 := by subst hw; exact ((((b39.set 0 (.int .i64 d.sd)).set 1 (.slice Ax27 d.st.length kx28)).set 2 (.slice Ax30 d.co.length kx31)).set 3 (.slice Ax33 d.va.length kx34))
  clear b0; have b0 := b0_; clear b0_
  clear b1; have b1 := b1_; clear b1_
  clear o29; have o29 := o29_; clear o29_
  clear o32; have o32 := o32_; clear o32_
  clear o35; have o35 := o35_; clear o35_
  clear hx0 b39; have hx0 := hx0_; have b39 := b39_; clear hx0_ b39_
  replace hr1a := hr1a0.below hx0
  replace hr1b := hr1b0.below hx0
  replace hr1c := hr1c0.below hx0
  replace hr2a := hr2a0.below hx0
  replace hr2b := hr2b0.below hx0
  replace hr2c := hr2c0.below hx0
  clear hw hl_ hb_ old_b0 old_b1
  have zb0_0 := b0.cell 0 rfl
  have zb0_1 := b0.cell 1 rfl
  have zb0_2 := b0.cell 2 rfl
  have zb0_3 := b0.cell 3 rfl
  go_wp2_with fail
  clear zb0_0 zb0_1 zb0_2 zb0_3
  have le_o44 : w.heap.size ≤ w41.heap.size := hx0.size
  have le_o47 : w.heap.size ≤ w41.heap.size := hx0.size
  have le_o50 : w.heap.size ≤ w41.heap.size := hx0.size
  refine (toSparse_any r1 A1a n1a cap1a A1b n1b cap1b A1c n1c cap1c xs1a xs1b xs1c _ hr1a hr1b hr1c (by omega) (by omega) (by omega)).mono ?_
  rintro e w54 ⟨Ax42, kx43, Ax45, kx46, Ax48, kx49, rfl, o44, o47, o50, ne51, ne52, ne53, hx⟩
  have ne55 := o29.ne o44
  have ne56 := o32.ne o44
  have ne57 := o35.ne o44
  have hs_o44 := o44.small; simp only [ints_length] at hs_o44
  have ne58 := o29.ne o47
  have ne59 := o32.ne o47
  have ne60 := o35.ne o47
  have hs_o47 := o47.small; simp only [ints_length] at hs_o47
  have ne61 := o29.ne o50
  have ne62 := o32.ne o50
  have ne63 := o35.ne o50
  have hs_o50 := o50.small; simp only [flts_length] at hs_o50
  replace b0 := b0.ext hx
  replace b1 := b1.ext hx
  replace hr1a := hr1a.below hx
  replace hr1b := hr1b.below hx
  replace hr1c := hr1c.below hx
  replace hr2a := hr2a.below hx
  replace hr2b := hr2b.below hx
  replace hr2c := hr2c.below hx
  replace o29 := o29.ext hx
  replace o32 := o32.ext hx
  replace o35 := o35.ext hx
  replace b39 := b39.ext hx
  replace hx0 := hx0.trans hx
  clear hx
  have zb1_0 := b1.cell 0 rfl
  have zb1_1 := b1.cell 1 rfl
  have zb1_2 := b1.cell 2 rfl
  have zb1_3 := b1.cell 3 rfl
  have qb1 := b1.lt
  go_wp2_with fail
  obtain ⟨w65, hw⟩ : ∃ v : World, v = (w54.alloc (.cells #[.int .i64 r1, .slice Ax42 n1a kx43, .slice Ax45 n1b kx46, .slice Ax48 n1c kx49] 27)) := ⟨_, rfl⟩
  rw [← hw]
  have hx : Ext w54 w65 := by subst hw; exact (Ext.refl _).alloc _
  have b64 : Blk w65 w54.heap.size #[.int .i64 r1, .slice Ax42 n1a kx43, .slice Ax45 n1b kx46, .slice Ax48 n1c kx49] 27 := by subst hw; exact Blk.new _ _ _
  clear hw
  replace b0 := b0.ext hx
  replace b1 := b1.ext hx
  replace hr1a := hr1a.below hx
  replace hr1b := hr1b.below hx
  replace hr1c := hr1c.below hx
  replace hr2a := hr2a.below hx
  replace hr2b := hr2b.below hx
  replace hr2c := hr2c.below hx
  replace o29 := o29.ext hx
  replace o32 := o32.ext hx
  replace o35 := o35.ext hx
  replace b39 := b39.ext hx
  replace o44 := o44.ext hx
  replace o47 := o47.ext hx
  replace o50 := o50.ext hx
  replace hx0 := hx0.trans hx
  clear hx
  clear zb1_0 zb1_1 zb1_2 zb1_3 qb1
  have le_o68 : w.heap.size ≤ w65.heap.size := hx0.size
  have le_o71 : w.heap.size ≤ w65.heap.size := hx0.size
  have le_o74 : w.heap.size ≤ w65.heap.size := hx0.size
  refine (toSparse_any r2 A2a n2a cap2a A2b n2b cap2b A2c n2c cap2c xs2a xs2b xs2c _ hr2a hr2b hr2c (by omega) (by omega) (by omega)).mono ?_
  rintro e w78 ⟨Ax66, kx67, Ax69, kx70, Ax72, kx73, rfl, o68, o71, o74, ne75, ne76, ne77, hx⟩
  have ne79 := o29.ne o68
  have ne80 := o32.ne o68
  have ne81 := o35.ne o68
  have ne82 := o44.ne o68
  have ne83 := o47.ne o68
  have ne84 := o50.ne o68
  have hs_o68 := o68.small; simp only [ints_length] at hs_o68
  have ne85 := o29.ne o71
  have ne86 := o32.ne o71
  have ne87 := o35.ne o71
  have ne88 := o44.ne o71
  have ne89 := o47.ne o71
  have ne90 := o50.ne o71
  have hs_o71 := o71.small; simp only [ints_length] at hs_o71
  have ne91 := o29.ne o74
  have ne92 := o32.ne o74
  have ne93 := o35.ne o74
  have ne94 := o44.ne o74
  have ne95 := o47.ne o74
  have ne96 := o50.ne o74
  have hs_o74 := o74.small; simp only [flts_length] at hs_o74
  replace b0 := b0.ext hx
  replace b1 := b1.ext hx
  replace hr1a := hr1a.below hx
  replace hr1b := hr1b.below hx
  replace hr1c := hr1c.below hx
  replace hr2a := hr2a.below hx
  replace hr2b := hr2b.below hx
  replace hr2c := hr2c.below hx
  replace o29 := o29.ext hx
  replace o32 := o32.ext hx
  replace o35 := o35.ext hx
  replace b39 := b39.ext hx
  replace o44 := o44.ext hx
  replace o47 := o47.ext hx
  replace o50 := o50.ext hx
  replace b64 := b64.ext hx
  replace hx0 := hx0.trans hx
  clear hx
  have zb64_0 := b64.cell 0 rfl
  have zb64_1 := b64.cell 1 rfl
  have zb64_2 := b64.cell 2 rfl
  have zb64_3 := b64.cell 3 rfl
  have qb64 := b64.lt
  go_wp2_with fail
  obtain ⟨w98, hw⟩ : ∃ v : World, v = (w78.alloc (.cells #[.int .i64 r2, .slice Ax66 n2a kx67, .slice Ax69 n2b kx70, .slice Ax72 n2c kx73] 27)) := ⟨_, rfl⟩
  rw [← hw]
  have hx : Ext w78 w98 := by subst hw; exact (Ext.refl _).alloc _
  have b97 : Blk w98 w78.heap.size #[.int .i64 r2, .slice Ax66 n2a kx67, .slice Ax69 n2b kx70, .slice Ax72 n2c kx73] 27 := by subst hw; exact Blk.new _ _ _
  clear hw
  replace b0 := b0.ext hx
  replace b1 := b1.ext hx
  replace hr1a := hr1a.below hx
  replace hr1b := hr1b.below hx
  replace hr1c := hr1c.below hx
  replace hr2a := hr2a.below hx
  replace hr2b := hr2b.below hx
  replace hr2c := hr2c.below hx
  replace o29 := o29.ext hx
  replace o32 := o32.ext hx
  replace o35 := o35.ext hx
  replace b39 := b39.ext hx
  replace o44 := o44.ext hx
  replace o47 := o47.ext hx
  replace o50 := o50.ext hx
  replace b64 := b64.ext hx
  replace o68 := o68.ext hx
  replace o71 := o71.ext hx
  replace o74 := o74.ext hx
  replace hx0 := hx0.trans hx
  clear hx
  clear zb64_0 zb64_1 zb64_2 zb64_3 qb64
  have le_o101 : w.heap.size ≤ w98.heap.size := hx0.size
  have le_o104 : w.heap.size ≤ w98.heap.size := hx0.size
  have le_o107 : w.heap.size ≤ w98.heap.size := hx0.size
  refine (implSparseWeigh_any r1 Ax42 n1a kx43 Ax45 n1b kx46 Ax48 n1c kx49 r2 Ax66 n2a kx67 Ax69 n2b kx70 Ax72 n2c kx73 x3 x4 xs1a xs1b xs1c xs2a xs2b xs2c _ o44.reads o47.reads o50.reads o68.reads o71.reads o74.reads).mono ?_
  rw [← Hd.out]
  rintro e w111 ⟨Ax99, kx100, Ax102, kx103, Ax105, kx106, rfl, o101, o104, o107, ne108, ne109, ne110, hx⟩
  have ne112 := o29.ne o101
  have ne113 := o32.ne o101
  have ne114 := o35.ne o101
  have ne115 := o44.ne o101
  have ne116 := o47.ne o101
  have ne117 := o50.ne o101
  have ne118 := o68.ne o101
  have ne119 := o71.ne o101
  have ne120 := o74.ne o101
  have hs_o101 := o101.small; simp only [ints_length] at hs_o101
  have ne121 := o29.ne o104
  have ne122 := o32.ne o104
  have ne123 := o35.ne o104
  have ne124 := o44.ne o104
  have ne125 := o47.ne o104
  have ne126 := o50.ne o104
  have ne127 := o68.ne o104
  have ne128 := o71.ne o104
  have ne129 := o74.ne o104
  have hs_o104 := o104.small; simp only [ints_length] at hs_o104
  have ne130 := o29.ne o107
  have ne131 := o32.ne o107
  have ne132 := o35.ne o107
  have ne133 := o44.ne o107
  have ne134 := o47.ne o107
  have ne135 := o50.ne o107
  have ne136 := o68.ne o107
  have ne137 := o71.ne o107
  have ne138 := o74.ne o107
  have hs_o107 := o107.small; simp only [flts_length] at hs_o107
  replace b0 := b0.ext hx
  replace b1 := b1.ext hx
  replace hr1a := hr1a.below hx
  replace hr1b := hr1b.below hx
  replace hr1c := hr1c.below hx
  replace hr2a := hr2a.below hx
  replace hr2b := hr2b.below hx
  replace hr2c := hr2c.below hx
  replace o29 := o29.ext hx
  replace o32 := o32.ext hx
  replace o35 := o35.ext hx
  replace b39 := b39.ext hx
  replace o44 := o44.ext hx
  replace o47 := o47.ext hx
  replace o50 := o50.ext hx
  replace b64 := b64.ext hx
  replace o68 := o68.ext hx
  replace o71 := o71.ext hx
  replace o74 := o74.ext hx
  replace b97 := b97.ext hx
  replace hx0 := hx0.trans hx
  clear hx
  have zb39_0 := b39.cell 0 rfl
  have zb39_1 := b39.cell 1 rfl
  have zb39_2 := b39.cell 2 rfl
  have zb39_3 := b39.cell 3 rfl
  have qb39 := b39.lt
  go_wp2_with fail
  obtain ⟨w140, hw⟩ : ∃ v : World, v = (w111.alloc (.cells #[.int .i64 d.sd, .slice Ax99 d.st.length kx100, .slice Ax102 d.co.length kx103, .slice Ax105 d.va.length kx106] 27)) := ⟨_, rfl⟩
  rw [← hw]
  have hx : Ext w111 w140 := by subst hw; exact (Ext.refl _).alloc _
  have b139 : Blk w140 w111.heap.size #[.int .i64 d.sd, .slice Ax99 d.st.length kx100, .slice Ax102 d.co.length kx103, .slice Ax105 d.va.length kx106] 27 := by subst hw; exact Blk.new _ _ _
  clear hw
  replace b0 := b0.ext hx
  replace b1 := b1.ext hx
  replace hr1a := hr1a.below hx
  replace hr1b := hr1b.below hx
  replace hr1c := hr1c.below hx
  replace hr2a := hr2a.below hx
  replace hr2b := hr2b.below hx
  replace hr2c := hr2c.below hx
  replace o29 := o29.ext hx
  replace o32 := o32.ext hx
  replace o35 := o35.ext hx
  replace b39 := b39.ext hx
  replace o44 := o44.ext hx
  replace o47 := o47.ext hx
  replace o50 := o50.ext hx
  replace b64 := b64.ext hx
  replace o68 := o68.ext hx
  replace o71 := o71.ext hx
  replace o74 := o74.ext hx
  replace b97 := b97.ext hx
  replace o101 := o101.ext hx
  replace o104 := o104.ext hx
  replace o107 := o107.ext hx
  replace hx0 := hx0.trans hx
  clear hx
  clear zb39_0 zb39_1 zb39_2 zb39_3 qb39
  refine (eqSparse_any d.sd d.sd Ax99 Ax102 Ax105 Ax27 Ax30 Ax33 d.st.length d.co.length d.va.length d.st.length d.co.length d.va.length kx100 kx103 kx106 kx28 kx31 kx34  d.st d.co d.va d.st d.co d.va _ o101.reads o104.reads o107.reads o29.reads o32.reads o35.reads ⟨rfl, rfl, rfl, rfl⟩).mono ?_
  rintro e w141 ⟨rfl, hx⟩
  replace b0 := b0.ext hx
  replace b1 := b1.ext hx
  replace hr1a := hr1a.below hx
  replace hr1b := hr1b.below hx
  replace hr1c := hr1c.below hx
  replace hr2a := hr2a.below hx
  replace hr2b := hr2b.below hx
  replace hr2c := hr2c.below hx
  replace o29 := o29.ext hx
  replace o32 := o32.ext hx
  replace o35 := o35.ext hx
  replace b39 := b39.ext hx
  replace o44 := o44.ext hx
  replace o47 := o47.ext hx
  replace o50 := o50.ext hx
  replace b64 := b64.ext hx
  replace o68 := o68.ext hx
  replace o71 := o71.ext hx
  replace o74 := o74.ext hx
  replace b97 := b97.ext hx
  replace o101 := o101.ext hx
  replace o104 := o104.ext hx
  replace o107 := o107.ext hx
  replace b139 := b139.ext hx
  replace hx0 := hx0.trans hx
  clear hx
  go_wp2_with fail
  have zb64_0 := b64.cell 0 rfl
  have zb64_1 := b64.cell 1 rfl
  have zb64_2 := b64.cell 2 rfl
  have zb64_3 := b64.cell 3 rfl
  have zb0_0 := b0.cell 0 rfl
  have zb0_1 := b0.cell 1 rfl
  have zb0_2 := b0.cell 2 rfl
  have zb0_3 := b0.cell 3 rfl
  refine wp_region_T (cs := []) [0, 1, 2, 3, 4] [] [2, 3] [(3, [2])] (fun i__ v => match i__ with | 2 => ∃ (Ax142 : Option Addr) (kx143 : Nat) (Ax145 : Option Addr) (kx146 : Nat) (Ax148 : Option Addr) (kx149 : Nat), v = (.agg #[.int .i64 r1, .slice Ax142 n1a kx143, .slice Ax145 n1b kx146, .slice Ax148 n1c kx149]) | 3 => v = (.bool true) | _ => False) (fun i__ v w' => match i__ with | 2 => OwnF w' w141.heap.size 2 v [1] (ints xs1a) ∧ OwnF w' w141.heap.size 2 v [2] (ints xs1b) ∧ OwnF w' w141.heap.size 43 v [3] (flts xs1c) | _ => True) (by kernel_rfl) (by kernel_rfl) (by intro i v w' w2 h hx; revert h; (try dsimp only); split <;> intro h <;> first | trivial | exact RdsF.ext h hx | exact OwnF.ext h hx | exact BlkF.ext h hx | exact ⟨RdsF.ext h.1 hx, RdsF.ext h.2 hx⟩ | exact ⟨OwnF.ext h.1 hx, OwnF.ext h.2 hx⟩ | exact ⟨RdsF.ext h.1 hx, RdsF.ext h.2.1 hx, RdsF.ext h.2.2 hx⟩ | exact ⟨OwnF.ext h.1 hx, OwnF.ext h.2.1 hx, OwnF.ext h.2.2 hx⟩) ?_
  refine' wpT_det (o := ⟨some 62, Op.load 27 (Operand.tmp 12), 27, "exact.go:4978", #[], none⟩) rfl (by rfl) (by rfl) (fun w' hw' => ?_) ?_; rotate_left
  · have zb64_0_ := Ext.cell hw' zb64_0; have zb64_1_ := Ext.cell hw' zb64_1; have zb64_2_ := Ext.cell hw' zb64_2; have zb64_3_ := Ext.cell hw' zb64_3; have zb0_0_ := Ext.cell hw' zb0_0; have zb0_1_ := Ext.cell hw' zb0_1; have zb0_2_ := Ext.cell hw' zb0_2; have zb0_3_ := Ext.cell hw' zb0_3; go_simp <;> first | rfl | exact ⟨rfl, rfl⟩
  simp only [Act.put, List.setIfInBounds_toArray, List.set_cons_zero, List.set_cons_succ]
  refine' wpT_det (o := ⟨some 63, Op.load 25 (Operand.tmp 4), 25, "exact.go:4978", #[], none⟩) rfl (by rfl) (by rfl) (fun w' hw' => ?_) ?_; rotate_left
  · have zb64_0_ := Ext.cell hw' zb64_0; have zb64_1_ := Ext.cell hw' zb64_1; have zb64_2_ := Ext.cell hw' zb64_2; have zb64_3_ := Ext.cell hw' zb64_3; have zb0_0_ := Ext.cell hw' zb0_0; have zb0_1_ := Ext.cell hw' zb0_1; have zb0_2_ := Ext.cell hw' zb0_2; have zb0_3_ := Ext.cell hw' zb0_3; go_simp <;> first | rfl | exact ⟨rfl, rfl⟩
  simp only [Act.put, List.setIfInBounds_toArray, List.set_cons_zero, List.set_cons_succ]
  refine wpT_nd (o := ⟨some 64, Op.call { callee := Callee.value (Operand.func 22), args := #[Operand.tmp 63], argTypes := #[25] }, 27, "exact.go:4978", #[{ on := 1, ground := Ground.data }], none⟩) rfl (by rfl) (by rfl) (fun w' hw' hF R__ hGo => ?_) ⟨_, none, 0, none, 0, none, 0, rfl⟩ ?_
  · go_simp
    refine gives_enter rfl ?_
    refine (toSparse_any r1 A1a n1a cap1a A1b n1b cap1b A1c n1c cap1c xs1a xs1b xs1c _ (hr1a.below hw'.undrew) (hr1b.below hw'.undrew) (hr1c.below hw'.undrew) (by omega) (by omega) (by omega)).mono ?_
    rintro e w2 ⟨Ax142, kx143, Ax145, kx146, Ax148, kx149, rfl, o144, o147, o150, ne151, ne152, ne153, hx⟩
    exact ⟨_, rfl, hGo _ _ hx ⟨_, _, _, _, _, _, rfl⟩ ⟨OwnF.of (o144.base hw'.size) rfl, OwnF.of (o147.base hw'.size) rfl, OwnF.of (o150.base hw'.size) rfl⟩⟩
  rintro _ ⟨Ax142, kx143, Ax145, kx146, Ax148, kx149, rfl⟩
  simp only [Act.put, List.setIfInBounds_toArray, List.set_cons_zero, List.set_cons_succ]
  refine wpT_nd (o := ⟨some 65, Op.call { callee := Callee.value (Operand.func 24), args := #[Operand.tmp 62, Operand.tmp 64], argTypes := #[27, 27] }, 4, "exact.go:4978", #[{ on := 0, ground := Ground.data }, { on := 2, ground := Ground.data }, { on := 2, ground := Ground.chain }], none⟩) rfl (by rfl) (by rfl) (fun w' hw' hF R__ hGo => ?_) ⟨_, rfl⟩ ?_
  · go_simp
    refine gives_enter rfl ?_
    refine (eqSparse_any r1 r1 Ax42 Ax45 Ax48 Ax142 Ax145 Ax148 n1a n1b n1c n1a n1b n1c kx43 kx46 kx49 kx143 kx146 kx149  xs1a xs1b xs1c xs1a xs1b xs1c _ (o44.reads.below hw'.undrew) (o47.reads.below hw'.undrew) (o50.reads.below hw'.undrew) ((hF 2 (by simp [uses]) _ rfl).1 _ _ _ rfl).reads ((hF 2 (by simp [uses]) _ rfl).2.1 _ _ _ rfl).reads ((hF 2 (by simp [uses]) _ rfl).2.2 _ _ _ rfl).reads ⟨rfl, rfl, rfl, rfl⟩).mono ?_
    rintro e w2 ⟨rfl, hx⟩
    exact ⟨_, rfl, hGo _ _ hx rfl trivial⟩
  intro v hv
  obtain rfl : v = (.bool true) := hv
  simp only [Act.put, List.setIfInBounds_toArray, List.set_cons_zero, List.set_cons_succ]
  refine' wpT_det (o := ⟨some 66, Op.unOp UnOp.not 4 (Operand.tmp 65), 4, "exact.go:4978", #[{ on := 3, ground := Ground.data }], none⟩) rfl (by rfl) (by rfl) (fun w' hw' => ?_) ?_; rotate_left
  · go_simp <;> first | rfl | exact ⟨rfl, rfl⟩
  simp only [Act.put, List.setIfInBounds_toArray, List.set_cons_zero, List.set_cons_succ]
  refine wpT_nil (fun w154 hw' hF => ?_)
  refine wpList_nil ?_
  clear zb64_0 zb64_1 zb64_2 zb64_3 zb0_0 zb0_1 zb0_2 zb0_3
  have hx := hw'.undrew; clear hw'
  clear hF
  replace b0 := b0.ext hx
  replace b1 := b1.ext hx
  replace hr1a := hr1a.below hx
  replace hr1b := hr1b.below hx
  replace hr1c := hr1c.below hx
  replace hr2a := hr2a.below hx
  replace hr2b := hr2b.below hx
  replace hr2c := hr2c.below hx
  replace o29 := o29.ext hx
  replace o32 := o32.ext hx
  replace o35 := o35.ext hx
  replace b39 := b39.ext hx
  replace o44 := o44.ext hx
  replace o47 := o47.ext hx
  replace o50 := o50.ext hx
  replace b64 := b64.ext hx
  replace o68 := o68.ext hx
  replace o71 := o71.ext hx
  replace o74 := o74.ext hx
  replace b97 := b97.ext hx
  replace o101 := o101.ext hx
  replace o104 := o104.ext hx
  replace o107 := o107.ext hx
  replace b139 := b139.ext hx
  replace hx0 := hx0.trans hx
  clear hx
  go_wp2_with fail
  have zb97_0 := b97.cell 0 rfl
  have zb97_1 := b97.cell 1 rfl
  have zb97_2 := b97.cell 2 rfl
  have zb97_3 := b97.cell 3 rfl
  have zb1_0 := b1.cell 0 rfl
  have zb1_1 := b1.cell 1 rfl
  have zb1_2 := b1.cell 2 rfl
  have zb1_3 := b1.cell 3 rfl
  refine wp_region_T (cs := []) [0, 1, 2, 3, 4] [] [2, 3] [(3, [2])] (fun i__ v => match i__ with | 2 => ∃ (Ax155 : Option Addr) (kx156 : Nat) (Ax158 : Option Addr) (kx159 : Nat) (Ax161 : Option Addr) (kx162 : Nat), v = (.agg #[.int .i64 r2, .slice Ax155 n2a kx156, .slice Ax158 n2b kx159, .slice Ax161 n2c kx162]) | 3 => v = (.bool true) | _ => False) (fun i__ v w' => match i__ with | 2 => OwnF w' w154.heap.size 2 v [1] (ints xs2a) ∧ OwnF w' w154.heap.size 2 v [2] (ints xs2b) ∧ OwnF w' w154.heap.size 43 v [3] (flts xs2c) | _ => True) (by kernel_rfl) (by kernel_rfl) (by intro i v w' w2 h hx; revert h; (try dsimp only); split <;> intro h <;> first | trivial | exact RdsF.ext h hx | exact OwnF.ext h hx | exact BlkF.ext h hx | exact ⟨RdsF.ext h.1 hx, RdsF.ext h.2 hx⟩ | exact ⟨OwnF.ext h.1 hx, OwnF.ext h.2 hx⟩ | exact ⟨RdsF.ext h.1 hx, RdsF.ext h.2.1 hx, RdsF.ext h.2.2 hx⟩ | exact ⟨OwnF.ext h.1 hx, OwnF.ext h.2.1 hx, OwnF.ext h.2.2 hx⟩) ?_
  refine' wpT_det (o := ⟨some 67, Op.load 27 (Operand.tmp 13), 27, "exact.go:4981", #[], none⟩) rfl (by rfl) (by rfl) (fun w' hw' => ?_) ?_; rotate_left
  · have zb97_0_ := Ext.cell hw' zb97_0; have zb97_1_ := Ext.cell hw' zb97_1; have zb97_2_ := Ext.cell hw' zb97_2; have zb97_3_ := Ext.cell hw' zb97_3; have zb1_0_ := Ext.cell hw' zb1_0; have zb1_1_ := Ext.cell hw' zb1_1; have zb1_2_ := Ext.cell hw' zb1_2; have zb1_3_ := Ext.cell hw' zb1_3; go_simp <;> first | rfl | exact ⟨rfl, rfl⟩
  simp only [Act.put, List.setIfInBounds_toArray, List.set_cons_zero, List.set_cons_succ]
  refine' wpT_det (o := ⟨some 68, Op.load 25 (Operand.tmp 5), 25, "exact.go:4981", #[], none⟩) rfl (by rfl) (by rfl) (fun w' hw' => ?_) ?_; rotate_left
  · have zb97_0_ := Ext.cell hw' zb97_0; have zb97_1_ := Ext.cell hw' zb97_1; have zb97_2_ := Ext.cell hw' zb97_2; have zb97_3_ := Ext.cell hw' zb97_3; have zb1_0_ := Ext.cell hw' zb1_0; have zb1_1_ := Ext.cell hw' zb1_1; have zb1_2_ := Ext.cell hw' zb1_2; have zb1_3_ := Ext.cell hw' zb1_3; go_simp <;> first | rfl | exact ⟨rfl, rfl⟩
  simp only [Act.put, List.setIfInBounds_toArray, List.set_cons_zero, List.set_cons_succ]
  refine wpT_nd (o := ⟨some 69, Op.call { callee := Callee.value (Operand.func 22), args := #[Operand.tmp 68], argTypes := #[25] }, 27, "exact.go:4981", #[{ on := 1, ground := Ground.data }], none⟩) rfl (by rfl) (by rfl) (fun w' hw' hF R__ hGo => ?_) ⟨_, none, 0, none, 0, none, 0, rfl⟩ ?_
  · go_simp
    refine gives_enter rfl ?_
    refine (toSparse_any r2 A2a n2a cap2a A2b n2b cap2b A2c n2c cap2c xs2a xs2b xs2c _ (hr2a.below hw'.undrew) (hr2b.below hw'.undrew) (hr2c.below hw'.undrew) (by omega) (by omega) (by omega)).mono ?_
    rintro e w2 ⟨Ax155, kx156, Ax158, kx159, Ax161, kx162, rfl, o157, o160, o163, ne164, ne165, ne166, hx⟩
    exact ⟨_, rfl, hGo _ _ hx ⟨_, _, _, _, _, _, rfl⟩ ⟨OwnF.of (o157.base hw'.size) rfl, OwnF.of (o160.base hw'.size) rfl, OwnF.of (o163.base hw'.size) rfl⟩⟩
  rintro _ ⟨Ax155, kx156, Ax158, kx159, Ax161, kx162, rfl⟩
  simp only [Act.put, List.setIfInBounds_toArray, List.set_cons_zero, List.set_cons_succ]
  refine wpT_nd (o := ⟨some 70, Op.call { callee := Callee.value (Operand.func 24), args := #[Operand.tmp 67, Operand.tmp 69], argTypes := #[27, 27] }, 4, "exact.go:4981", #[{ on := 0, ground := Ground.data }, { on := 2, ground := Ground.data }, { on := 2, ground := Ground.chain }], none⟩) rfl (by rfl) (by rfl) (fun w' hw' hF R__ hGo => ?_) ⟨_, rfl⟩ ?_
  · go_simp
    refine gives_enter rfl ?_
    refine (eqSparse_any r2 r2 Ax66 Ax69 Ax72 Ax155 Ax158 Ax161 n2a n2b n2c n2a n2b n2c kx67 kx70 kx73 kx156 kx159 kx162  xs2a xs2b xs2c xs2a xs2b xs2c _ (o68.reads.below hw'.undrew) (o71.reads.below hw'.undrew) (o74.reads.below hw'.undrew) ((hF 2 (by simp [uses]) _ rfl).1 _ _ _ rfl).reads ((hF 2 (by simp [uses]) _ rfl).2.1 _ _ _ rfl).reads ((hF 2 (by simp [uses]) _ rfl).2.2 _ _ _ rfl).reads ⟨rfl, rfl, rfl, rfl⟩).mono ?_
    rintro e w2 ⟨rfl, hx⟩
    exact ⟨_, rfl, hGo _ _ hx rfl trivial⟩
  intro v hv
  obtain rfl : v = (.bool true) := hv
  simp only [Act.put, List.setIfInBounds_toArray, List.set_cons_zero, List.set_cons_succ]
  refine' wpT_det (o := ⟨some 71, Op.unOp UnOp.not 4 (Operand.tmp 70), 4, "exact.go:4981", #[{ on := 3, ground := Ground.data }], none⟩) rfl (by rfl) (by rfl) (fun w' hw' => ?_) ?_; rotate_left
  · go_simp <;> first | rfl | exact ⟨rfl, rfl⟩
  simp only [Act.put, List.setIfInBounds_toArray, List.set_cons_zero, List.set_cons_succ]
  refine wpT_nil (fun w167 hw' hF => ?_)
  refine wpList_nil ?_
  clear zb97_0 zb97_1 zb97_2 zb97_3 zb1_0 zb1_1 zb1_2 zb1_3
  have hx := hw'.undrew; clear hw'
  clear hF
  replace b0 := b0.ext hx
  replace b1 := b1.ext hx
  replace hr1a := hr1a.below hx
  replace hr1b := hr1b.below hx
  replace hr1c := hr1c.below hx
  replace hr2a := hr2a.below hx
  replace hr2b := hr2b.below hx
  replace hr2c := hr2c.below hx
  replace o29 := o29.ext hx
  replace o32 := o32.ext hx
  replace o35 := o35.ext hx
  replace b39 := b39.ext hx
  replace o44 := o44.ext hx
  replace o47 := o47.ext hx
  replace o50 := o50.ext hx
  replace b64 := b64.ext hx
  replace o68 := o68.ext hx
  replace o71 := o71.ext hx
  replace o74 := o74.ext hx
  replace b97 := b97.ext hx
  replace o101 := o101.ext hx
  replace o104 := o104.ext hx
  replace o107 := o107.ext hx
  replace b139 := b139.ext hx
  replace hx0 := hx0.trans hx
  clear hx
  have zb64_0 := b64.cell 0 rfl
  have zb64_1 := b64.cell 1 rfl
  have zb64_2 := b64.cell 2 rfl
  have zb64_3 := b64.cell 3 rfl
  go_wp2_with fail
  clear zb64_0 zb64_1 zb64_2 zb64_3
  refine (markSparse_any _ r1 Ax42 n1a kx43 Ax45 n1b kx46 Ax48 n1c kx49 _ _ _ 1 _ (by omega) o44 o47 o50 ne51 ne52 ne53).mono ?_
  rintro e w168 ⟨rfl, w169, w170, o1_, hw, o2_, hw2, o3_, hw3⟩
  replace b0 := b0.wr hw o44 (by decide)
  replace b1 := b1.wr hw o44 (by decide)
  replace o29 := o29.other hw ne55.1
  replace o32 := o32.other hw ne56.1
  replace o35 := o35.other hw ne57.1
  replace b39 := b39.wr hw o44 (by decide)
  replace o47 := o47.other hw ne51.2
  replace o50 := o50.other hw ne52.2
  replace b64 := b64.wr hw o44 (by decide)
  replace o68 := o68.other hw ne82.2
  replace o71 := o71.other hw ne88.2
  replace o74 := o74.other hw ne94.2
  replace b97 := b97.wr hw o44 (by decide)
  replace o101 := o101.other hw ne115.2
  replace o104 := o104.other hw ne124.2
  replace o107 := o107.other hw ne133.2
  replace b139 := b139.wr hw o44 (by decide)
  replace hx0 := hw.ext hx0 (o44.base le_o44)
  replace hr1a := hr1a0.below hx0
  replace hr1b := hr1b0.below hx0
  replace hr1c := hr1c0.below hx0
  replace hr2a := hr2a0.below hx0
  replace hr2b := hr2b0.below hx0
  replace hr2c := hr2c0.below hx0
  clear o44 hw; have o44 := o1_; clear o1_; have hw := hw2; clear hw2
  replace b0 := b0.wr hw o47 (by decide)
  replace b1 := b1.wr hw o47 (by decide)
  replace o29 := o29.other hw ne58.1
  replace o32 := o32.other hw ne59.1
  replace o35 := o35.other hw ne60.1
  replace b39 := b39.wr hw o47 (by decide)
  replace o44 := o44.other hw ne51.1
  replace o50 := o50.other hw ne53.2
  replace b64 := b64.wr hw o47 (by decide)
  replace o68 := o68.other hw ne83.2
  replace o71 := o71.other hw ne89.2
  replace o74 := o74.other hw ne95.2
  replace b97 := b97.wr hw o47 (by decide)
  replace o101 := o101.other hw ne116.2
  replace o104 := o104.other hw ne125.2
  replace o107 := o107.other hw ne134.2
  replace b139 := b139.wr hw o47 (by decide)
  replace hx0 := hw.ext hx0 (o47.base le_o47)
  replace hr1a := hr1a0.below hx0
  replace hr1b := hr1b0.below hx0
  replace hr1c := hr1c0.below hx0
  replace hr2a := hr2a0.below hx0
  replace hr2b := hr2b0.below hx0
  replace hr2c := hr2c0.below hx0
  clear o47 hw; have o47 := o2_; clear o2_; have hw := hw3; clear hw3
  replace b0 := b0.wr hw o50 (by decide)
  replace b1 := b1.wr hw o50 (by decide)
  replace o29 := o29.other hw ne61.1
  replace o32 := o32.other hw ne62.1
  replace o35 := o35.other hw ne63.1
  replace b39 := b39.wr hw o50 (by decide)
  replace o44 := o44.other hw ne52.1
  replace o47 := o47.other hw ne53.1
  replace b64 := b64.wr hw o50 (by decide)
  replace o68 := o68.other hw ne84.2
  replace o71 := o71.other hw ne90.2
  replace o74 := o74.other hw ne96.2
  replace b97 := b97.wr hw o50 (by decide)
  replace o101 := o101.other hw ne117.2
  replace o104 := o104.other hw ne126.2
  replace o107 := o107.other hw ne135.2
  replace b139 := b139.wr hw o50 (by decide)
  replace hx0 := hw.ext hx0 (o50.base le_o50)
  replace hr1a := hr1a0.below hx0
  replace hr1b := hr1b0.below hx0
  replace hr1c := hr1c0.below hx0
  replace hr2a := hr2a0.below hx0
  replace hr2b := hr2b0.below hx0
  replace hr2c := hr2c0.below hx0
  clear o50 hw; have o50 := o3_; clear o3_
  have zb97_0 := b97.cell 0 rfl
  have zb97_1 := b97.cell 1 rfl
  have zb97_2 := b97.cell 2 rfl
  have zb97_3 := b97.cell 3 rfl
  go_wp2_with fail
  clear zb97_0 zb97_1 zb97_2 zb97_3
  refine (markSparse_any _ r2 Ax66 n2a kx67 Ax69 n2b kx70 Ax72 n2c kx73 _ _ _ (1 + n1a + n1b + n1c) _ (by omega) o68 o71 o74 ne75 ne76 ne77).mono ?_
  rintro e w171 ⟨rfl, w172, w173, o1_, hw, o2_, hw2, o3_, hw3⟩
  replace b0 := b0.wr hw o68 (by decide)
  replace b1 := b1.wr hw o68 (by decide)
  replace o29 := o29.other hw ne79.1
  replace o32 := o32.other hw ne80.1
  replace o35 := o35.other hw ne81.1
  replace b39 := b39.wr hw o68 (by decide)
  replace o44 := o44.other hw ne82.1
  replace o47 := o47.other hw ne83.1
  replace o50 := o50.other hw ne84.1
  replace b64 := b64.wr hw o68 (by decide)
  replace o71 := o71.other hw ne75.2
  replace o74 := o74.other hw ne76.2
  replace b97 := b97.wr hw o68 (by decide)
  replace o101 := o101.other hw ne118.2
  replace o104 := o104.other hw ne127.2
  replace o107 := o107.other hw ne136.2
  replace b139 := b139.wr hw o68 (by decide)
  replace hx0 := hw.ext hx0 (o68.base le_o68)
  replace hr1a := hr1a0.below hx0
  replace hr1b := hr1b0.below hx0
  replace hr1c := hr1c0.below hx0
  replace hr2a := hr2a0.below hx0
  replace hr2b := hr2b0.below hx0
  replace hr2c := hr2c0.below hx0
  clear o68 hw; have o68 := o1_; clear o1_; have hw := hw2; clear hw2
  replace b0 := b0.wr hw o71 (by decide)
  replace b1 := b1.wr hw o71 (by decide)
  replace o29 := o29.other hw ne85.1
  replace o32 := o32.other hw ne86.1
  replace o35 := o35.other hw ne87.1
  replace b39 := b39.wr hw o71 (by decide)
  replace o44 := o44.other hw ne88.1
  replace o47 := o47.other hw ne89.1
  replace o50 := o50.other hw ne90.1
  replace b64 := b64.wr hw o71 (by decide)
  replace o68 := o68.other hw ne75.1
  replace o74 := o74.other hw ne77.2
  replace b97 := b97.wr hw o71 (by decide)
  replace o101 := o101.other hw ne119.2
  replace o104 := o104.other hw ne128.2
  replace o107 := o107.other hw ne137.2
  replace b139 := b139.wr hw o71 (by decide)
  replace hx0 := hw.ext hx0 (o71.base le_o71)
  replace hr1a := hr1a0.below hx0
  replace hr1b := hr1b0.below hx0
  replace hr1c := hr1c0.below hx0
  replace hr2a := hr2a0.below hx0
  replace hr2b := hr2b0.below hx0
  replace hr2c := hr2c0.below hx0
  clear o71 hw; have o71 := o2_; clear o2_; have hw := hw3; clear hw3
  replace b0 := b0.wr hw o74 (by decide)
  replace b1 := b1.wr hw o74 (by decide)
  replace o29 := o29.other hw ne91.1
  replace o32 := o32.other hw ne92.1
  replace o35 := o35.other hw ne93.1
  replace b39 := b39.wr hw o74 (by decide)
  replace o44 := o44.other hw ne94.1
  replace o47 := o47.other hw ne95.1
  replace o50 := o50.other hw ne96.1
  replace b64 := b64.wr hw o74 (by decide)
  replace o68 := o68.other hw ne76.1
  replace o71 := o71.other hw ne77.1
  replace b97 := b97.wr hw o74 (by decide)
  replace o101 := o101.other hw ne120.2
  replace o104 := o104.other hw ne129.2
  replace o107 := o107.other hw ne138.2
  replace b139 := b139.wr hw o74 (by decide)
  replace hx0 := hw.ext hx0 (o74.base le_o74)
  replace hr1a := hr1a0.below hx0
  replace hr1b := hr1b0.below hx0
  replace hr1c := hr1c0.below hx0
  replace hr2a := hr2a0.below hx0
  replace hr2b := hr2b0.below hx0
  replace hr2c := hr2c0.below hx0
  clear o74 hw; have o74 := o3_; clear o3_
  have zb139_0 := b139.cell 0 rfl
  have zb139_1 := b139.cell 1 rfl
  have zb139_2 := b139.cell 2 rfl
  have zb139_3 := b139.cell 3 rfl
  have zb39_0 := b39.cell 0 rfl
  have zb39_1 := b39.cell 1 rfl
  have zb39_2 := b39.cell 2 rfl
  have zb39_3 := b39.cell 3 rfl
  go_wp2_with fail
  clear zb139_0 zb139_1 zb139_2 zb139_3 zb39_0 zb39_1 zb39_2 zb39_3
  refine (eqSparse_any d.sd d.sd Ax99 Ax102 Ax105 Ax27 Ax30 Ax33 d.st.length d.co.length d.va.length d.st.length d.co.length d.va.length kx100 kx103 kx106 kx28 kx31 kx34  d.st d.co d.va d.st d.co d.va _ o101.reads o104.reads o107.reads o29.reads o32.reads o35.reads ⟨rfl, rfl, rfl, rfl⟩).mono ?_
  rintro e w174 ⟨rfl, hx⟩
  replace b0 := b0.ext hx
  replace b1 := b1.ext hx
  replace hr1a := hr1a.below hx
  replace hr1b := hr1b.below hx
  replace hr1c := hr1c.below hx
  replace hr2a := hr2a.below hx
  replace hr2b := hr2b.below hx
  replace hr2c := hr2c.below hx
  replace o29 := o29.ext hx
  replace o32 := o32.ext hx
  replace o35 := o35.ext hx
  replace b39 := b39.ext hx
  replace o44 := o44.ext hx
  replace o47 := o47.ext hx
  replace o50 := o50.ext hx
  replace b64 := b64.ext hx
  replace o68 := o68.ext hx
  replace o71 := o71.ext hx
  replace o74 := o74.ext hx
  replace b97 := b97.ext hx
  replace o101 := o101.ext hx
  replace o104 := o104.ext hx
  replace o107 := o107.ext hx
  replace b139 := b139.ext hx
  replace hx0 := hx0.trans hx
  clear hx
  have zb139_0 := b139.cell 0 rfl
  have zb139_1 := b139.cell 1 rfl
  have zb139_2 := b139.cell 2 rfl
  have zb139_3 := b139.cell 3 rfl
  go_wp2_with fail
  clear zb139_0 zb139_1 zb139_2 zb139_3
  refine (markSparse_any _ d.sd Ax99 d.st.length kx100 Ax102 d.co.length kx103 Ax105 d.va.length kx106 _ _ _ 1 _ (by omega) o101 o104 o107 ne108 ne109 ne110).mono ?_
  rintro e w175 ⟨rfl, w176, w177, o1_, hw, o2_, hw2, o3_, hw3⟩
  replace b0 := b0.wr hw o101 (by decide)
  replace b1 := b1.wr hw o101 (by decide)
  replace o29 := o29.other hw ne112.1
  replace o32 := o32.other hw ne113.1
  replace o35 := o35.other hw ne114.1
  replace b39 := b39.wr hw o101 (by decide)
  replace o44 := o44.other hw ne115.1
  replace o47 := o47.other hw ne116.1
  replace o50 := o50.other hw ne117.1
  replace b64 := b64.wr hw o101 (by decide)
  replace o68 := o68.other hw ne118.1
  replace o71 := o71.other hw ne119.1
  replace o74 := o74.other hw ne120.1
  replace b97 := b97.wr hw o101 (by decide)
  replace o104 := o104.other hw ne108.2
  replace o107 := o107.other hw ne109.2
  replace b139 := b139.wr hw o101 (by decide)
  replace hx0 := hw.ext hx0 (o101.base le_o101)
  replace hr1a := hr1a0.below hx0
  replace hr1b := hr1b0.below hx0
  replace hr1c := hr1c0.below hx0
  replace hr2a := hr2a0.below hx0
  replace hr2b := hr2b0.below hx0
  replace hr2c := hr2c0.below hx0
  clear o101 hw; have o101 := o1_; clear o1_; have hw := hw2; clear hw2
  replace b0 := b0.wr hw o104 (by decide)
  replace b1 := b1.wr hw o104 (by decide)
  replace o29 := o29.other hw ne121.1
  replace o32 := o32.other hw ne122.1
  replace o35 := o35.other hw ne123.1
  replace b39 := b39.wr hw o104 (by decide)
  replace o44 := o44.other hw ne124.1
  replace o47 := o47.other hw ne125.1
  replace o50 := o50.other hw ne126.1
  replace b64 := b64.wr hw o104 (by decide)
  replace o68 := o68.other hw ne127.1
  replace o71 := o71.other hw ne128.1
  replace o74 := o74.other hw ne129.1
  replace b97 := b97.wr hw o104 (by decide)
  replace o101 := o101.other hw ne108.1
  replace o107 := o107.other hw ne110.2
  replace b139 := b139.wr hw o104 (by decide)
  replace hx0 := hw.ext hx0 (o104.base le_o104)
  replace hr1a := hr1a0.below hx0
  replace hr1b := hr1b0.below hx0
  replace hr1c := hr1c0.below hx0
  replace hr2a := hr2a0.below hx0
  replace hr2b := hr2b0.below hx0
  replace hr2c := hr2c0.below hx0
  clear o104 hw; have o104 := o2_; clear o2_; have hw := hw3; clear hw3
  replace b0 := b0.wr hw o107 (by decide)
  replace b1 := b1.wr hw o107 (by decide)
  replace o29 := o29.other hw ne130.1
  replace o32 := o32.other hw ne131.1
  replace o35 := o35.other hw ne132.1
  replace b39 := b39.wr hw o107 (by decide)
  replace o44 := o44.other hw ne133.1
  replace o47 := o47.other hw ne134.1
  replace o50 := o50.other hw ne135.1
  replace b64 := b64.wr hw o107 (by decide)
  replace o68 := o68.other hw ne136.1
  replace o71 := o71.other hw ne137.1
  replace o74 := o74.other hw ne138.1
  replace b97 := b97.wr hw o107 (by decide)
  replace o101 := o101.other hw ne109.1
  replace o104 := o104.other hw ne110.1
  replace b139 := b139.wr hw o107 (by decide)
  replace hx0 := hw.ext hx0 (o107.base le_o107)
  replace hr1a := hr1a0.below hx0
  replace hr1b := hr1b0.below hx0
  replace hr1c := hr1c0.below hx0
  replace hr2a := hr2a0.below hx0
  replace hr2b := hr2b0.below hx0
  replace hr2c := hr2c0.below hx0
  clear o107 hw; have o107 := o3_; clear o3_
  have zb139_0 := b139.cell 0 rfl
  have zb139_1 := b139.cell 1 rfl
  have zb139_2 := b139.cell 2 rfl
  have zb139_3 := b139.cell 3 rfl
  go_wp2_with fail
  clear zb139_0 zb139_1 zb139_2 zb139_3
  refine (heldSparse_any d.sd Ax99 d.st.length kx100 Ax102 d.co.length kx103 Ax105 d.va.length kx106 1 _ (by omega) (by omega) (by omega) (by omega) o101.reads o104.reads o107.reads).mono ?_
  rintro e w178 ⟨rfl, hx⟩
  replace b0 := b0.ext hx
  replace b1 := b1.ext hx
  replace hr1a := hr1a.below hx
  replace hr1b := hr1b.below hx
  replace hr1c := hr1c.below hx
  replace hr2a := hr2a.below hx
  replace hr2b := hr2b.below hx
  replace hr2c := hr2c.below hx
  replace o29 := o29.ext hx
  replace o32 := o32.ext hx
  replace o35 := o35.ext hx
  replace b39 := b39.ext hx
  replace o44 := o44.ext hx
  replace o47 := o47.ext hx
  replace o50 := o50.ext hx
  replace b64 := b64.ext hx
  replace o68 := o68.ext hx
  replace o71 := o71.ext hx
  replace o74 := o74.ext hx
  replace b97 := b97.ext hx
  replace o101 := o101.ext hx
  replace o104 := o104.ext hx
  replace o107 := o107.ext hx
  replace b139 := b139.ext hx
  replace hx0 := hx0.trans hx
  clear hx
  go_wp2_with fail
  have zb0_0 := b0.cell 0 rfl
  have zb0_1 := b0.cell 1 rfl
  have zb0_2 := b0.cell 2 rfl
  have zb0_3 := b0.cell 3 rfl
  have zb1_0 := b1.cell 0 rfl
  have zb1_1 := b1.cell 1 rfl
  have zb1_2 := b1.cell 2 rfl
  have zb1_3 := b1.cell 3 rfl
  have old_b0 := b0.lt
  have old_b1 := b1.lt
  have old_b39 := b39.lt
  have old_b64 := b64.lt
  have old_b97 := b97.lt
  have old_b139 := b139.lt
  refine wp_region_Fl (cs := []) 9 11 [0, 1, 2, 3, 4, 5, 6, 7, 8, 9, 10] [12] [1, 3, 6, 10] [(6, [1, 3])] (fun i__ v => match i__ with | 1 => ∃ (Ax179 : Option Addr) (kx180 : Nat) (Ax182 : Option Addr) (kx183 : Nat) (Ax185 : Option Addr) (kx186 : Nat), v = (.agg #[.int .i64 r1, .slice Ax179 n1a kx180, .slice Ax182 n1b kx183, .slice Ax185 n1c kx186]) | 3 => ∃ (Ax191 : Option Addr) (kx192 : Nat) (Ax194 : Option Addr) (kx195 : Nat) (Ax197 : Option Addr) (kx198 : Nat), v = (.agg #[.int .i64 r2, .slice Ax191 n2a kx192, .slice Ax194 n2b kx195, .slice Ax197 n2c kx198]) | 6 => ∃ (Ax203 : Option Addr) (kx204 : Nat) (Ax206 : Option Addr) (kx207 : Nat) (Ax209 : Option Addr) (kx210 : Nat), v = (.tuple #[.agg #[.int .i64 d.sd, .slice Ax203 d.st.length kx204, .slice Ax206 d.co.length kx207, .slice Ax209 d.va.length kx210], .bool d.ok]) | 10 => ∃ b, v = (.pointer (some ⟨b, 0, none⟩)) | _ => False) (fun i__ v w' => match i__ with | 1 => OwnF w' w178.heap.size 2 v [1] (ints xs1a) ∧ OwnF w' w178.heap.size 2 v [2] (ints xs1b) ∧ OwnF w' w178.heap.size 43 v [3] (flts xs1c) | 3 => OwnF w' w178.heap.size 2 v [1] (ints xs2a) ∧ OwnF w' w178.heap.size 2 v [2] (ints xs2b) ∧ OwnF w' w178.heap.size 43 v [3] (flts xs2c) | 6 => OwnF w' w178.heap.size 2 v [0, 1] (ints d.st) ∧ OwnF w' w178.heap.size 2 v [0, 2] (ints d.co) ∧ OwnF w' w178.heap.size 43 v [0, 3] (flts d.va) | 10 => BlkF w' v w178.heap.size #[.int .i64 0, .slice none 0 0, .slice none 0 0, .slice none 0 0] 27 | _ => True) (by kernel_rfl) (by kernel_rfl) (by kernel_rfl) (by intro i v w' w2 h hx; revert h; (try dsimp only); split <;> intro h <;> first | trivial | exact RdsF.ext h hx | exact OwnF.ext h hx | exact BlkF.ext h hx | exact ⟨RdsF.ext h.1 hx, RdsF.ext h.2 hx⟩ | exact ⟨OwnF.ext h.1 hx, OwnF.ext h.2 hx⟩ | exact ⟨RdsF.ext h.1 hx, RdsF.ext h.2.1 hx, RdsF.ext h.2.2 hx⟩ | exact ⟨OwnF.ext h.1 hx, OwnF.ext h.2.1 hx, OwnF.ext h.2.2 hx⟩) ?_
  refine' wpT_det (o := ⟨some 103, Op.load 25 (Operand.tmp 4), 25, "exact.go:5000", #[], none⟩) rfl (by rfl) (by rfl) (fun w' hw' => ?_) ?_; rotate_left
  · have zb0_0_ := Ext.cell hw' zb0_0; have zb0_1_ := Ext.cell hw' zb0_1; have zb0_2_ := Ext.cell hw' zb0_2; have zb0_3_ := Ext.cell hw' zb0_3; have zb1_0_ := Ext.cell hw' zb1_0; have zb1_1_ := Ext.cell hw' zb1_1; have zb1_2_ := Ext.cell hw' zb1_2; have zb1_3_ := Ext.cell hw' zb1_3; go_simp <;> first | rfl | exact ⟨rfl, rfl⟩
  simp only [Act.put, List.setIfInBounds_toArray, List.set_cons_zero, List.set_cons_succ]
  refine wpT_nd (o := ⟨some 104, Op.call { callee := Callee.value (Operand.func 22), args := #[Operand.tmp 103], argTypes := #[25] }, 27, "exact.go:5000", #[{ on := 0, ground := Ground.data }], none⟩) rfl (by rfl) (by rfl) (fun w' hw' hF R__ hGo => ?_) ⟨_, none, 0, none, 0, none, 0, rfl⟩ ?_
  · go_simp
    refine gives_enter rfl ?_
    refine (toSparse_any r1 A1a n1a cap1a A1b n1b cap1b A1c n1c cap1c xs1a xs1b xs1c _ (hr1a.below hw'.undrew) (hr1b.below hw'.undrew) (hr1c.below hw'.undrew) (by omega) (by omega) (by omega)).mono ?_
    rintro e w2 ⟨Ax179, kx180, Ax182, kx183, Ax185, kx186, rfl, o181, o184, o187, ne188, ne189, ne190, hx⟩
    exact ⟨_, rfl, hGo _ _ hx ⟨_, _, _, _, _, _, rfl⟩ ⟨OwnF.of (o181.base hw'.size) rfl, OwnF.of (o184.base hw'.size) rfl, OwnF.of (o187.base hw'.size) rfl⟩⟩
  rintro _ ⟨Ax179, kx180, Ax182, kx183, Ax185, kx186, rfl⟩
  simp only [Act.put, List.setIfInBounds_toArray, List.set_cons_zero, List.set_cons_succ]
  refine' wpT_det (o := ⟨some 105, Op.load 25 (Operand.tmp 5), 25, "exact.go:5000", #[], none⟩) rfl (by rfl) (by rfl) (fun w' hw' => ?_) ?_; rotate_left
  · have zb0_0_ := Ext.cell hw' zb0_0; have zb0_1_ := Ext.cell hw' zb0_1; have zb0_2_ := Ext.cell hw' zb0_2; have zb0_3_ := Ext.cell hw' zb0_3; have zb1_0_ := Ext.cell hw' zb1_0; have zb1_1_ := Ext.cell hw' zb1_1; have zb1_2_ := Ext.cell hw' zb1_2; have zb1_3_ := Ext.cell hw' zb1_3; go_simp <;> first | rfl | exact ⟨rfl, rfl⟩
  simp only [Act.put, List.setIfInBounds_toArray, List.set_cons_zero, List.set_cons_succ]
  refine wpT_nd (o := ⟨some 106, Op.call { callee := Callee.value (Operand.func 22), args := #[Operand.tmp 105], argTypes := #[25] }, 27, "exact.go:5000", #[{ on := 2, ground := Ground.data }, { on := 1, ground := Ground.chain }], none⟩) rfl (by rfl) (by rfl) (fun w' hw' hF R__ hGo => ?_) ⟨_, none, 0, none, 0, none, 0, rfl⟩ ?_
  · go_simp
    refine gives_enter rfl ?_
    refine (toSparse_any r2 A2a n2a cap2a A2b n2b cap2b A2c n2c cap2c xs2a xs2b xs2c _ (hr2a.below hw'.undrew) (hr2b.below hw'.undrew) (hr2c.below hw'.undrew) (by omega) (by omega) (by omega)).mono ?_
    rintro e w2 ⟨Ax191, kx192, Ax194, kx195, Ax197, kx198, rfl, o193, o196, o199, ne200, ne201, ne202, hx⟩
    exact ⟨_, rfl, hGo _ _ hx ⟨_, _, _, _, _, _, rfl⟩ ⟨OwnF.of (o193.base hw'.size) rfl, OwnF.of (o196.base hw'.size) rfl, OwnF.of (o199.base hw'.size) rfl⟩⟩
  rintro _ ⟨Ax191, kx192, Ax194, kx195, Ax197, kx198, rfl⟩
  simp only [Act.put, List.setIfInBounds_toArray, List.set_cons_zero, List.set_cons_succ]
  refine' wpT_det (o := ⟨some 107, Op.move (Operand.tmp 2), 43, "exact.go:5000", #[], none⟩) rfl (by rfl) (by rfl) (fun w' hw' => ?_) ?_; rotate_left
  · go_simp <;> first | rfl | exact ⟨rfl, rfl⟩
  simp only [Act.put, List.setIfInBounds_toArray, List.set_cons_zero, List.set_cons_succ]
  refine' wpT_det (o := ⟨some 108, Op.move (Operand.tmp 3), 43, "exact.go:5000", #[], none⟩) rfl (by rfl) (by rfl) (fun w' hw' => ?_) ?_; rotate_left
  · go_simp <;> first | rfl | exact ⟨rfl, rfl⟩
  simp only [Act.put, List.setIfInBounds_toArray, List.set_cons_zero, List.set_cons_succ]
  refine wpT_nd (o := ⟨some 109, Op.call { callee := Callee.value (Operand.func 60), args := #[Operand.tmp 104, Operand.tmp 106, Operand.tmp 107, Operand.tmp 108], argTypes := #[27, 27, 43, 43] }, 28, "exact.go:5000", #[{ on := 1, ground := Ground.data }, { on := 3, ground := Ground.data }, { on := 4, ground := Ground.data }, { on := 5, ground := Ground.data }, { on := 3, ground := Ground.chain }], none⟩) rfl (by rfl) (by rfl) (fun w' hw' hF R__ hGo => ?_) ⟨_, none, 0, none, 0, none, 0, rfl⟩ ?_
  · go_simp
    refine gives_enter rfl ?_
    refine (implSparseWeigh_any r1 Ax179 n1a kx180 Ax182 n1b kx183 Ax185 n1c kx186 r2 Ax191 n2a kx192 Ax194 n2b kx195 Ax197 n2c kx198 x3 x4 xs1a xs1b xs1c xs2a xs2b xs2c _ ((hF 1 (by simp [uses]) _ rfl).1 _ _ _ rfl).reads ((hF 1 (by simp [uses]) _ rfl).2.1 _ _ _ rfl).reads ((hF 1 (by simp [uses]) _ rfl).2.2 _ _ _ rfl).reads ((hF 3 (by simp [uses]) _ rfl).1 _ _ _ rfl).reads ((hF 3 (by simp [uses]) _ rfl).2.1 _ _ _ rfl).reads ((hF 3 (by simp [uses]) _ rfl).2.2 _ _ _ rfl).reads).mono ?_
    rw [← Hd.out]
    rintro e w2 ⟨Ax203, kx204, Ax206, kx207, Ax209, kx210, rfl, o205, o208, o211, ne212, ne213, ne214, hx⟩
    exact ⟨_, rfl, hGo _ _ hx ⟨_, _, _, _, _, _, rfl⟩ ⟨OwnF.of (o205.base hw'.size) rfl, OwnF.of (o208.base hw'.size) rfl, OwnF.of (o211.base hw'.size) rfl⟩⟩
  rintro _ ⟨Ax203, kx204, Ax206, kx207, Ax209, kx210, rfl⟩
  simp only [Act.put, List.setIfInBounds_toArray, List.set_cons_zero, List.set_cons_succ]
  refine' wpT_det (o := ⟨some 102, Op.move (Operand.tmp 109), 28, "exact.go:5000", #[{ on := 6, ground := Ground.data }], none⟩) rfl (by rfl) (by rfl) (fun w' hw' => ?_) ?_; rotate_left
  · go_simp <;> first | rfl | exact ⟨rfl, rfl⟩
  simp only [Act.put, List.setIfInBounds_toArray, List.set_cons_zero, List.set_cons_succ]
  refine' wpT_det (o := ⟨some 110, Op.extract (Operand.tmp 102) 0, 27, "exact.go:5000", #[{ on := 7, ground := Ground.data }], none⟩) rfl (by rfl) (by rfl) (fun w' hw' => ?_) ?_; rotate_left
  · go_simp <;> first | rfl | exact ⟨rfl, rfl⟩
  simp only [Act.put, List.setIfInBounds_toArray, List.set_cons_zero, List.set_cons_succ]
  refine' wpT_det (o := ⟨some 111, Op.extract (Operand.tmp 102) 1, 4, "exact.go:5000", #[{ on := 7, ground := Ground.data }, { on := 11, ground := Ground.gcOnly Departure.lateStores }], none⟩) rfl (by rfl) (by rfl) (fun w' hw' => ?_) ?_; rotate_left
  · go_simp <;> first | rfl | exact ⟨rfl, rfl⟩
  simp only [Act.put, List.setIfInBounds_toArray, List.set_cons_zero, List.set_cons_succ]
  refine wpT_nd (o := ⟨some 19, Op.alloc 27, 0, "exact.go:5000", #[], none⟩) rfl (by rfl) (by rfl) (fun w' hw' hF R__ hGo => ?_) ⟨_, 0, rfl⟩ ?_
  · go_simp; exact gives_value rfl (hGo _ _ ((Ext.refl _).alloc _) ⟨_, rfl⟩ (fun b e => by simp only [Value.pointer.injEq, Option.some.injEq, Addr.mk.injEq, and_true] at e; subst e; exact ⟨Blk.new _ _ _, hw'.size⟩))
  rintro _ ⟨nb215, rfl⟩
  simp only [Act.put, List.setIfInBounds_toArray, List.set_cons_zero, List.set_cons_succ]
  refine wpT_nil (fun w216 hw' hF => ?_)
  clear zb0_0 zb0_1 zb0_2 zb0_3 zb1_0 zb1_1 zb1_2 zb1_3
  have hE_ := hw'
  have hx := hw'.undrew; clear hw'
  have o205 := (hF 6 _ rfl).1 _ _ _ rfl
  have le_o205 : w.heap.size ≤ w178.heap.size := hx0.size
  have o208 := (hF 6 _ rfl).2.1 _ _ _ rfl
  have le_o208 : w.heap.size ≤ w178.heap.size := hx0.size
  have o211 := (hF 6 _ rfl).2.2 _ _ _ rfl
  have le_o211 : w.heap.size ≤ w178.heap.size := hx0.size
  have b215 := (hF 10 _ rfl nb215 rfl).1
  have hb_ := (hF 10 _ rfl nb215 rfl).2
  clear hF
  have ne217 := o29.ne o205
  have ne218 := o32.ne o205
  have ne219 := o35.ne o205
  have ne220 := o44.ne o205
  have ne221 := o47.ne o205
  have ne222 := o50.ne o205
  have ne223 := o68.ne o205
  have ne224 := o71.ne o205
  have ne225 := o74.ne o205
  have ne226 := o101.ne o205
  have ne227 := o104.ne o205
  have ne228 := o107.ne o205
  have hs_o205 := o205.small; simp only [ints_length] at hs_o205
  have ne229 := o29.ne o208
  have ne230 := o32.ne o208
  have ne231 := o35.ne o208
  have ne232 := o44.ne o208
  have ne233 := o47.ne o208
  have ne234 := o50.ne o208
  have ne235 := o68.ne o208
  have ne236 := o71.ne o208
  have ne237 := o74.ne o208
  have ne238 := o101.ne o208
  have ne239 := o104.ne o208
  have ne240 := o107.ne o208
  have hs_o208 := o208.small; simp only [ints_length] at hs_o208
  have ne241 := o29.ne o211
  have ne242 := o32.ne o211
  have ne243 := o35.ne o211
  have ne244 := o44.ne o211
  have ne245 := o47.ne o211
  have ne246 := o50.ne o211
  have ne247 := o68.ne o211
  have ne248 := o71.ne o211
  have ne249 := o74.ne o211
  have ne250 := o101.ne o211
  have ne251 := o104.ne o211
  have ne252 := o107.ne o211
  have hs_o211 := o211.small; simp only [flts_length] at hs_o211
  replace b0 := b0.ext hx
  replace b1 := b1.ext hx
  replace hr1a := hr1a.below hx
  replace hr1b := hr1b.below hx
  replace hr1c := hr1c.below hx
  replace hr2a := hr2a.below hx
  replace hr2b := hr2b.below hx
  replace hr2c := hr2c.below hx
  replace o29 := o29.ext hx
  replace o32 := o32.ext hx
  replace o35 := o35.ext hx
  replace b39 := b39.ext hx
  replace o44 := o44.ext hx
  replace o47 := o47.ext hx
  replace o50 := o50.ext hx
  replace b64 := b64.ext hx
  replace o68 := o68.ext hx
  replace o71 := o71.ext hx
  replace o74 := o74.ext hx
  replace b97 := b97.ext hx
  replace o101 := o101.ext hx
  replace o104 := o104.ext hx
  replace o107 := o107.ext hx
  replace b139 := b139.ext hx
  replace hx0 := hx0.trans hx
  clear hx
  have z_0 := b215.cell 0 rfl; have y_0 := b215.free 0
  have z_1 := b215.cell 1 rfl; have y_1 := b215.free 1
  have z_2 := b215.cell 2 rfl; have y_2 := b215.free 2
  have z_3 := b215.cell 3 rfl; have y_3 := b215.free 3
  refine ⟨(⟨none, Op.store 27 (Operand.tmp 19) (Operand.tmp 110), 0, "exact.go:5000", #[{ on := 10, ground := Ground.data }, { on := 8, ground := Ground.data }, { on := 6, ground := Ground.chain }, { on := 0, ground := Ground.phase }, { on := 1, ground := Ground.phase }, { on := 2, ground := Ground.phase }, { on := 3, ground := Ground.phase }, { on := 4, ground := Ground.phase }, { on := 5, ground := Ground.phase }, { on := 6, ground := Ground.phase }, { on := 7, ground := Ground.phase }, { on := 8, ground := Ground.phase }, { on := 9, ground := Ground.textOnly Departure.lateStores }, { on := 10, ground := Ground.phase }], none⟩ : Oper), ((((w216.setCell ⟨nb215, 0, none⟩ (.int .i64 d.sd)).setCell ⟨nb215, 1, none⟩ (.slice Ax203 d.st.length kx204)).setCell ⟨nb215, 2, none⟩ (.slice Ax206 d.co.length kx207)).setCell ⟨nb215, 3, none⟩ (.slice Ax209 d.va.length kx210)), rfl, (by go_simp), ?_, ?_⟩
  · exact (Ext.set (Ext.set (Ext.set (Ext.set hE_ (by exact hb_) _) (by exact hb_) _) (by exact hb_) _) (by exact hb_) _)
  clear hE_
  show wpList _ _ _ [(⟨some 20, Op.assign (Operand.tmp 111), 4, "exact.go:5000", #[{ on := 9, ground := Ground.data }, { on := 11, ground := Ground.chain }, { on := 0, ground := Ground.phase }, { on := 1, ground := Ground.phase }, { on := 2, ground := Ground.phase }, { on := 3, ground := Ground.phase }, { on := 4, ground := Ground.phase }, { on := 5, ground := Ground.phase }, { on := 6, ground := Ground.phase }, { on := 7, ground := Ground.phase }, { on := 8, ground := Ground.phase }, { on := 9, ground := Ground.phase }, { on := 10, ground := Ground.phase }, { on := 11, ground := Ground.phase }], none⟩ : Oper)] _ _
  go_upto_region 32 with (fail)
  clear z_0 y_0 z_1 y_1 z_2 y_2 z_3 y_3
  obtain ⟨w253, hw⟩ : ∃ v : World, v = ((((w216.setCell ⟨nb215, 0, none⟩ (.int .i64 d.sd)).setCell ⟨nb215, 1, none⟩ (.slice Ax203 d.st.length kx204)).setCell ⟨nb215, 2, none⟩ (.slice Ax206 d.co.length kx207)).setCell ⟨nb215, 3, none⟩ (.slice Ax209 d.va.length kx210)) := ⟨_, rfl⟩
  rw [← hw]
  have hl_ : w.heap.size ≤ w178.heap.size := le_o205
  have b0_ : Blk w253 (w.heap.size) #[.int .i64 r1, .slice A1a n1a cap1a, .slice A1b n1b cap1b, .slice A1c n1c cap1c] 25 := by subst hw; exact (Blk.other (Blk.other (Blk.other (Blk.other b0 (by omega) 0 _) (by omega) 1 _) (by omega) 2 _) (by omega) 3 _)
  have b1_ : Blk w253 (w.heap.size + 1) #[.int .i64 r2, .slice A2a n2a cap2a, .slice A2b n2b cap2b, .slice A2c n2c cap2c] 25 := by subst hw; exact (Blk.other (Blk.other (Blk.other (Blk.other b1 (by omega) 0 _) (by omega) 1 _) (by omega) 2 _) (by omega) 3 _)
  have o29_ := (Own.setBlk (Own.setBlk (Own.setBlk (Own.setBlk o29 b215 (by decide) 0 (.int .i64 d.sd)) (b215.set 0 (.int .i64 d.sd)) (by decide) 1 (.slice Ax203 d.st.length kx204)) ((b215.set 0 (.int .i64 d.sd)).set 1 (.slice Ax203 d.st.length kx204)) (by decide) 2 (.slice Ax206 d.co.length kx207)) (((b215.set 0 (.int .i64 d.sd)).set 1 (.slice Ax203 d.st.length kx204)).set 2 (.slice Ax206 d.co.length kx207)) (by decide) 3 (.slice Ax209 d.va.length kx210)); rw [← hw] at o29_
  have o32_ := (Own.setBlk (Own.setBlk (Own.setBlk (Own.setBlk o32 b215 (by decide) 0 (.int .i64 d.sd)) (b215.set 0 (.int .i64 d.sd)) (by decide) 1 (.slice Ax203 d.st.length kx204)) ((b215.set 0 (.int .i64 d.sd)).set 1 (.slice Ax203 d.st.length kx204)) (by decide) 2 (.slice Ax206 d.co.length kx207)) (((b215.set 0 (.int .i64 d.sd)).set 1 (.slice Ax203 d.st.length kx204)).set 2 (.slice Ax206 d.co.length kx207)) (by decide) 3 (.slice Ax209 d.va.length kx210)); rw [← hw] at o32_
  have o35_ := (Own.setBlk (Own.setBlk (Own.setBlk (Own.setBlk o35 b215 (by decide) 0 (.int .i64 d.sd)) (b215.set 0 (.int .i64 d.sd)) (by decide) 1 (.slice Ax203 d.st.length kx204)) ((b215.set 0 (.int .i64 d.sd)).set 1 (.slice Ax203 d.st.length kx204)) (by decide) 2 (.slice Ax206 d.co.length kx207)) (((b215.set 0 (.int .i64 d.sd)).set 1 (.slice Ax203 d.st.length kx204)).set 2 (.slice Ax206 d.co.length kx207)) (by decide) 3 (.slice Ax209 d.va.length kx210)); rw [← hw] at o35_
  have b39_ : Blk w253 (nb39) #[.int .i64 d.sd, .slice Ax27 d.st.length kx28, .slice Ax30 d.co.length kx31, .slice Ax33 d.va.length kx34] 27 := by subst hw; exact (Blk.other (Blk.other (Blk.other (Blk.other b39 (by omega) 0 _) (by omega) 1 _) (by omega) 2 _) (by omega) 3 _)
  have o44_ := (Own.setBlk (Own.setBlk (Own.setBlk (Own.setBlk o44 b215 (by decide) 0 (.int .i64 d.sd)) (b215.set 0 (.int .i64 d.sd)) (by decide) 1 (.slice Ax203 d.st.length kx204)) ((b215.set 0 (.int .i64 d.sd)).set 1 (.slice Ax203 d.st.length kx204)) (by decide) 2 (.slice Ax206 d.co.length kx207)) (((b215.set 0 (.int .i64 d.sd)).set 1 (.slice Ax203 d.st.length kx204)).set 2 (.slice Ax206 d.co.length kx207)) (by decide) 3 (.slice Ax209 d.va.length kx210)); rw [← hw] at o44_
  have o47_ := (Own.setBlk (Own.setBlk (Own.setBlk (Own.setBlk o47 b215 (by decide) 0 (.int .i64 d.sd)) (b215.set 0 (.int .i64 d.sd)) (by decide) 1 (.slice Ax203 d.st.length kx204)) ((b215.set 0 (.int .i64 d.sd)).set 1 (.slice Ax203 d.st.length kx204)) (by decide) 2 (.slice Ax206 d.co.length kx207)) (((b215.set 0 (.int .i64 d.sd)).set 1 (.slice Ax203 d.st.length kx204)).set 2 (.slice Ax206 d.co.length kx207)) (by decide) 3 (.slice Ax209 d.va.length kx210)); rw [← hw] at o47_
  have o50_ := (Own.setBlk (Own.setBlk (Own.setBlk (Own.setBlk o50 b215 (by decide) 0 (.int .i64 d.sd)) (b215.set 0 (.int .i64 d.sd)) (by decide) 1 (.slice Ax203 d.st.length kx204)) ((b215.set 0 (.int .i64 d.sd)).set 1 (.slice Ax203 d.st.length kx204)) (by decide) 2 (.slice Ax206 d.co.length kx207)) (((b215.set 0 (.int .i64 d.sd)).set 1 (.slice Ax203 d.st.length kx204)).set 2 (.slice Ax206 d.co.length kx207)) (by decide) 3 (.slice Ax209 d.va.length kx210)); rw [← hw] at o50_
  have b64_ : Blk w253 (w54.heap.size) #[.int .i64 r1, .slice Ax42 n1a kx43, .slice Ax45 n1b kx46, .slice Ax48 n1c kx49] 27 := by subst hw; exact (Blk.other (Blk.other (Blk.other (Blk.other b64 (by omega) 0 _) (by omega) 1 _) (by omega) 2 _) (by omega) 3 _)
  have o68_ := (Own.setBlk (Own.setBlk (Own.setBlk (Own.setBlk o68 b215 (by decide) 0 (.int .i64 d.sd)) (b215.set 0 (.int .i64 d.sd)) (by decide) 1 (.slice Ax203 d.st.length kx204)) ((b215.set 0 (.int .i64 d.sd)).set 1 (.slice Ax203 d.st.length kx204)) (by decide) 2 (.slice Ax206 d.co.length kx207)) (((b215.set 0 (.int .i64 d.sd)).set 1 (.slice Ax203 d.st.length kx204)).set 2 (.slice Ax206 d.co.length kx207)) (by decide) 3 (.slice Ax209 d.va.length kx210)); rw [← hw] at o68_
  have o71_ := (Own.setBlk (Own.setBlk (Own.setBlk (Own.setBlk o71 b215 (by decide) 0 (.int .i64 d.sd)) (b215.set 0 (.int .i64 d.sd)) (by decide) 1 (.slice Ax203 d.st.length kx204)) ((b215.set 0 (.int .i64 d.sd)).set 1 (.slice Ax203 d.st.length kx204)) (by decide) 2 (.slice Ax206 d.co.length kx207)) (((b215.set 0 (.int .i64 d.sd)).set 1 (.slice Ax203 d.st.length kx204)).set 2 (.slice Ax206 d.co.length kx207)) (by decide) 3 (.slice Ax209 d.va.length kx210)); rw [← hw] at o71_
  have o74_ := (Own.setBlk (Own.setBlk (Own.setBlk (Own.setBlk o74 b215 (by decide) 0 (.int .i64 d.sd)) (b215.set 0 (.int .i64 d.sd)) (by decide) 1 (.slice Ax203 d.st.length kx204)) ((b215.set 0 (.int .i64 d.sd)).set 1 (.slice Ax203 d.st.length kx204)) (by decide) 2 (.slice Ax206 d.co.length kx207)) (((b215.set 0 (.int .i64 d.sd)).set 1 (.slice Ax203 d.st.length kx204)).set 2 (.slice Ax206 d.co.length kx207)) (by decide) 3 (.slice Ax209 d.va.length kx210)); rw [← hw] at o74_
  have b97_ : Blk w253 (w78.heap.size) #[.int .i64 r2, .slice Ax66 n2a kx67, .slice Ax69 n2b kx70, .slice Ax72 n2c kx73] 27 := by subst hw; exact (Blk.other (Blk.other (Blk.other (Blk.other b97 (by omega) 0 _) (by omega) 1 _) (by omega) 2 _) (by omega) 3 _)
  have o101_ := (Own.setBlk (Own.setBlk (Own.setBlk (Own.setBlk o101 b215 (by decide) 0 (.int .i64 d.sd)) (b215.set 0 (.int .i64 d.sd)) (by decide) 1 (.slice Ax203 d.st.length kx204)) ((b215.set 0 (.int .i64 d.sd)).set 1 (.slice Ax203 d.st.length kx204)) (by decide) 2 (.slice Ax206 d.co.length kx207)) (((b215.set 0 (.int .i64 d.sd)).set 1 (.slice Ax203 d.st.length kx204)).set 2 (.slice Ax206 d.co.length kx207)) (by decide) 3 (.slice Ax209 d.va.length kx210)); rw [← hw] at o101_
  have o104_ := (Own.setBlk (Own.setBlk (Own.setBlk (Own.setBlk o104 b215 (by decide) 0 (.int .i64 d.sd)) (b215.set 0 (.int .i64 d.sd)) (by decide) 1 (.slice Ax203 d.st.length kx204)) ((b215.set 0 (.int .i64 d.sd)).set 1 (.slice Ax203 d.st.length kx204)) (by decide) 2 (.slice Ax206 d.co.length kx207)) (((b215.set 0 (.int .i64 d.sd)).set 1 (.slice Ax203 d.st.length kx204)).set 2 (.slice Ax206 d.co.length kx207)) (by decide) 3 (.slice Ax209 d.va.length kx210)); rw [← hw] at o104_
  have o107_ := (Own.setBlk (Own.setBlk (Own.setBlk (Own.setBlk o107 b215 (by decide) 0 (.int .i64 d.sd)) (b215.set 0 (.int .i64 d.sd)) (by decide) 1 (.slice Ax203 d.st.length kx204)) ((b215.set 0 (.int .i64 d.sd)).set 1 (.slice Ax203 d.st.length kx204)) (by decide) 2 (.slice Ax206 d.co.length kx207)) (((b215.set 0 (.int .i64 d.sd)).set 1 (.slice Ax203 d.st.length kx204)).set 2 (.slice Ax206 d.co.length kx207)) (by decide) 3 (.slice Ax209 d.va.length kx210)); rw [← hw] at o107_
  have b139_ : Blk w253 (w111.heap.size) #[.int .i64 d.sd, .slice Ax99 d.st.length kx100, .slice Ax102 d.co.length kx103, .slice Ax105 d.va.length kx106] 27 := by subst hw; exact (Blk.other (Blk.other (Blk.other (Blk.other b139 (by omega) 0 _) (by omega) 1 _) (by omega) 2 _) (by omega) 3 _)
  have o205_ := (Own.setBlk (Own.setBlk (Own.setBlk (Own.setBlk o205 b215 (by decide) 0 (.int .i64 d.sd)) (b215.set 0 (.int .i64 d.sd)) (by decide) 1 (.slice Ax203 d.st.length kx204)) ((b215.set 0 (.int .i64 d.sd)).set 1 (.slice Ax203 d.st.length kx204)) (by decide) 2 (.slice Ax206 d.co.length kx207)) (((b215.set 0 (.int .i64 d.sd)).set 1 (.slice Ax203 d.st.length kx204)).set 2 (.slice Ax206 d.co.length kx207)) (by decide) 3 (.slice Ax209 d.va.length kx210)); rw [← hw] at o205_
  have o208_ := (Own.setBlk (Own.setBlk (Own.setBlk (Own.setBlk o208 b215 (by decide) 0 (.int .i64 d.sd)) (b215.set 0 (.int .i64 d.sd)) (by decide) 1 (.slice Ax203 d.st.length kx204)) ((b215.set 0 (.int .i64 d.sd)).set 1 (.slice Ax203 d.st.length kx204)) (by decide) 2 (.slice Ax206 d.co.length kx207)) (((b215.set 0 (.int .i64 d.sd)).set 1 (.slice Ax203 d.st.length kx204)).set 2 (.slice Ax206 d.co.length kx207)) (by decide) 3 (.slice Ax209 d.va.length kx210)); rw [← hw] at o208_
  have o211_ := (Own.setBlk (Own.setBlk (Own.setBlk (Own.setBlk o211 b215 (by decide) 0 (.int .i64 d.sd)) (b215.set 0 (.int .i64 d.sd)) (by decide) 1 (.slice Ax203 d.st.length kx204)) ((b215.set 0 (.int .i64 d.sd)).set 1 (.slice Ax203 d.st.length kx204)) (by decide) 2 (.slice Ax206 d.co.length kx207)) (((b215.set 0 (.int .i64 d.sd)).set 1 (.slice Ax203 d.st.length kx204)).set 2 (.slice Ax206 d.co.length kx207)) (by decide) 3 (.slice Ax209 d.va.length kx210)); rw [← hw] at o211_
  have hx0_ : Ext w w253 := by subst hw; exact ((((hx0.set (Nat.le_trans hl_ hb_) _).set (Nat.le_trans hl_ hb_) _).set (Nat.le_trans hl_ hb_) _).set (Nat.le_trans hl_ hb_) _)
  have b215_ : Blk w253 nb215 #[.int .i64 d.sd, .slice Ax203 d.st.length kx204, .slice Ax206 d.co.length kx207, .slice Ax209 d.va.length kx210] 27 := by subst hw; exact ((((b215.set 0 (.int .i64 d.sd)).set 1 (.slice Ax203 d.st.length kx204)).set 2 (.slice Ax206 d.co.length kx207)).set 3 (.slice Ax209 d.va.length kx210))
  clear b0; have b0 := b0_; clear b0_
  clear b1; have b1 := b1_; clear b1_
  clear o29; have o29 := o29_; clear o29_
  clear o32; have o32 := o32_; clear o32_
  clear o35; have o35 := o35_; clear o35_
  clear b39; have b39 := b39_; clear b39_
  clear o44; have o44 := o44_; clear o44_
  clear o47; have o47 := o47_; clear o47_
  clear o50; have o50 := o50_; clear o50_
  clear b64; have b64 := b64_; clear b64_
  clear o68; have o68 := o68_; clear o68_
  clear o71; have o71 := o71_; clear o71_
  clear o74; have o74 := o74_; clear o74_
  clear b97; have b97 := b97_; clear b97_
  clear o101; have o101 := o101_; clear o101_
  clear o104; have o104 := o104_; clear o104_
  clear o107; have o107 := o107_; clear o107_
  clear b139; have b139 := b139_; clear b139_
  clear o205; have o205 := o205_; clear o205_
  clear o208; have o208 := o208_; clear o208_
  clear o211; have o211 := o211_; clear o211_
  clear hx0 b215; have hx0 := hx0_; have b215 := b215_; clear hx0_ b215_
  replace hr1a := hr1a0.below hx0
  replace hr1b := hr1b0.below hx0
  replace hr1c := hr1c0.below hx0
  replace hr2a := hr2a0.below hx0
  replace hr2b := hr2b0.below hx0
  replace hr2c := hr2c0.below hx0
  clear hw hl_ hb_ old_b0 old_b1 old_b39 old_b64 old_b97 old_b139
  have zb215_0 := b215.cell 0 rfl
  have zb215_1 := b215.cell 1 rfl
  have zb215_2 := b215.cell 2 rfl
  have zb215_3 := b215.cell 3 rfl
  have zb39_0 := b39.cell 0 rfl
  have zb39_1 := b39.cell 1 rfl
  have zb39_2 := b39.cell 2 rfl
  have zb39_3 := b39.cell 3 rfl
  go_wp2_with fail
  clear zb215_0 zb215_1 zb215_2 zb215_3 zb39_0 zb39_1 zb39_2 zb39_3
  refine (eqSparse_any d.sd d.sd Ax203 Ax206 Ax209 Ax27 Ax30 Ax33 d.st.length d.co.length d.va.length d.st.length d.co.length d.va.length kx204 kx207 kx210 kx28 kx31 kx34  d.st d.co d.va d.st d.co d.va _ o205.reads o208.reads o211.reads o29.reads o32.reads o35.reads ⟨rfl, rfl, rfl, rfl⟩).mono ?_
  rintro e w254 ⟨rfl, hx⟩
  replace b0 := b0.ext hx
  replace b1 := b1.ext hx
  replace hr1a := hr1a.below hx
  replace hr1b := hr1b.below hx
  replace hr1c := hr1c.below hx
  replace hr2a := hr2a.below hx
  replace hr2b := hr2b.below hx
  replace hr2c := hr2c.below hx
  replace o29 := o29.ext hx
  replace o32 := o32.ext hx
  replace o35 := o35.ext hx
  replace b39 := b39.ext hx
  replace o44 := o44.ext hx
  replace o47 := o47.ext hx
  replace o50 := o50.ext hx
  replace b64 := b64.ext hx
  replace o68 := o68.ext hx
  replace o71 := o71.ext hx
  replace o74 := o74.ext hx
  replace b97 := b97.ext hx
  replace o101 := o101.ext hx
  replace o104 := o104.ext hx
  replace o107 := o107.ext hx
  replace b139 := b139.ext hx
  replace o205 := o205.ext hx
  replace o208 := o208.ext hx
  replace o211 := o211.ext hx
  replace b215 := b215.ext hx
  replace hx0 := hx0.trans hx
  clear hx
  have zb139_0 := b139.cell 0 rfl
  have zb139_1 := b139.cell 1 rfl
  have zb139_2 := b139.cell 2 rfl
  have zb139_3 := b139.cell 3 rfl
  go_wp2_with fail
  clear zb139_0 zb139_1 zb139_2 zb139_3
  refine (heldSparse_any d.sd Ax99 d.st.length kx100 Ax102 d.co.length kx103 Ax105 d.va.length kx106 1 _ (by omega) (by omega) (by omega) (by omega) o101.reads o104.reads o107.reads).mono ?_
  rintro e w255 ⟨rfl, hx⟩
  replace b0 := b0.ext hx
  replace b1 := b1.ext hx
  replace hr1a := hr1a.below hx
  replace hr1b := hr1b.below hx
  replace hr1c := hr1c.below hx
  replace hr2a := hr2a.below hx
  replace hr2b := hr2b.below hx
  replace hr2c := hr2c.below hx
  replace o29 := o29.ext hx
  replace o32 := o32.ext hx
  replace o35 := o35.ext hx
  replace b39 := b39.ext hx
  replace o44 := o44.ext hx
  replace o47 := o47.ext hx
  replace o50 := o50.ext hx
  replace b64 := b64.ext hx
  replace o68 := o68.ext hx
  replace o71 := o71.ext hx
  replace o74 := o74.ext hx
  replace b97 := b97.ext hx
  replace o101 := o101.ext hx
  replace o104 := o104.ext hx
  replace o107 := o107.ext hx
  replace b139 := b139.ext hx
  replace o205 := o205.ext hx
  replace o208 := o208.ext hx
  replace o211 := o211.ext hx
  replace b215 := b215.ext hx
  replace hx0 := hx0.trans hx
  clear hx
  go_wp2_with fail
  go_ret
  exact ⟨rfl, hx0⟩

end Go.Proofs.Ytkifpligpobiaaa
