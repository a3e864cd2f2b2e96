import Derived.Test.YtgjfdfmbknmpaaaM41
import Derived.Test.YtgjfdfmbknmpaaaB4M
set_option linter.unusedVariables false
set_option linter.unusedSimpArgs false
namespace Go.Proofs.Ytgjfdfmbknmpaaa
open Go.RowKit

theorem last_fin {xs ys : List Nat} {k : Int} {p : Nat × Nat} (h1 : isFin .f32 p.1 = true) : ∀ j, isFin .f32 (lastB (bisF xs ys k p j)).1 = true
  | 0 => h1
  | j + 1 => by
    show isFin .f32 (lastB ((bisF xs ys k p j).bind (stepB xs ys k))).1 = true
    cases hb : bisF xs ys k p j with
    | none => exact (by decide : isFin .f32 0 = true)
    | some q =>
      have ih := last_fin (xs := xs) (ys := ys) (k := k) h1 j
      rw [hb] at ih
      show isFin .f32 (lastB (stepB xs ys k q)).1 = true
      unfold stepB
      split
      · decide
      · split
        · rename_i hf
          rw [Bool.and_eq_true] at hf
          split
          · exact hf.1
          · exact ih
        · decide
theorem halv_fin (xs ys : List Nat) (k : Int) : isFin .f32 (halvD xs ys k).1 = true := by
  unfold halvD
  split
  · exact last_fin (spanD_fin _ _).1 40
  · decide
theorem valD_fin (xs ys : List Nat) (k : Int) : isFin .f32 (valD xs ys k).1 = true := by
  unfold valD
  split
  · exact halv_fin _ _ _
  · decide

set_option maxRecDepth 20000 in
set_option maxHeartbeats 8000000 in
theorem law_ValueOfChain (A1a : Option Addr) (n1a cap1a : Nat) (xs1a : List Nat) (A1b : Option Addr) (n1b cap1b : Nat) (xs1b : List Nat) (x2 : Int) (w : World) (hr1a : Rds w A1a n1a (flts xs1a)) (hr1b : Rds w A1b n1b (flts xs1b)) (hwf1 : ∀ x ∈ xs1a, x < 4294967296) (hwf2 : ∀ x ∈ xs1b, x < 4294967296) :
    Calls Try.prog 28 #[.agg #[.slice A1a n1a cap1a, .slice A1b n1b cap1b], .int .i64 x2] w fun e w' => e = .returned (.bool true) ∧ Ext w w' := by
  have hs_hr1a := hr1a.small
  have hs_hr1b := hr1b.small
  obtain ⟨w0, hw0⟩ : ∃ w0 : World, w0 = (w.alloc (.cells #[.slice A1a n1a cap1a, .slice A1b n1b cap1b] 24)) := ⟨_, rfl⟩
  have b0 : Blk w0 (w.heap.size) #[.slice A1a n1a cap1a, .slice A1b n1b cap1b] 24 := by subst hw0; simpa using (Blk.new w #[.slice A1a n1a cap1a, .slice A1b n1b cap1b] 24)
  have hx0 : Ext w w0 := by subst hw0; exact (Ext.refl _).alloc _
  have Hw0 := Lib.hid hw0
  clear hw0
  have hr1a0 := hr1a; replace hr1a := hr1a.below hx0
  have hr1b0 := hr1b; replace hr1b := hr1b.below hx0
  obtain ⟨d, hd⟩ : ∃ d : Nat × Bool, d = valD xs1a xs1b x2 := ⟨_, rfl⟩
  have Hd := Lib.hid hd; clear hd
  have hfn0 : isFin .f32 d.1 = true := by rw [Hd.out]; exact valD_fin _ _ _
  obtain ⟨yv0, hcv0⟩ := conv_fin hfn0
  clear hfn0
  have Hwf1 := Lib.hid hwf1
  have Hwf2 := Lib.hid hwf2
  clear hwf1 hwf2
  by_cases hn0 : n1a + n1b ≤ 1048576
  rotate_left
  · have HS0 : Hid (szL (n1a + n1b) (1048576) = -1) := by show szL _ _ = -1; unfold szL; rw [if_pos (by omega)]
    go_enter Try.func28, Try.ntmps28
    have zb0_0 := b0.cell 0 rfl
    have zb0_1 := b0.cell 1 rfl
    go_wp2_with fail
    rw [← Hw0.out]
    clear zb0_0 zb0_1
    refine (szChain_any A1a n1a cap1a A1b n1b cap1b 1048576 (by omega) (by omega) (by omega) _).mono ?_
    rw [HS0.out]
    rintro e w1 ⟨rfl, hx⟩
    replace b0 := b0.ext hx
    replace hr1a := hr1a.below hx
    replace hr1b := hr1b.below hx
    replace hx0 := hx0.trans hx
    clear hx
    go_wp2_with fail
    go_ret
    exact ⟨rfl, hx0⟩
  have HS0 : Hid (szL (n1a + n1b) (1048576) = 1048576 - (n1a + n1b : Nat)) := by show szL _ _ = _; unfold szL; rw [if_neg (by omega)]
  go_enter Try.func28, Try.ntmps28
  have zb0_0 := b0.cell 0 rfl
  have zb0_1 := b0.cell 1 rfl
  go_wp2_with fail
  rw [← Hw0.out]
  clear zb0_0 zb0_1
  refine (szChain_any A1a n1a cap1a A1b n1b cap1b 1048576 (by omega) (by omega) (by omega) _).mono ?_
  rw [HS0.out]
  rintro e w1 ⟨rfl, hx⟩
  replace b0 := b0.ext hx
  replace hr1a := hr1a.below hx
  replace hr1b := hr1b.below hx
  replace hx0 := hx0.trans hx
  clear hx
  have zb0_0 := b0.cell 0 rfl
  have zb0_1 := b0.cell 1 rfl
  go_wp2_with fail
  clear zb0_0 zb0_1
  have le_o4 : w.heap.size ≤ w1.heap.size := hx0.size
  have le_o7 : w.heap.size ≤ w1.heap.size := hx0.size
  refine (toChain_any A1a n1a cap1a A1b n1b cap1b xs1a xs1b _ hr1a hr1b (by omega) (by omega)).mono ?_
  rintro e w9 ⟨Ax2, kx3, Ax5, kx6, rfl, o4, o7, ne8, hx⟩
  have hs_o4 := o4.small; simp only [flts_length] at hs_o4
  have hs_o7 := o7.small; simp only [flts_length] at hs_o7
  replace b0 := b0.ext hx
  replace hr1a := hr1a.below hx
  replace hr1b := hr1b.below hx
  replace hx0 := hx0.trans hx
  clear hx
  go_wp2_with fail
  refine (specValueOfChain_any Ax2 n1a kx3 Ax5 n1b kx6 x2 xs1a xs1b _ o4.reads o7.reads Hwf1.out Hwf2.out).mono ?_
  rw [← Hd.out]
  rintro e w10 ⟨rfl, hx⟩
  replace b0 := b0.ext hx
  replace hr1a := hr1a.below hx
  replace hr1b := hr1b.below hx
  replace o4 := o4.ext hx
  replace o7 := o7.ext hx
  replace hx0 := hx0.trans hx
  clear hx
  have zb0_0 := b0.cell 0 rfl
  have zb0_1 := b0.cell 1 rfl
  go_wp2_with fail
  clear zb0_0 zb0_1
  have le_o13 : w.heap.size ≤ w10.heap.size := hx0.size
  have le_o16 : w.heap.size ≤ w10.heap.size := hx0.size
  refine (toChain_any A1a n1a cap1a A1b n1b cap1b xs1a xs1b _ hr1a hr1b (by omega) (by omega)).mono ?_
  rintro e w18 ⟨Ax11, kx12, Ax14, kx15, rfl, o13, o16, ne17, hx⟩
  have ne19 := o4.ne o13
  have ne20 := o7.ne o13
  have hs_o13 := o13.small; simp only [flts_length] at hs_o13
  have ne21 := o4.ne o16
  have ne22 := o7.ne o16
  have hs_o16 := o16.small; simp only [flts_length] at hs_o16
  replace b0 := b0.ext hx
  replace hr1a := hr1a.below hx
  replace hr1b := hr1b.below hx
  replace o4 := o4.ext hx
  replace o7 := o7.ext hx
  replace hx0 := hx0.trans hx
  clear hx
  go_wp2_with fail
  obtain ⟨w24, hw⟩ : ∃ v : World, v = (w18.alloc (.cells #[.slice Ax11 n1a kx12, .slice Ax14 n1b kx15] 27)) := ⟨_, rfl⟩
  rw [← hw]
  have hx : Ext w18 w24 := by subst hw; exact (Ext.refl _).alloc _
  have b23 : Blk w24 w18.heap.size #[.slice Ax11 n1a kx12, .slice Ax14 n1b kx15] 27 := by subst hw; exact Blk.new _ _ _
  clear hw
  replace b0 := b0.ext hx
  replace hr1a := hr1a.below hx
  replace hr1b := hr1b.below hx
  replace o4 := o4.ext hx
  replace o7 := o7.ext hx
  replace o13 := o13.ext hx
  replace o16 := o16.ext hx
  replace hx0 := hx0.trans hx
  clear hx
  refine (implValueOfChain_any Ax11 n1a kx12 Ax14 n1b kx15 x2 xs1a xs1b _ o13.reads o16.reads).mono ?_
  rw [← Hd.out]
  rintro e w25 ⟨rfl, hx⟩
  replace b0 := b0.ext hx
  replace hr1a := hr1a.below hx
  replace hr1b := hr1b.below hx
  replace o4 := o4.ext hx
  replace o7 := o7.ext hx
  replace o13 := o13.ext hx
  replace o16 := o16.ext hx
  replace b23 := b23.ext hx
  replace hx0 := hx0.trans hx
  clear hx
  go_wp2_with fail
  refine (sameFloat_any yv0 yv0 rfl _).mono ?_
  rintro e w26 ⟨rfl, hx⟩
  replace b0 := b0.ext hx
  replace hr1a := hr1a.below hx
  replace hr1b := hr1b.below hx
  replace o4 := o4.ext hx
  replace o7 := o7.ext hx
  replace o13 := o13.ext hx
  replace o16 := o16.ext hx
  replace b23 := b23.ext hx
  replace hx0 := hx0.trans hx
  clear hx
  go_wp2_with fail
  have zb23_0 := b23.cell 0 rfl
  have zb23_1 := b23.cell 1 rfl
  have zb0_0 := b0.cell 0 rfl
  have zb0_1 := b0.cell 1 rfl
  refine wp_region_T (cs := []) [0, 1, 2, 3, 4] [] [2, 3] [(3, [2])] (fun i__ v => match i__ with | 2 => ∃ (Ax27 : Option Addr) (kx28 : Nat) (Ax30 : Option Addr) (kx31 : Nat), v = (.agg #[.slice Ax27 n1a kx28, .slice Ax30 n1b kx31]) | 3 => v = (.bool true) | _ => False) (fun i__ v w' => match i__ with | 2 => OwnF w' w26.heap.size 39 v [0] (flts xs1a) ∧ OwnF w' w26.heap.size 39 v [1] (flts xs1b) | _ => True) (by kernel_rfl) (by kernel_rfl) (by intro i v w' w2 h hx; revert h; (try dsimp only); split <;> intro h <;> first | trivial | exact RdsF.ext h hx | exact OwnF.ext h hx | exact BlkF.ext h hx | exact ⟨RdsF.ext h.1 hx, RdsF.ext h.2 hx⟩ | exact ⟨OwnF.ext h.1 hx, OwnF.ext h.2 hx⟩ | exact ⟨RdsF.ext h.1 hx, RdsF.ext h.2.1 hx, RdsF.ext h.2.2 hx⟩ | exact ⟨OwnF.ext h.1 hx, OwnF.ext h.2.1 hx, OwnF.ext h.2.2 hx⟩) ?_
  refine' wpT_det (o := ⟨some 42, Op.load 27 (Operand.tmp 8), 27, "exact.go:3845", #[], none⟩) rfl (by rfl) (by rfl) (fun w' hw' => ?_) ?_; rotate_left
  · have zb23_0_ := Ext.cell hw' zb23_0; have zb23_1_ := Ext.cell hw' zb23_1; have zb0_0_ := Ext.cell hw' zb0_0; have zb0_1_ := Ext.cell hw' zb0_1; go_simp <;> first | rfl | exact ⟨rfl, rfl⟩
  simp only [Act.put, List.setIfInBounds_toArray, List.set_cons_zero, List.set_cons_succ]
  refine' wpT_det (o := ⟨some 43, Op.load 24 (Operand.tmp 2), 24, "exact.go:3845", #[], none⟩) rfl (by rfl) (by rfl) (fun w' hw' => ?_) ?_; rotate_left
  · have zb23_0_ := Ext.cell hw' zb23_0; have zb23_1_ := Ext.cell hw' zb23_1; have zb0_0_ := Ext.cell hw' zb0_0; have zb0_1_ := Ext.cell hw' zb0_1; go_simp <;> first | rfl | exact ⟨rfl, rfl⟩
  simp only [Act.put, List.setIfInBounds_toArray, List.set_cons_zero, List.set_cons_succ]
  refine wpT_nd (o := ⟨some 44, Op.call { callee := Callee.value (Operand.func 32), args := #[Operand.tmp 43], argTypes := #[24] }, 27, "exact.go:3845", #[{ on := 1, ground := Ground.data }], none⟩) rfl (by rfl) (by rfl) (fun w' hw' hF R__ hGo => ?_) ⟨_, none, 0, none, 0, rfl⟩ ?_
  · go_simp
    refine gives_enter rfl ?_
    refine (toChain_any A1a n1a cap1a A1b n1b cap1b xs1a xs1b _ (hr1a.below hw'.undrew) (hr1b.below hw'.undrew) (by omega) (by omega)).mono ?_
    rintro e w2 ⟨Ax27, kx28, Ax30, kx31, rfl, o29, o32, ne33, hx⟩
    exact ⟨_, rfl, hGo _ _ hx ⟨_, _, _, _, rfl⟩ ⟨OwnF.of (o29.base hw'.size) rfl, OwnF.of (o32.base hw'.size) rfl⟩⟩
  rintro _ ⟨Ax27, kx28, Ax30, kx31, rfl⟩
  simp only [Act.put, List.setIfInBounds_toArray, List.set_cons_zero, List.set_cons_succ]
  refine wpT_nd (o := ⟨some 45, Op.call { callee := Callee.value (Operand.func 34), args := #[Operand.tmp 42, Operand.tmp 44], argTypes := #[27, 27] }, 4, "exact.go:3845", #[{ on := 0, ground := Ground.data }, { on := 2, ground := Ground.data }, { on := 2, ground := Ground.chain }], none⟩) rfl (by rfl) (by rfl) (fun w' hw' hF R__ hGo => ?_) ⟨_, rfl⟩ ?_
  · go_simp
    refine gives_enter rfl ?_
    refine (eqChain_any Ax11 Ax14 Ax27 Ax30 n1a n1b n1a n1b kx12 kx15 kx28 kx31  xs1a xs1b xs1a xs1b _ (o13.reads.below hw'.undrew) (o16.reads.below hw'.undrew) ((hF 2 (by simp [uses]) _ rfl).1 _ _ _ rfl).reads ((hF 2 (by simp [uses]) _ rfl).2 _ _ _ rfl).reads ⟨rfl, rfl⟩).mono ?_
    rintro e w2 ⟨rfl, hx⟩
    exact ⟨_, rfl, hGo _ _ hx rfl trivial⟩
  intro v hv
  obtain rfl : v = (.bool true) := hv
  simp only [Act.put, List.setIfInBounds_toArray, List.set_cons_zero, List.set_cons_succ]
  refine' wpT_det (o := ⟨some 46, Op.unOp UnOp.not 4 (Operand.tmp 45), 4, "exact.go:3845", #[{ on := 3, ground := Ground.data }], none⟩) rfl (by rfl) (by rfl) (fun w' hw' => ?_) ?_; rotate_left
  · go_simp <;> first | rfl | exact ⟨rfl, rfl⟩
  simp only [Act.put, List.setIfInBounds_toArray, List.set_cons_zero, List.set_cons_succ]
  refine wpT_nil (fun w34 hw' hF => ?_)
  refine wpList_nil ?_
  clear zb23_0 zb23_1 zb0_0 zb0_1
  have hx := hw'.undrew; clear hw'
  clear hF
  replace b0 := b0.ext hx
  replace hr1a := hr1a.below hx
  replace hr1b := hr1b.below hx
  replace o4 := o4.ext hx
  replace o7 := o7.ext hx
  replace o13 := o13.ext hx
  replace o16 := o16.ext hx
  replace b23 := b23.ext hx
  replace hx0 := hx0.trans hx
  clear hx
  go_wp2_with fail
  go_ret
  exact ⟨rfl, hx0⟩

end Go.Proofs.Ytgjfdfmbknmpaaa
