import Derived.Test.YtgjfdfmbknmpaaaM46
import Derived.Test.YtgjfdfmbknmpaaaB3M
set_option linter.unusedVariables false
set_option linter.unusedSimpArgs false
namespace Go.Proofs.Ytgjfdfmbknmpaaa
open Go.RowKit

set_option maxRecDepth 20000 in
set_option maxHeartbeats 8000000 in
theorem law_CosineOf (A1 : Option Addr) (n1 cap1 : Nat) (xs1 : List Nat) (A2 : Option Addr) (n2 cap2 : Nat) (xs2 : List Nat) (w : World) (hr1 : Rds w A1 n1 (flts xs1)) (hr2 : Rds w A2 n2 (flts xs2)) :
    Calls Try.prog 27 #[.slice A1 n1 cap1, .slice A2 n2 cap2] w fun e w' => e = .returned (.bool true) ∧ Ext w w' := by
  have hs_hr1 := hr1.small
  have hs_hr2 := hr2.small
  obtain ⟨w0, hw0⟩ : ∃ w0 : World, w0 = w := ⟨_, rfl⟩
  have hx0 : Ext w w0 := by subst hw0; exact Ext.refl _
  have Hw0 := Lib.hid hw0
  clear hw0
  have hr10 := hr1; replace hr1 := hr1.below hx0
  have hr20 := hr2; replace hr2 := hr2.below hx0
  obtain ⟨d, hd⟩ : ∃ d : Nat × Bool, d = cosD xs1 xs2 := ⟨_, rfl⟩
  have Hd := Lib.hid hd; clear hd
  have hfn0 : isFin .f32 d.1 = true := by rw [Hd.out]; exact cosD_fin _ _
  obtain ⟨yv0, hcv0⟩ := conv_fin hfn0
  clear hfn0
  by_cases hm0 : n1 ≤ 1048576
  rotate_left
  · go_enter Try.func27, Try.ntmps27
    go_wp2_with fail
    go_ret
    exact ⟨rfl, by first | exact hx0 | (rw [← Hw0.out]; exact hx0) | exact Ext.refl _⟩
  by_cases hm1 : n2 ≤ 1048576
  rotate_left
  · go_enter Try.func27, Try.ntmps27
    go_wp2_with fail
    go_ret
    exact ⟨rfl, by first | exact hx0 | (rw [← Hw0.out]; exact hx0) | exact Ext.refl _⟩
  go_enter Try.func27, Try.ntmps27
  go_wp2_with fail
  rw [← Hw0.out]
  have le_o3 : w.heap.size ≤ w0.heap.size := hx0.size
  refine (toFloat32S_any A1 n1 cap1 xs1 _ hr1 (by omega)).mono ?_
  rintro e w4 ⟨Ax1, kx2, rfl, o3, hx⟩
  have hs_o3 := o3.small; simp only [flts_length] at hs_o3
  replace hr1 := hr1.below hx
  replace hr2 := hr2.below hx
  replace hx0 := hx0.trans hx
  clear hx
  go_wp2_with fail
  have le_o7 : w.heap.size ≤ w4.heap.size := hx0.size
  refine (toFloat32S_any A2 n2 cap2 xs2 _ hr2 (by omega)).mono ?_
  rintro e w8 ⟨Ax5, kx6, rfl, o7, hx⟩
  have ne9 := o3.ne o7
  have hs_o7 := o7.small; simp only [flts_length] at hs_o7
  replace hr1 := hr1.below hx
  replace hr2 := hr2.below hx
  replace o3 := o3.ext hx
  replace hx0 := hx0.trans hx
  clear hx
  go_wp2_with fail
  refine (specCosineOf_any Ax1 n1 kx2 Ax5 n2 kx6 xs1 xs2 _ o3.reads o7.reads).mono ?_
  rw [← Hd.out]
  rintro e w10 ⟨rfl, hx⟩
  replace hr1 := hr1.below hx
  replace hr2 := hr2.below hx
  replace o3 := o3.ext hx
  replace o7 := o7.ext hx
  replace hx0 := hx0.trans hx
  clear hx
  go_wp2_with fail
  have le_o13 : w.heap.size ≤ w10.heap.size := hx0.size
  refine (toFloat32S_any A1 n1 cap1 xs1 _ hr1 (by omega)).mono ?_
  rintro e w14 ⟨Ax11, kx12, rfl, o13, hx⟩
  have ne15 := o3.ne o13
  have ne16 := o7.ne o13
  have hs_o13 := o13.small; simp only [flts_length] at hs_o13
  replace hr1 := hr1.below hx
  replace hr2 := hr2.below hx
  replace o3 := o3.ext hx
  replace o7 := o7.ext hx
  replace hx0 := hx0.trans hx
  clear hx
  go_wp2_with fail
  have le_o19 : w.heap.size ≤ w14.heap.size := hx0.size
  refine (toFloat32S_any A2 n2 cap2 xs2 _ hr2 (by omega)).mono ?_
  rintro e w20 ⟨Ax17, kx18, rfl, o19, hx⟩
  have ne21 := o3.ne o19
  have ne22 := o7.ne o19
  have ne23 := o13.ne o19
  have hs_o19 := o19.small; simp only [flts_length] at hs_o19
  replace hr1 := hr1.below hx
  replace hr2 := hr2.below hx
  replace o3 := o3.ext hx
  replace o7 := o7.ext hx
  replace o13 := o13.ext hx
  replace hx0 := hx0.trans hx
  clear hx
  go_wp2_with fail
  refine (implCosineOf_any Ax11 n1 kx12 Ax17 n2 kx18 xs1 xs2 _ o13.reads o19.reads).mono ?_
  rw [← Hd.out]
  rintro e w24 ⟨rfl, hx⟩
  replace hr1 := hr1.below hx
  replace hr2 := hr2.below hx
  replace o3 := o3.ext hx
  replace o7 := o7.ext hx
  replace o13 := o13.ext hx
  replace o19 := o19.ext hx
  replace hx0 := hx0.trans hx
  clear hx
  go_wp2_with fail
  refine (sameFloat_any yv0 yv0 rfl _).mono ?_
  rintro e w25 ⟨rfl, hx⟩
  replace hr1 := hr1.below hx
  replace hr2 := hr2.below hx
  replace o3 := o3.ext hx
  replace o7 := o7.ext hx
  replace o13 := o13.ext hx
  replace o19 := o19.ext hx
  replace hx0 := hx0.trans hx
  clear hx
  go_wp2_with fail
  have le_o28 : w.heap.size ≤ w25.heap.size := hx0.size
  refine (toFloat32S_any A1 n1 cap1 xs1 _ hr1 (by omega)).mono ?_
  rintro e w29 ⟨Ax26, kx27, rfl, o28, hx⟩
  have ne30 := o3.ne o28
  have ne31 := o7.ne o28
  have ne32 := o13.ne o28
  have ne33 := o19.ne o28
  have hs_o28 := o28.small; simp only [flts_length] at hs_o28
  replace hr1 := hr1.below hx
  replace hr2 := hr2.below hx
  replace o3 := o3.ext hx
  replace o7 := o7.ext hx
  replace o13 := o13.ext hx
  replace o19 := o19.ext hx
  replace hx0 := hx0.trans hx
  clear hx
  go_wp2_with fail
  refine (eqFloat32S_any Ax11 Ax26 n1 n1 kx12 kx27  xs1 xs1 _ o13.reads o28.reads rfl).mono ?_
  rintro e w34 ⟨rfl, hx⟩
  replace hr1 := hr1.below hx
  replace hr2 := hr2.below hx
  replace o3 := o3.ext hx
  replace o7 := o7.ext hx
  replace o13 := o13.ext hx
  replace o19 := o19.ext hx
  replace o28 := o28.ext hx
  replace hx0 := hx0.trans hx
  clear hx
  go_wp2_with fail
  have le_o37 : w.heap.size ≤ w34.heap.size := hx0.size
  refine (toFloat32S_any A2 n2 cap2 xs2 _ hr2 (by omega)).mono ?_
  rintro e w38 ⟨Ax35, kx36, rfl, o37, hx⟩
  have ne39 := o3.ne o37
  have ne40 := o7.ne o37
  have ne41 := o13.ne o37
  have ne42 := o19.ne o37
  have ne43 := o28.ne o37
  have hs_o37 := o37.small; simp only [flts_length] at hs_o37
  replace hr1 := hr1.below hx
  replace hr2 := hr2.below hx
  replace o3 := o3.ext hx
  replace o7 := o7.ext hx
  replace o13 := o13.ext hx
  replace o19 := o19.ext hx
  replace o28 := o28.ext hx
  replace hx0 := hx0.trans hx
  clear hx
  go_wp2_with fail
  refine (eqFloat32S_any Ax17 Ax35 n2 n2 kx18 kx36  xs2 xs2 _ o19.reads o37.reads rfl).mono ?_
  rintro e w44 ⟨rfl, hx⟩
  replace hr1 := hr1.below hx
  replace hr2 := hr2.below hx
  replace o3 := o3.ext hx
  replace o7 := o7.ext hx
  replace o13 := o13.ext hx
  replace o19 := o19.ext hx
  replace o28 := o28.ext hx
  replace o37 := o37.ext hx
  replace hx0 := hx0.trans hx
  clear hx
  go_wp2_with fail
  go_ret
  exact ⟨rfl, hx0⟩

end Go.Proofs.Ytgjfdfmbknmpaaa
