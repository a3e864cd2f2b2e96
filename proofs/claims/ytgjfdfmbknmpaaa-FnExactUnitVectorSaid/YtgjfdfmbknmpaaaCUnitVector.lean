import Derived.Test.YtgjfdfmbknmpaaaM23
import Derived.Test.YtgjfdfmbknmpaaaB3M
set_option linter.unusedVariables false
set_option linter.unusedSimpArgs false
namespace Go.Proofs.Ytgjfdfmbknmpaaa
open Go.RowKit

set_option maxRecDepth 20000 in
set_option maxHeartbeats 8000000 in
theorem law_UnitVector (A : Option Addr) (n cap : Nat) (xs : List Nat) (w : World) (hr : Rds w A n (flts xs)) :
    Calls Try.prog 21 #[.slice A n cap] w fun e w' => e = .returned (.bool true) ∧ Ext w w' := by
  have hs_hr := hr.small
  obtain ⟨w0, hw0⟩ : ∃ w0 : World, w0 = w := ⟨_, rfl⟩
  have hx0 : Ext w w0 := by subst hw0; exact Ext.refl _
  have Hw0 := Lib.hid hw0
  clear hw0
  have hr0 := hr; replace hr := hr.below hx0
  obtain ⟨d, hd⟩ : ∃ d : List Nat × Bool, d = unitD xs := ⟨_, rfl⟩
  have Hd := Lib.hid hd; clear hd
  by_cases hm0 : n ≤ 1048576
  rotate_left
  · go_enter Try.func21, Try.ntmps21
    go_wp2_with fail
    go_ret
    exact ⟨rfl, by first | exact hx0 | (rw [← Hw0.out]; exact hx0) | exact Ext.refl _⟩
  go_enter Try.func21, Try.ntmps21
  go_wp2_with fail
  rw [← Hw0.out]
  have le_o3 : w.heap.size ≤ w0.heap.size := hx0.size
  refine (toFloat32S_any A n cap xs _ hr (by omega)).mono ?_
  rintro e w4 ⟨Ax1, kx2, rfl, o3, hx⟩
  have hs_o3 := o3.small; simp only [flts_length] at hs_o3
  replace hr := hr.below hx
  replace hx0 := hx0.trans hx
  clear hx
  go_wp2_with fail
  have le_o7 : w.heap.size ≤ w4.heap.size := hx0.size
  refine (specUnitVector_any Ax1 n kx2 xs _ o3.reads).mono ?_
  rw [← Hd.out]
  rintro e w8 ⟨Ax5, kx6, rfl, o7, hx⟩
  have ne9 := o3.ne o7
  have hs_o7 := o7.small; simp only [flts_length] at hs_o7
  replace hr := hr.below hx
  replace o3 := o3.ext hx
  replace hx0 := hx0.trans hx
  clear hx
  go_wp2_with fail
  have le_o12 : w.heap.size ≤ w8.heap.size := hx0.size
  refine (toFloat32S_any A n cap xs _ hr (by omega)).mono ?_
  rintro e w13 ⟨Ax10, kx11, rfl, o12, hx⟩
  have ne14 := o3.ne o12
  have ne15 := o7.ne o12
  have hs_o12 := o12.small; simp only [flts_length] at hs_o12
  replace hr := hr.below hx
  replace o3 := o3.ext hx
  replace o7 := o7.ext hx
  replace hx0 := hx0.trans hx
  clear hx
  go_wp2_with fail
  have le_o18 : w.heap.size ≤ w13.heap.size := hx0.size
  refine (implUnitVector_any Ax10 n kx11 xs _ o12.reads).mono ?_
  rw [← Hd.out]
  rintro e w19 ⟨Ax16, kx17, rfl, o18, hx⟩
  have ne20 := o3.ne o18
  have ne21 := o7.ne o18
  have ne22 := o12.ne o18
  have hs_o18 := o18.small; simp only [flts_length] at hs_o18
  replace hr := hr.below hx
  replace o3 := o3.ext hx
  replace o7 := o7.ext hx
  replace o12 := o12.ext hx
  replace hx0 := hx0.trans hx
  clear hx
  go_wp2_with fail
  refine (eqFloat32S_any Ax16 Ax5 d.1.length d.1.length kx17 kx6  d.1 d.1 _ o18.reads o7.reads rfl).mono ?_
  rintro e w23 ⟨rfl, hx⟩
  replace hr := hr.below hx
  replace o3 := o3.ext hx
  replace o7 := o7.ext hx
  replace o12 := o12.ext hx
  replace o18 := o18.ext hx
  replace hx0 := hx0.trans hx
  clear hx
  go_wp2_with fail
  have le_o26 : w.heap.size ≤ w23.heap.size := hx0.size
  refine (toFloat32S_any A n cap xs _ hr (by omega)).mono ?_
  rintro e w27 ⟨Ax24, kx25, rfl, o26, hx⟩
  have ne28 := o3.ne o26
  have ne29 := o7.ne o26
  have ne30 := o12.ne o26
  have ne31 := o18.ne o26
  have hs_o26 := o26.small; simp only [flts_length] at hs_o26
  replace hr := hr.below hx
  replace o3 := o3.ext hx
  replace o7 := o7.ext hx
  replace o12 := o12.ext hx
  replace o18 := o18.ext hx
  replace hx0 := hx0.trans hx
  clear hx
  go_wp2_with fail
  refine (eqFloat32S_any Ax10 Ax24 n n kx11 kx25  xs xs _ o12.reads o26.reads rfl).mono ?_
  rintro e w32 ⟨rfl, hx⟩
  replace hr := hr.below hx
  replace o3 := o3.ext hx
  replace o7 := o7.ext hx
  replace o12 := o12.ext hx
  replace o18 := o18.ext hx
  replace o26 := o26.ext hx
  replace hx0 := hx0.trans hx
  clear hx
  go_wp2_with fail
  refine (markFloat32S_any _ Ax10 n kx11 _ 1 _ (by omega) o12).mono ?_
  rintro e w33 ⟨rfl, o_, hw⟩
  replace o3 := o3.other hw ne14.1
  replace o7 := o7.other hw ne15.1
  replace o18 := o18.other hw ne22.2
  replace o26 := o26.other hw ne30.2
  replace hx0 := hw.ext hx0 (o12.base le_o12)
  replace hr := hr0.below hx0
  clear o12 hw; have o12 := o_; clear o_
  go_wp2_with fail
  refine (eqFloat32S_any Ax16 Ax5 d.1.length d.1.length kx17 kx6  d.1 d.1 _ o18.reads o7.reads rfl).mono ?_
  rintro e w34 ⟨rfl, hx⟩
  replace hr := hr.below hx
  replace o3 := o3.ext hx
  replace o7 := o7.ext hx
  replace o12 := o12.ext hx
  replace o18 := o18.ext hx
  replace o26 := o26.ext hx
  replace hx0 := hx0.trans hx
  clear hx
  go_wp2_with fail
  refine (markFloat32S_any _ Ax16 d.1.length kx17 _ 1 _ (by omega) o18).mono ?_
  rintro e w35 ⟨rfl, o_, hw⟩
  replace o3 := o3.other hw ne20.1
  replace o7 := o7.other hw ne21.1
  replace o12 := o12.other hw ne22.1
  replace o26 := o26.other hw ne31.2
  replace hx0 := hw.ext hx0 (o18.base le_o18)
  replace hr := hr0.below hx0
  clear o18 hw; have o18 := o_; clear o_
  go_wp2_with fail
  refine (heldFloat32S_any Ax16 d.1.length kx17 1 _ (by omega) (by omega) o18.reads).mono ?_
  rintro e w36 ⟨rfl, hx⟩
  replace hr := hr.below hx
  replace o3 := o3.ext hx
  replace o7 := o7.ext hx
  replace o12 := o12.ext hx
  replace o18 := o18.ext hx
  replace o26 := o26.ext hx
  replace hx0 := hx0.trans hx
  clear hx
  go_wp2_with fail
  have le_o39 : w.heap.size ≤ w36.heap.size := hx0.size
  refine (toFloat32S_any A n cap xs _ hr (by omega)).mono ?_
  rintro e w40 ⟨Ax37, kx38, rfl, o39, hx⟩
  have ne41 := o3.ne o39
  have ne42 := o7.ne o39
  have ne43 := o12.ne o39
  have ne44 := o18.ne o39
  have ne45 := o26.ne o39
  have hs_o39 := o39.small; simp only [flts_length] at hs_o39
  replace hr := hr.below hx
  replace o3 := o3.ext hx
  replace o7 := o7.ext hx
  replace o12 := o12.ext hx
  replace o18 := o18.ext hx
  replace o26 := o26.ext hx
  replace hx0 := hx0.trans hx
  clear hx
  go_wp2_with fail
  have le_o48 : w.heap.size ≤ w40.heap.size := hx0.size
  refine (implUnitVector_any Ax37 n kx38 xs _ o39.reads).mono ?_
  rw [← Hd.out]
  rintro e w49 ⟨Ax46, kx47, rfl, o48, hx⟩
  have ne50 := o3.ne o48
  have ne51 := o7.ne o48
  have ne52 := o12.ne o48
  have ne53 := o18.ne o48
  have ne54 := o26.ne o48
  have ne55 := o39.ne o48
  have hs_o48 := o48.small; simp only [flts_length] at hs_o48
  replace hr := hr.below hx
  replace o3 := o3.ext hx
  replace o7 := o7.ext hx
  replace o12 := o12.ext hx
  replace o18 := o18.ext hx
  replace o26 := o26.ext hx
  replace o39 := o39.ext hx
  replace hx0 := hx0.trans hx
  clear hx
  go_wp2_with fail
  refine (eqFloat32S_any Ax46 Ax5 d.1.length d.1.length kx47 kx6  d.1 d.1 _ o48.reads o7.reads rfl).mono ?_
  rintro e w56 ⟨rfl, hx⟩
  replace hr := hr.below hx
  replace o3 := o3.ext hx
  replace o7 := o7.ext hx
  replace o12 := o12.ext hx
  replace o18 := o18.ext hx
  replace o26 := o26.ext hx
  replace o39 := o39.ext hx
  replace o48 := o48.ext hx
  replace hx0 := hx0.trans hx
  clear hx
  go_wp2_with fail
  refine (heldFloat32S_any Ax16 d.1.length kx17 1 _ (by omega) (by omega) o18.reads).mono ?_
  rintro e w57 ⟨rfl, hx⟩
  replace hr := hr.below hx
  replace o3 := o3.ext hx
  replace o7 := o7.ext hx
  replace o12 := o12.ext hx
  replace o18 := o18.ext hx
  replace o26 := o26.ext hx
  replace o39 := o39.ext hx
  replace o48 := o48.ext hx
  replace hx0 := hx0.trans hx
  clear hx
  go_wp2_with fail
  go_ret
  exact ⟨rfl, hx0⟩

end Go.Proofs.Ytgjfdfmbknmpaaa
