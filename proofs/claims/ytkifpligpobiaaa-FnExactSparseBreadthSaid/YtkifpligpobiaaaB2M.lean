
import Derived.Test.YtkifpligpobiaaaB1M

import Derived.Test.YtkifpligpobiaaaT1
set_option linter.unusedVariables false
set_option linter.unusedSimpArgs false

namespace Go.Proofs.Ytkifpligpobiaaa

open Go.RowKit


set_option maxRecDepth 20000 in
set_option maxHeartbeats 1000000 in
theorem eqFloat32S_any (A B : Option Addr) (n m cap cap' : Nat) (xs ys : List Nat) (w : World) (hr : Rds w A n (flts xs)) (hq : Rds w B m (flts ys)) (hxy : xs = ys) :
    Calls Try.prog 83 #[.slice A n cap, .slice B m cap'] w fun e w' => e = .returned (.bool true) ∧ Ext w w' := by
  have hl := hr.flen
  have hl' := hq.flen
  subst hxy
  obtain rfl : n = m := by omega
  have hs := hr.small
  go_enter Try.func83, Try.ntmps83
  go_wp2_with fail
  go_loopw [5] (fun i wr => ∃ k : Nat, k ≤ n ∧ i = .int .i64 k ∧ Ext w wr) (fun i _ => n - (intOf i).toNat)
  case atStart => exact ⟨0, Nat.zero_le _, rfl, Ext.refl _⟩
  case round =>
    obtain ⟨k, hk, rfl, hx⟩ := hrel
    by_cases hlt : k < n
    · obtain ⟨ad, rfl, hc⟩ := (hr.below hx).fltN k hlt
      obtain ⟨ad', rfl, hc'⟩ := (hq.below hx).fltN k hlt
      go_upto_region 6 with (fail)
      refine wp_region_T (cs := []) [0, 1, 2, 3, 4, 5, 6, 7, 8, 9, 10, 11] [] [4, 9, 10] [] (fun i__ v => match i__ with | 4 => ∃ r, v = .float .f64 r ∧ cf .f64 r = wide (rdf xs k) | 9 => ∃ r, v = .float .f64 r ∧ cf .f64 r = wide (rdf xs k) | 10 => v = (.bool true) | _ => False) (fun _ _ _ => True) (by kernel_rfl) (by kernel_rfl) (fun _ _ _ _ _ _ => trivial) ?_
      refine' wpT_det (o := ⟨some 17, Op.move (Operand.tmp 0), 23, "exact.go:189", #[], none⟩) rfl (by rfl) (by rfl) (fun w' hw' => ?_) ?_; rotate_left
      · go_simp <;> first | rfl | exact ⟨rfl, rfl⟩
      simp only [Act.put, List.setIfInBounds_toArray, List.set_cons_zero, List.set_cons_succ]
      refine' wpT_det (o := ⟨some 18, Op.move (Operand.tmp 5), 3, "exact.go:189", #[], none⟩) rfl (by rfl) (by rfl) (fun w' hw' => ?_) ?_; rotate_left
      · go_simp <;> first | rfl | exact ⟨rfl, rfl⟩
      simp only [Act.put, List.setIfInBounds_toArray, List.set_cons_zero, List.set_cons_succ]
      refine' wpT_det (o := ⟨some 19, Op.indexAddr 23 (Operand.tmp 17) (Operand.tmp 18), 0, "exact.go:189", #[{ on := 0, ground := Ground.data }, { on := 1, ground := Ground.data }], none⟩) rfl (by rfl) (by rfl) (fun w' hw' => ?_) ?_; rotate_left
      · go_simp <;> first | rfl | exact ⟨rfl, rfl⟩
      simp only [Act.put, List.setIfInBounds_toArray, List.set_cons_zero, List.set_cons_succ]
      refine' wpT_det (o := ⟨some 20, Op.load 43 (Operand.tmp 19), 43, "exact.go:189", #[{ on := 2, ground := Ground.data }], none⟩) rfl (by rfl) (by rfl) (fun w' hw' => ?_) ?_; rotate_left
      · have hc_ := Ext.cell hw' hc; have hc'_ := Ext.cell hw' hc'; go_simp <;> first | rfl | exact ⟨rfl, rfl⟩
      simp only [Act.put, List.setIfInBounds_toArray, List.set_cons_zero, List.set_cons_succ]
      refine wpT_nd (o := ⟨some 21, Op.convert 43 47 (Operand.tmp 20), 47, "exact.go:189", #[{ on := 3, ground := Ground.data }], none⟩) rfl (by rfl) (by rfl) (fun w' hw' hF R__ hGo => ?_) (by obtain ⟨r, hr⟩ := ex_wide (rdf xs k); exact ⟨_, r, rfl, hr⟩) ?_
      · exact gives_widen _ _ _ rfl (rdf xs k) rfl u32f u64f (fun r w2 hx hc => hGo _ _ hx ⟨r, rfl, hc⟩ trivial)
      rintro _ ⟨f4, rfl, hf4⟩
      simp only [Act.put, List.setIfInBounds_toArray, List.set_cons_zero, List.set_cons_succ]
      refine' wpT_det (o := ⟨some 22, Op.move (Operand.tmp 1), 23, "exact.go:189", #[], none⟩) rfl (by rfl) (by rfl) (fun w' hw' => ?_) ?_; rotate_left
      · go_simp <;> first | rfl | exact ⟨rfl, rfl⟩
      simp only [Act.put, List.setIfInBounds_toArray, List.set_cons_zero, List.set_cons_succ]
      refine' wpT_det (o := ⟨some 23, Op.move (Operand.tmp 5), 3, "exact.go:189", #[], none⟩) rfl (by rfl) (by rfl) (fun w' hw' => ?_) ?_; rotate_left
      · go_simp <;> first | rfl | exact ⟨rfl, rfl⟩
      simp only [Act.put, List.setIfInBounds_toArray, List.set_cons_zero, List.set_cons_succ]
      refine' wpT_det (o := ⟨some 24, Op.indexAddr 23 (Operand.tmp 22) (Operand.tmp 23), 0, "exact.go:189", #[{ on := 5, ground := Ground.data }, { on := 6, ground := Ground.data }], none⟩) rfl (by rfl) (by rfl) (fun w' hw' => ?_) ?_; rotate_left
      · go_simp <;> first | rfl | exact ⟨rfl, rfl⟩
      simp only [Act.put, List.setIfInBounds_toArray, List.set_cons_zero, List.set_cons_succ]
      refine' wpT_det (o := ⟨some 25, Op.load 43 (Operand.tmp 24), 43, "exact.go:189", #[{ on := 7, ground := Ground.data }], none⟩) rfl (by rfl) (by rfl) (fun w' hw' => ?_) ?_; rotate_left
      · have hc_ := Ext.cell hw' hc; have hc'_ := Ext.cell hw' hc'; go_simp <;> first | rfl | exact ⟨rfl, rfl⟩
      simp only [Act.put, List.setIfInBounds_toArray, List.set_cons_zero, List.set_cons_succ]
      refine wpT_nd (o := ⟨some 26, Op.convert 43 47 (Operand.tmp 25), 47, "exact.go:189", #[{ on := 8, ground := Ground.data }], none⟩) rfl (by rfl) (by rfl) (fun w' hw' hF R__ hGo => ?_) (by obtain ⟨r, hr⟩ := ex_wide (rdf xs k); exact ⟨_, r, rfl, hr⟩) ?_
      · exact gives_widen _ _ _ rfl (rdf xs k) rfl u32f u64f (fun r w2 hx hc => hGo _ _ hx ⟨r, rfl, hc⟩ trivial)
      rintro _ ⟨f9, rfl, hf9⟩
      simp only [Act.put, List.setIfInBounds_toArray, List.set_cons_zero, List.set_cons_succ]
      refine wpT_nd (o := ⟨some 27, Op.call { callee := Callee.value (Operand.func 41), args := #[Operand.tmp 21, Operand.tmp 26], argTypes := #[47, 47] }, 4, "exact.go:189", #[{ on := 4, ground := Ground.data }, { on := 9, ground := Ground.data }], none⟩) rfl (by rfl) (by rfl) (fun w' hw' hF R__ hGo => ?_) ⟨_, rfl⟩ ?_
      · go_simp
        refine gives_enter rfl ?_
        refine (sameFloat_any f4 f9 (hf4.trans hf9.symm) _).mono ?_
        rintro e w2 ⟨rfl, hx⟩
        exact ⟨_, rfl, hGo _ _ hx rfl trivial⟩
      intro v hv
      obtain rfl : v = (.bool true) := hv
      simp only [Act.put, List.setIfInBounds_toArray, List.set_cons_zero, List.set_cons_succ]
      refine' wpT_det (o := ⟨some 28, Op.unOp UnOp.not 4 (Operand.tmp 27), 4, "exact.go:189", #[{ on := 10, ground := Ground.data }], none⟩) rfl (by rfl) (by rfl) (fun w' hw' => ?_) ?_; rotate_left
      · go_simp <;> first | rfl | exact ⟨rfl, rfl⟩
      simp only [Act.put, List.setIfInBounds_toArray, List.set_cons_zero, List.set_cons_succ]
      refine wpT_nil (fun w' hw' hF => ?_)
      refine wpList_nil ?_
      go_wp2_with fail
      go_roundw
      case rel => exact ⟨k + 1, by omega, by go_num, hx.trans hw'.undrew⟩
      case measure => simp [intOf]; omega
    · go_wp2_with fail
      go_ret
      exact ⟨rfl, hx⟩

/-- k, k + 1, ..: n of them, as floats. -/
def marksF (k : Int) (n : Nat) : List Nat := (List.range n).map fun (j : Nat) => floatOfInt .f32 (k + (j : Int))
theorem marksF_length (k : Int) (n : Nat) : (marksF k n).length = n := by simp [marksF]
theorem marksF_rd {k : Int} {n j : Nat} (h : j < n) : rdf (marksF k n) j = floatOfInt .f32 (k + j) := by simp [rdf, marksF, h]
theorem floatOfInt_nan (n : Int) : (FloatKind.f32.format.read (floatOfInt .f32 n)).isNaN = false := read_write .f32 (.number (n < 0) n.natAbs 0) rfl

set_option maxRecDepth 20000 in
set_option maxHeartbeats 1000000 in
theorem markFloat32S_any (base : Nat) (A : Option Addr) (n cap : Nat) (vs : List Value) (k : Int) (w : World) (hk : 0 ≤ k ∧ k ≤ 100000000) (hown : Own w base 43 (.slice A n cap) vs) :
    Calls Try.prog 84 #[.slice A n cap, .int .i64 k] w fun e w' => e = .returned (.int .i64 (k + n)) ∧ Own w' base 43 (.slice A n cap) (flts (marksF k n)) ∧ Wr w w' (.slice A n cap) := by
  have hl := hown.len
  have hs := hown.small
  have hul : (flts (marksF k n)).length = vs.length := by rw [flts_length, marksF_length, hl]
  go_enter Try.func84, Try.ntmps84
  go_wp2_with fail
  go_loopw [1, 5] (fun q i wr => ∃ j : Nat, j ≤ n ∧ q = .int .i64 (k + j) ∧ i = .int .i64 j ∧ Own wr base 43 (.slice A n cap) (mixed vs (flts (marksF k n)) j) ∧ Wr w wr (.slice A n cap)) (fun _ i _ => n - (intOf i).toNat)
  case atStart => exact ⟨0, Nat.zero_le _, by simp, rfl, by rw [mixed_zero]; exact hown, Wr.refl _ _⟩
  case round =>
    obtain ⟨j, hj, rfl, rfl, hown', hx⟩ := hrel
    clear hown
    by_cases hlt : j < n
    · obtain ⟨g, rfl, hg⟩ := hown'.head (by omega)
      obtain ⟨hcell, hfr⟩ := hown'.at_ j hlt
      rw [List.getElem?_eq_getElem (by rw [mixed_length hul j (by omega)]; omega)] at hcell
      have hst := store_f32 Try.prog (floatOfInt .f32 (k + j)) hcell hfr
      go_wp2_with fail
      go_roundw
      case rel =>
        obtain ⟨h1, h2⟩ := hown'.stored j (.float .f32 (floatOfInt .f32 (k + j)))
        refine ⟨j + 1, by omega, by go_num, by go_num, ?_, hx.trans h2⟩
        rw [mixed_set hul (by omega) _ (by rw [flts_get (by rw [marksF_length]; exact hlt), marksF_rd hlt])] at h1
        exact h1
      case measure => simp [intOf]; omega
    · obtain rfl : j = n := by omega
      go_wp2_with fail
      go_ret
      refine ⟨rfl, ?_, hx⟩
      rwa [mixed_all hul hl] at hown'

set_option maxRecDepth 20000 in
set_option maxHeartbeats 1000000 in
theorem heldFloat32S_any (A : Option Addr) (n cap : Nat) (k : Int) (w : World) (hk : 0 ≤ k ∧ k ≤ 100000000) (hn : n ≤ 1048576) (hr : Rds w A n (flts (marksF k n))) :
    Calls Try.prog 85 #[.slice A n cap, .int .i64 k] w fun e w' => e = .returned (.int .i64 (k + n)) ∧ Ext w w' := by
  go_enter Try.func85, Try.ntmps85
  go_wp2_with fail
  go_loopw [1, 5] (fun q i wr => ∃ j : Nat, j ≤ n ∧ q = .int .i64 (k + j) ∧ i = .int .i64 j ∧ Ext w wr) (fun _ i _ => n - (intOf i).toNat)
  case atStart => exact ⟨0, Nat.zero_le _, by simp, rfl, Ext.refl _⟩
  case round =>
    obtain ⟨j, hj, rfl, rfl, hx⟩ := hrel
    by_cases hlt : j < n
    · obtain ⟨ad, rfl, hc⟩ := (hr.below hx).fltN j hlt
      rw [marksF_rd hlt] at hc
      have hoo := order_self (floatOfInt_nan (k + j))
      go_wp2_with fail
      go_roundw
      case rel => exact ⟨j + 1, by omega, by go_num, by go_num, hx⟩
      case measure => simp [intOf]; omega
    · obtain rfl : j = n := by omega
      go_wp2_with fail
      go_ret
      exact ⟨rfl, hx⟩

end Go.Proofs.Ytkifpligpobiaaa
