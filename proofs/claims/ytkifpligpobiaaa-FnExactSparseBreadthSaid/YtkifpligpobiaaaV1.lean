
import Derived.Test.YtkifpligpobiaaaM6

import Derived.Test.YtkifpligpobiaaaP1
set_option linter.unusedVariables false
set_option linter.unusedSimpArgs false

namespace Go.Proofs.Ytkifpligpobiaaa

open Go.RowKit


/-- A list does not fall. -/
def Srt (xs : List Int) : Prop := ∀ j : Nat, j + 1 < xs.length → rd xs j ≤ rd xs ((j : Int) + 1)
open Classical in

noncomputable def srtB (xs : List Int) : Bool := decide (Srt xs)
theorem srtB_iff {xs : List Int} : srtB xs = true ↔ Srt xs := by unfold srtB; simp

set_option maxRecDepth 20000 in
set_option maxHeartbeats 400000 in
theorem cmpLess_any (a b : Int) (w : World) :
    Calls Try.prog 140 #[.int .i64 a, .int .i64 b] w fun e w' => e = .returned (.bool (decide (a < b))) ∧ w = w' := by
  have isN : ∀ (x : Int) (W : World), Calls Try.prog 137 #[.int .i64 x] W fun e w' => e = .returned (.bool false) ∧ W = w' := by
    intro x W
    have hx : (x != x) = false := by simp
    go_enter Try.func137, Try.ntmps137
    go_upto_region 1 with (fail)
    go_wp2_with fail
    go_ret
    exact ⟨rfl, rfl⟩
  by_cases h : a < b
  all_goals
    go_enter Try.func140, Try.ntmps140
    go_upto_region 1 with (fail)
    go_wp2_with fail
    refine (isN a _).mono ?_
    rintro e w1 ⟨rfl, rfl⟩
    go_wp2_with fail
    go_ret
    exact ⟨ret_bool (by simp [h]), rfl⟩

set_option maxRecDepth 20000 in
set_option maxHeartbeats 1000000 in
theorem isSorted_any (A : Option Addr) (n cap : Nat) (xs : List Int) (w : World) (hr : Rds w A n (ints xs)) :
    Calls Try.prog 108 #[.slice A n cap] w fun e w' => e = .returned (.bool (srtB xs)) ∧ Ext w w' := by
  have HL := Lib.hid hr.ilen
  have hs := hr.small
  have hb : IntKind.i64.wrap ((n : Int) - 1) = (n : Int) - 1 := IntWalk.i64_in _ (by omega)
  obtain ⟨res, hres⟩ : ∃ res, res = srtB xs := ⟨_, rfl⟩
  rw [← hres]
  have Hres := Lib.hid hres
  clear hres
  go_enter Try.func108, Try.ntmps108
  go_upto_region 1 with (fail)
  go_wp2_with fail
  go_loopw [3] (fun i wr => ∃ z : Int, (-1 ≤ z ∧ z < n) ∧ i = .int .i64 z ∧ Hid (∀ j : Nat, z ≤ j → j + 1 < n → rd xs j ≤ rd xs ((j : Int) + 1)) ∧ Ext w wr) (fun i _ => (intOf i).toNat)
  case atStart => exact ⟨(n : Int) - 1, by omega, rfl, fun j h1 h2 => by omega, Ext.refl _⟩
  case round =>
    obtain ⟨z, hz, rfl, hso, hx⟩ := hrel
    by_cases hlt : 0 < z
    · have hz1 : z > 0 := hlt
      have g1 : IntKind.i64.wrap (z - 1) = z - 1 := IntWalk.i64_in _ (by omega)
      have i0 : 0 ≤ z := by omega
      have i1 : z < (n : Int) := hz.2
      have i2 : 1 ≤ z := by omega
      have i3 : z - 1 < (n : Int) := by omega
      obtain ⟨ad, rfl, hc⟩ := (hr.below hx).int z (by omega) hz.2
      obtain ⟨ad', had, hc'⟩ := (hr.below hx).int (z - 1) (by omega) (by omega)
      obtain rfl := Option.some.inj had
      clear had
      rw [Int.pred_toNat] at hc'
      by_cases hle : rd xs z < rd xs (z - 1)
      · have hl' : decide (rd xs z < rd xs (z - 1)) = true := decide_eq_true hle
        have HLE := Lib.hid hle
        clear hle
        go_wp2_with fail
        refine wp_region_T (cs := []) [0, 1, 2, 3, 4, 5, 6, 7, 8, 9] [] [9] [] (fun i__ v => match i__ with | 9 => v = (.bool true) | _ => False) (fun _ _ _ => True) (by kernel_rfl) (by kernel_rfl) (fun _ _ _ _ _ _ => trivial) ?_
        refine' wpT_det (o := ⟨some 11, Op.move (Operand.tmp 0), 22, "sort.go:44", #[], none⟩) rfl (by rfl) (by rfl) (fun w' hw' => ?_) ?_; rotate_left
        · go_simp <;> first | rfl | exact ⟨rfl, rfl⟩
        simp only [Act.put, List.setIfInBounds_toArray, List.set_cons_zero, List.set_cons_succ]
        refine' wpT_det (o := ⟨some 12, Op.move (Operand.tmp 3), 3, "sort.go:44", #[], none⟩) rfl (by rfl) (by rfl) (fun w' hw' => ?_) ?_; rotate_left
        · go_simp <;> first | rfl | exact ⟨rfl, rfl⟩
        simp only [Act.put, List.setIfInBounds_toArray, List.set_cons_zero, List.set_cons_succ]
        refine' wpT_det (o := ⟨some 13, Op.indexAddr 22 (Operand.tmp 11) (Operand.tmp 12), 0, "sort.go:44", #[{ on := 0, ground := Ground.data }, { on := 1, ground := Ground.data }], none⟩) rfl (by rfl) (by rfl) (fun w' hw' => ?_) ?_; rotate_left
        · go_simp <;> first | rfl | exact ⟨rfl, rfl⟩
        simp only [Act.put, List.setIfInBounds_toArray, List.set_cons_zero, List.set_cons_succ]
        refine' wpT_det (o := ⟨some 14, Op.load 2 (Operand.tmp 13), 2, "sort.go:44", #[{ on := 2, ground := Ground.data }], none⟩) rfl (by rfl) (by rfl) (fun w' hw' => ?_) ?_; rotate_left
        · have hc_ := Ext.cell hw' hc; have hc'_ := Ext.cell hw' hc'; go_simp <;> first | rfl | exact ⟨rfl, rfl⟩
        simp only [Act.put, List.setIfInBounds_toArray, List.set_cons_zero, List.set_cons_succ]
        refine' wpT_det (o := ⟨some 15, Op.move (Operand.tmp 0), 22, "sort.go:44", #[], none⟩) rfl (by rfl) (by rfl) (fun w' hw' => ?_) ?_; rotate_left
        · go_simp <;> first | rfl | exact ⟨rfl, rfl⟩
        simp only [Act.put, List.setIfInBounds_toArray, List.set_cons_zero, List.set_cons_succ]
        refine' wpT_det (o := ⟨some 16, Op.move (Operand.tmp 3), 3, "sort.go:44", #[], none⟩) rfl (by rfl) (by rfl) (fun w' hw' => ?_) ?_; rotate_left
        · go_simp <;> first | rfl | exact ⟨rfl, rfl⟩
        simp only [Act.put, List.setIfInBounds_toArray, List.set_cons_zero, List.set_cons_succ]
        refine' wpT_det (o := ⟨some 17, Op.binOp BinOp.sub 3 (Operand.tmp 16) (Operand.const (Value.int IntKind.i64 1)) 3, 3, "sort.go:44", #[{ on := 5, ground := Ground.data }], none⟩) rfl (by rfl) (by rfl) (fun w' hw' => ?_) ?_; rotate_left
        · go_simp <;> first | rfl | exact ⟨rfl, rfl⟩
        simp only [Act.put, List.setIfInBounds_toArray, List.set_cons_zero, List.set_cons_succ]
        refine' wpT_det (o := ⟨some 18, Op.indexAddr 22 (Operand.tmp 15) (Operand.tmp 17), 0, "sort.go:44", #[{ on := 4, ground := Ground.data }, { on := 6, ground := Ground.data }], none⟩) rfl (by rfl) (by rfl) (fun w' hw' => ?_) ?_; rotate_left
        · go_simp <;> first | rfl | exact ⟨rfl, rfl⟩
        simp only [Act.put, List.setIfInBounds_toArray, List.set_cons_zero, List.set_cons_succ]
        refine' wpT_det (o := ⟨some 19, Op.load 2 (Operand.tmp 18), 2, "sort.go:44", #[{ on := 7, ground := Ground.data }], none⟩) rfl (by rfl) (by rfl) (fun w' hw' => ?_) ?_; rotate_left
        · have hc_ := Ext.cell hw' hc; have hc'_ := Ext.cell hw' hc'; go_simp <;> first | rfl | exact ⟨rfl, rfl⟩
        simp only [Act.put, List.setIfInBounds_toArray, List.set_cons_zero, List.set_cons_succ]
        refine wpT_nd (o := ⟨some 20, Op.call { callee := Callee.value (Operand.func 140), args := #[Operand.tmp 14, Operand.tmp 19], argTypes := #[2, 2] }, 4, "sort.go:44", #[{ on := 3, ground := Ground.data }, { on := 8, ground := Ground.data }], none⟩) rfl (by rfl) (by rfl) (fun w' hw' hF R__ hGo => ?_) ⟨_, rfl⟩ ?_
        · go_simp
          refine gives_enter rfl ?_
          refine (cmpLess_any _ _ _).mono ?_
          rintro e w2 ⟨rfl, rfl⟩
          exact ⟨_, rfl, hGo _ _ (Ext.refl _) (congrArg Value.bool hl') trivial⟩
        intro v hv
        obtain rfl : v = (.bool true) := hv
        simp only [Act.put, List.setIfInBounds_toArray, List.set_cons_zero, List.set_cons_succ]
        refine wpT_nil (fun w' hw' hF => ?_)
        refine wpList_nil ?_
        go_wp2_with fail
        go_ret
        refine ⟨ret_bool ?_, hx.trans hw'.undrew⟩
        rw [Hres.out]
        cases h : srtB xs with
        | false => rfl
        | true =>
          have := srtB_iff.1 h (z - 1).toNat (by rw [HL.out]; omega)
          have e : ((z - 1).toNat : Int) = z - 1 := by omega
          rw [e] at this
          have e2 : z - 1 + 1 = z := by omega
          rw [e2] at this
          have := HLE.out
          omega
      · have hl' : decide (rd xs z < rd xs (z - 1)) = false := decide_eq_false hle
        have HLE := Lib.hid hle
        clear hle
        go_wp2_with fail
        refine wp_region_T (cs := []) [0, 1, 2, 3, 4, 5, 6, 7, 8, 9] [] [9] [] (fun i__ v => match i__ with | 9 => v = (.bool false) | _ => False) (fun _ _ _ => True) (by kernel_rfl) (by kernel_rfl) (fun _ _ _ _ _ _ => trivial) ?_
        refine' wpT_det (o := ⟨some 11, Op.move (Operand.tmp 0), 22, "sort.go:44", #[], none⟩) rfl (by rfl) (by rfl) (fun w' hw' => ?_) ?_; rotate_left
        · go_simp <;> first | rfl | exact ⟨rfl, rfl⟩
        simp only [Act.put, List.setIfInBounds_toArray, List.set_cons_zero, List.set_cons_succ]
        refine' wpT_det (o := ⟨some 12, Op.move (Operand.tmp 3), 3, "sort.go:44", #[], none⟩) rfl (by rfl) (by rfl) (fun w' hw' => ?_) ?_; rotate_left
        · go_simp <;> first | rfl | exact ⟨rfl, rfl⟩
        simp only [Act.put, List.setIfInBounds_toArray, List.set_cons_zero, List.set_cons_succ]
        refine' wpT_det (o := ⟨some 13, Op.indexAddr 22 (Operand.tmp 11) (Operand.tmp 12), 0, "sort.go:44", #[{ on := 0, ground := Ground.data }, { on := 1, ground := Ground.data }], none⟩) rfl (by rfl) (by rfl) (fun w' hw' => ?_) ?_; rotate_left
        · go_simp <;> first | rfl | exact ⟨rfl, rfl⟩
        simp only [Act.put, List.setIfInBounds_toArray, List.set_cons_zero, List.set_cons_succ]
        refine' wpT_det (o := ⟨some 14, Op.load 2 (Operand.tmp 13), 2, "sort.go:44", #[{ on := 2, ground := Ground.data }], none⟩) rfl (by rfl) (by rfl) (fun w' hw' => ?_) ?_; rotate_left
        · have hc_ := Ext.cell hw' hc; have hc'_ := Ext.cell hw' hc'; go_simp <;> first | rfl | exact ⟨rfl, rfl⟩
        simp only [Act.put, List.setIfInBounds_toArray, List.set_cons_zero, List.set_cons_succ]
        refine' wpT_det (o := ⟨some 15, Op.move (Operand.tmp 0), 22, "sort.go:44", #[], none⟩) rfl (by rfl) (by rfl) (fun w' hw' => ?_) ?_; rotate_left
        · go_simp <;> first | rfl | exact ⟨rfl, rfl⟩
        simp only [Act.put, List.setIfInBounds_toArray, List.set_cons_zero, List.set_cons_succ]
        refine' wpT_det (o := ⟨some 16, Op.move (Operand.tmp 3), 3, "sort.go:44", #[], none⟩) rfl (by rfl) (by rfl) (fun w' hw' => ?_) ?_; rotate_left
        · go_simp <;> first | rfl | exact ⟨rfl, rfl⟩
        simp only [Act.put, List.setIfInBounds_toArray, List.set_cons_zero, List.set_cons_succ]
        refine' wpT_det (o := ⟨some 17, Op.binOp BinOp.sub 3 (Operand.tmp 16) (Operand.const (Value.int IntKind.i64 1)) 3, 3, "sort.go:44", #[{ on := 5, ground := Ground.data }], none⟩) rfl (by rfl) (by rfl) (fun w' hw' => ?_) ?_; rotate_left
        · go_simp <;> first | rfl | exact ⟨rfl, rfl⟩
        simp only [Act.put, List.setIfInBounds_toArray, List.set_cons_zero, List.set_cons_succ]
        refine' wpT_det (o := ⟨some 18, Op.indexAddr 22 (Operand.tmp 15) (Operand.tmp 17), 0, "sort.go:44", #[{ on := 4, ground := Ground.data }, { on := 6, ground := Ground.data }], none⟩) rfl (by rfl) (by rfl) (fun w' hw' => ?_) ?_; rotate_left
        · go_simp <;> first | rfl | exact ⟨rfl, rfl⟩
        simp only [Act.put, List.setIfInBounds_toArray, List.set_cons_zero, List.set_cons_succ]
        refine' wpT_det (o := ⟨some 19, Op.load 2 (Operand.tmp 18), 2, "sort.go:44", #[{ on := 7, ground := Ground.data }], none⟩) rfl (by rfl) (by rfl) (fun w' hw' => ?_) ?_; rotate_left
        · have hc_ := Ext.cell hw' hc; have hc'_ := Ext.cell hw' hc'; go_simp <;> first | rfl | exact ⟨rfl, rfl⟩
        simp only [Act.put, List.setIfInBounds_toArray, List.set_cons_zero, List.set_cons_succ]
        refine wpT_nd (o := ⟨some 20, Op.call { callee := Callee.value (Operand.func 140), args := #[Operand.tmp 14, Operand.tmp 19], argTypes := #[2, 2] }, 4, "sort.go:44", #[{ on := 3, ground := Ground.data }, { on := 8, ground := Ground.data }], none⟩) rfl (by rfl) (by rfl) (fun w' hw' hF R__ hGo => ?_) ⟨_, rfl⟩ ?_
        · go_simp
          refine gives_enter rfl ?_
          refine (cmpLess_any _ _ _).mono ?_
          rintro e w2 ⟨rfl, rfl⟩
          exact ⟨_, rfl, hGo _ _ (Ext.refl _) (congrArg Value.bool hl') trivial⟩
        intro v hv
        obtain rfl : v = (.bool false) := hv
        simp only [Act.put, List.setIfInBounds_toArray, List.set_cons_zero, List.set_cons_succ]
        refine wpT_nil (fun w' hw' hF => ?_)
        refine wpList_nil ?_
        go_wp2_with fail
        go_roundw
        case rel =>
          refine ⟨z - 1, by omega, rfl, fun j h1 h2 => ?_, hx.trans hw'.undrew⟩
          by_cases e : z ≤ j
          · exact hso.out j e h2
          · have e1 : (j : Int) = z - 1 := by omega
            rw [e1]
            have e2 : z - 1 + 1 = z := by omega
            rw [e2]
            have := HLE.out
            omega
        case measure => simp [intOf]; omega
    · have hz1 : ¬ z > 0 := hlt
      go_wp2_with fail
      go_ret
      refine ⟨ret_bool ?_, hx⟩
      rw [Hres.out]
      refine (srtB_iff.2 fun j hj => hso.out j (by omega) ?_).symm
      rw [HL.out] at hj
      exact hj

end Go.Proofs.Ytkifpligpobiaaa
