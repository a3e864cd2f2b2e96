import Derived.Test.YtcfimkjkolgboaaE4
import Derived.Test.YtcfimkjkolgboaaE5
set_option linter.unusedVariables false
set_option linter.unusedSimpArgs false
namespace Go.Proofs.Ytcfimkjkolgboaa
open Go.RowKit

set_option maxHeartbeats 1000000 in
theorem mulWholes1_any (b b' R K C i k n n' cap cap' : Nat) (A A' : Option Addr) (xs ys : List Int) (w : World) (hi : i < R) (hk : k < C) (hR : R ≤ 6) (hK : K ≤ 6) (hC : C ≤ 6) (hn : n = R * K) (hn' : n' = K * C)
    (ha : WAt w b R K A n cap xs) (ha' : WAt w b' K C A' n' cap' ys) :
    Calls Try.prog 90 #[.int .i64 i, .int .i64 k, .pointer (some ⟨b, 0, none⟩), .pointer (some ⟨b', 0, none⟩)] w fun e w' => e = .returned (.int .i64 (mulS xs ys K C i k)) ∧ Ext w w' := by
  have Hn := Lib.hid hn
  have Hn' := Lib.hid hn'
  clear hn hn'
  obtain ⟨F, hF⟩ : ∃ F : Nat → Int, F = sumW (fun j => at_ xs K i j * at_ ys C j k) := ⟨_, rfl⟩
  have e0 : mulS xs ys K C i k = F K := by rw [hF]; rfl
  have e1 : F 0 = 0 := by rw [hF]; rfl
  have e2 : ∀ j, F (j + 1) = IntKind.i64.wrap (F j + IntKind.i64.wrap (at_ xs K i j * at_ ys C j k)) := by intro j; rw [hF]; rfl
  rw [e0]
  have E1 := Lib.hid e1
  have E2 : Hid (∀ j, F (j + 1) = IntKind.i64.wrap (F j + IntKind.i64.wrap (at_ xs K i j * at_ ys C j k))) := e2
  clear e0 e1 e2 hF
  have c1 := ha.c1
  go_enter Try.func90, Try.ntmps90
  go_wp2_with fail
  clear c1
  go_loopw [7, 11] (fun u v wr => ∃ j : Nat, j ≤ K ∧ u = .int .i64 (F j) ∧ v = .int .i64 j ∧ Ext w wr) (fun _ v _ => K - (intOf v).toNat)
  case atStart => exact ⟨0, Nat.zero_le _, by rw [E1.out], rfl, Ext.refl _⟩
  case round =>
    obtain ⟨j, hj, rfl, rfl, hx⟩ := hrel
    by_cases hlt : j < K
    · obtain ⟨c0, c1, c2, hr⟩ := ha.ext hx
      obtain ⟨d0, d1, d2, hq⟩ := ha'.ext hx
      have he := E2.out j
      obtain ⟨x, hxx⟩ : ∃ x, x = at_ xs K i j := ⟨_, rfl⟩
      obtain ⟨y, hyy⟩ : ∃ y, y = at_ ys C j k := ⟨_, rfl⟩
      obtain ⟨z, hzz⟩ : ∃ z, z = F j := ⟨_, rfl⟩
      rw [← hxx, ← hyy, ← hzz] at he
      rw [← hzz]
      have He := Lib.hid he
      have HX := Lib.hid hxx
      have HY := Lib.hid hyy
      clear he hxx hyy hzz
      go_wp2_with fail
      refine wp_region_T [0, 1, 2, 3, 4, 5, 6, 7, 8, 9, 10, 11] [] [4, 8] [] (fun i__ v => match i__ with | 4 => v = (.int .i64 x) | 8 => v = (.int .i64 y) | _ => False) (fun _ _ _ => True) (by kernel_rfl) (by kernel_rfl) (fun _ _ _ _ _ _ => trivial) ?_
      refine' wpT_det (o := ⟨some 14, Op.move (Operand.tmp 7), 2, "l06_integers.go:86", #[], none⟩) rfl (by rfl) (by rfl) (fun w' hw' => ?_) ?_; rotate_left
      · go_simp <;> first | rfl | exact ⟨rfl, rfl⟩
      simp only [Act.put, List.setIfInBounds_toArray, List.set_cons_zero, List.set_cons_succ]
      refine' wpT_det (o := ⟨some 15, Op.load 31 (Operand.tmp 2), 31, "l06_integers.go:86", #[], none⟩) rfl (by rfl) (by rfl) (fun w' hw' => ?_) ?_; rotate_left
      · have c0_ := Ext.cell hw' c0; have c1_ := Ext.cell hw' c1; have c2_ := Ext.cell hw' c2; have d0_ := Ext.cell hw' d0; have d1_ := Ext.cell hw' d1; have d2_ := Ext.cell hw' d2; go_simp <;> first | rfl | exact ⟨rfl, rfl⟩
      simp only [Act.put, List.setIfInBounds_toArray, List.set_cons_zero, List.set_cons_succ]
      refine' wpT_det (o := ⟨some 16, Op.move (Operand.tmp 0), 2, "l06_integers.go:86", #[], none⟩) rfl (by rfl) (by rfl) (fun w' hw' => ?_) ?_; rotate_left
      · go_simp <;> first | rfl | exact ⟨rfl, rfl⟩
      simp only [Act.put, List.setIfInBounds_toArray, List.set_cons_zero, List.set_cons_succ]
      refine' wpT_det (o := ⟨some 17, Op.move (Operand.tmp 8), 2, "l06_integers.go:86", #[], none⟩) rfl (by rfl) (by rfl) (fun w' hw' => ?_) ?_; rotate_left
      · go_simp <;> first | rfl | exact ⟨rfl, rfl⟩
      simp only [Act.put, List.setIfInBounds_toArray, List.set_cons_zero, List.set_cons_succ]
      refine wpT_nd (o := ⟨some 18, Op.call { callee := Callee.value (Operand.func 78), args := #[Operand.tmp 15, Operand.tmp 16, Operand.tmp 17], argTypes := #[31, 2, 2] }, 2, "l06_integers.go:86", #[{ on := 1, ground := Ground.data }, { on := 2, ground := Ground.data }, { on := 3, ground := Ground.data }], none⟩) rfl (by rfl) (by rfl) (fun w' hw' hF R__ hGo => ?_) ⟨_, rfl⟩ ?_
      · go_simp
        refine gives_enter rfl ?_
        refine (at_any R K i j n cap A xs _ hi hlt hR hK Hn.out (hr.below hw'.undrew)).mono ?_
        rintro e w2 ⟨rfl, hx⟩
        exact ⟨_, rfl, hGo _ _ hx (congrArg (Value.int .i64) HX.out.symm) trivial⟩
      intro v hv
      obtain rfl : v = (.int .i64 x) := hv
      simp only [Act.put, List.setIfInBounds_toArray, List.set_cons_zero, List.set_cons_succ]
      refine' wpT_det (o := ⟨some 19, Op.load 31 (Operand.tmp 3), 31, "l06_integers.go:86", #[], none⟩) rfl (by rfl) (by rfl) (fun w' hw' => ?_) ?_; rotate_left
      · have c0_ := Ext.cell hw' c0; have c1_ := Ext.cell hw' c1; have c2_ := Ext.cell hw' c2; have d0_ := Ext.cell hw' d0; have d1_ := Ext.cell hw' d1; have d2_ := Ext.cell hw' d2; go_simp <;> first | rfl | exact ⟨rfl, rfl⟩
      simp only [Act.put, List.setIfInBounds_toArray, List.set_cons_zero, List.set_cons_succ]
      refine' wpT_det (o := ⟨some 20, Op.move (Operand.tmp 8), 2, "l06_integers.go:86", #[], none⟩) rfl (by rfl) (by rfl) (fun w' hw' => ?_) ?_; rotate_left
      · go_simp <;> first | rfl | exact ⟨rfl, rfl⟩
      simp only [Act.put, List.setIfInBounds_toArray, List.set_cons_zero, List.set_cons_succ]
      refine' wpT_det (o := ⟨some 21, Op.move (Operand.tmp 1), 2, "l06_integers.go:86", #[], none⟩) rfl (by rfl) (by rfl) (fun w' hw' => ?_) ?_; rotate_left
      · go_simp <;> first | rfl | exact ⟨rfl, rfl⟩
      simp only [Act.put, List.setIfInBounds_toArray, List.set_cons_zero, List.set_cons_succ]
      refine wpT_nd (o := ⟨some 22, Op.call { callee := Callee.value (Operand.func 78), args := #[Operand.tmp 19, Operand.tmp 20, Operand.tmp 21], argTypes := #[31, 2, 2] }, 2, "l06_integers.go:86", #[{ on := 5, ground := Ground.data }, { on := 6, ground := Ground.data }, { on := 7, ground := Ground.data }, { on := 4, ground := Ground.chain }], none⟩) rfl (by rfl) (by rfl) (fun w' hw' hF R__ hGo => ?_) ⟨_, rfl⟩ ?_
      · go_simp
        refine gives_enter rfl ?_
        refine (at_any K C j k n' cap' A' ys _ hlt hk hK hC Hn'.out (hq.below hw'.undrew)).mono ?_
        rintro e w2 ⟨rfl, hx⟩
        exact ⟨_, rfl, hGo _ _ hx (congrArg (Value.int .i64) HY.out.symm) trivial⟩
      intro v hv
      obtain rfl : v = (.int .i64 y) := hv
      simp only [Act.put, List.setIfInBounds_toArray, List.set_cons_zero, List.set_cons_succ]
      refine' wpT_det (o := ⟨some 23, Op.binOp BinOp.mul 2 (Operand.tmp 18) (Operand.tmp 22) 2, 2, "l06_integers.go:86", #[{ on := 4, ground := Ground.data }, { on := 8, ground := Ground.data }], none⟩) rfl (by rfl) (by rfl) (fun w' hw' => ?_) ?_; rotate_left
      · go_simp <;> first | rfl | exact ⟨rfl, rfl⟩
      simp only [Act.put, List.setIfInBounds_toArray, List.set_cons_zero, List.set_cons_succ]
      refine' wpT_det (o := ⟨some 24, Op.binOp BinOp.add 2 (Operand.tmp 14) (Operand.tmp 23) 2, 2, "l06_integers.go:86", #[{ on := 0, ground := Ground.data }, { on := 9, ground := Ground.data }], none⟩) rfl (by rfl) (by rfl) (fun w' hw' => ?_) ?_; rotate_left
      · go_simp <;> first | rfl | exact ⟨rfl, rfl⟩
      simp only [Act.put, List.setIfInBounds_toArray, List.set_cons_zero, List.set_cons_succ]
      refine' wpT_det (o := ⟨some 7, Op.assign (Operand.tmp 24), 2, "l06_integers.go:86", #[{ on := 10, ground := Ground.data }, { on := 8, ground := Ground.chain }, { on := 0, ground := Ground.phase }, { on := 1, ground := Ground.phase }, { on := 2, ground := Ground.phase }, { on := 3, ground := Ground.phase }, { on := 4, ground := Ground.phase }, { on := 5, ground := Ground.phase }, { on := 6, ground := Ground.phase }, { on := 7, ground := Ground.phase }, { on := 8, ground := Ground.phase }, { on := 9, ground := Ground.phase }, { on := 10, ground := Ground.phase }], none⟩) rfl (by rfl) (by rfl) (fun w' hw' => ?_) ?_; rotate_left
      · go_simp <;> first | rfl | exact ⟨rfl, rfl⟩
      simp only [Act.put, List.setIfInBounds_toArray, List.set_cons_zero, List.set_cons_succ]
      refine wpT_nil (fun w' hw' hF => ?_)
      refine wpList_nil ?_
      go_wp2_with fail
      go_roundw
      case rel => exact ⟨j + 1, by omega, by rw [He.out], by go_num, hx.trans hw'.undrew⟩
      case measure => simp [intOf]; omega
    · obtain rfl : j = K := by omega
      go_wp2_with fail
      go_ret
      exact ⟨rfl, hx⟩

end Go.Proofs.Ytcfimkjkolgboaa
