import Derived.Test.YtgjfdfmbknmpaaaM19
set_option linter.unusedVariables false
set_option linter.unusedSimpArgs false
namespace Go.Proofs.Ytgjfdfmbknmpaaa
open Go.RowKit

set_option maxRecDepth 20000 in
set_option maxHeartbeats 2000000 in
theorem implIsSymmetric_any (r c : Int) (A : Option Addr) (n cap : Nat) (xs : List Nat) (w : World) (hr : Rds w A n (flts xs)) :
    Calls Try.prog 38 #[.agg #[.int .i64 r, .int .i64 c, .slice A n cap]] w fun e w' => e = .returned (.bool (isSymB r c xs)) ∧ Ext w w' := by
  have HL := Lib.hid hr.flen
  cases hv : isSq r c xs with
  | false =>
    have hd : isSymB r c xs = false := by simp [isSymB, hv]
    rw [hd]
    go_enter Try.func38, Try.ntmps38
    go_upto_region 1 with (fail)
    obtain ⟨w0, hw0⟩ : ∃ w0, w0 = (w.alloc (.cells #[.int .i64 r, .int .i64 c, .slice A n cap] 35)) := ⟨_, rfl⟩
    have hx0 : Ext w w0 := by subst hw0; exact (Ext.refl _).alloc _
    have ba : Blk w0 (w.heap.size) #[.int .i64 r, .int .i64 c, .slice A n cap] 35 := by subst hw0; exact (Blk.new w _ _)
    rw [← hw0]
    clear hw0
    obtain ⟨c0, c1, c2, hr1⟩ := MAt.blk ba (hr.below hx0)
    go_wp2_with fail
    refine (isSquare_any r c A n cap xs _ hr1).mono ?_
    rintro e w1 ⟨rfl, hx⟩
    rw [hv]
    replace hx0 := hx0.trans hx
    clear c0 c1 c2 hx
    go_wp2_with fail
    go_ret
    exact ⟨rfl, hx0⟩
  | true =>
    obtain ⟨hv', rfl⟩ := sq_nat hv
    obtain ⟨R, C, rfl, e1, u1, hC12, _, _, u5⟩ := mat_nat hv'
    obtain rfl : C = R := by omega
    have Hn : Hid (n = C * C) := by have := HL.out; show n = _; omega
    obtain ⟨d, hd⟩ : ∃ d, d = isSymB C C xs := ⟨_, rfl⟩
    have Hd := Lib.hid hd
    rw [← hd]
    clear u5 e1 hd
    go_enter Try.func38, Try.ntmps38
    go_upto_region 1 with (fail)
    obtain ⟨w0, hw0⟩ : ∃ w0, w0 = (w.alloc (.cells #[.int .i64 C, .int .i64 C, .slice A n cap] 35)) := ⟨_, rfl⟩
    have hx0 : Ext w w0 := by subst hw0; exact (Ext.refl _).alloc _
    have ba : Blk w0 (w.heap.size) #[.int .i64 C, .int .i64 C, .slice A n cap] 35 := by subst hw0; exact (Blk.new w _ _)
    rw [← hw0]
    clear hw0
    obtain ⟨c0, c1, c2, hr1⟩ := MAt.blk ba (hr.below hx0)
    go_wp2_with fail
    refine (isSquare_any _ _ A n cap xs _ hr1).mono ?_
    rintro e w1 ⟨rfl, hx⟩
    rw [hv]
    replace ba := ba.ext hx
    replace hx0 := hx0.trans hx
    clear c0 c1 c2 hr1 hx
    obtain ⟨c0, c1, c2, hr1⟩ := MAt.blk ba (hr.below hx0)
    go_wp2_with fail
    go_loopw [10] (fun v wr => ∃ i : Nat, i ≤ C ∧ v = .int .i64 i ∧ Hid (∀ a b, a < i → b < a → sameAt xs C a b = true) ∧ Ext w1 wr) (fun v _ => C - (intOf v).toNat)
    case atStart => exact ⟨0, Nat.zero_le _, rfl, fun a b ha _ => by omega, Ext.refl _⟩
    case round =>
      clear c0 c1 c2 hr1
      obtain ⟨i, hi, rfl, hall, hx⟩ := hrel
      by_cases hlt : i < C
      · go_wp2_with fail
        go_loopw [14] (fun v wr => ∃ k : Nat, k ≤ i ∧ v = .int .i64 k ∧ Hid (∀ b, b < k → sameAt xs C i b = true) ∧ Ext w1 wr) (fun v _ => i - (intOf v).toNat)
        case atStart => exact ⟨0, Nat.zero_le _, rfl, fun b hb => by omega, hx⟩
        case round =>
          clear hx
          obtain ⟨k, hk, rfl, hrow, hx⟩ := hrel
          obtain ⟨c0, c1, c2, hr1⟩ := (MAt.blk ba (hr.below hx0)).ext hx
          by_cases hlk : k < i
          · have hkC : k < C := by omega
            cases hs : sameAt xs C i k with
            | true =>
              have hs' : (FloatKind.f32.format.order (at_ xs C i k) (at_ xs C k i) != some .eq) = false := by unfold sameAt at hs; simp only [bne, hs]; rfl
              go_upto_region 9 with (fail)
              refine wp_region_T (cs := []) [0, 1, 2, 3, 4, 5, 6, 7, 8] [] [3, 7] [] (fun i__ v => match i__ with | 3 => v = (.float .f32 (at_ xs C i k)) | 7 => v = (.float .f32 (at_ xs C k i)) | _ => False) (fun _ _ _ => True) (by kernel_rfl) (by kernel_rfl) (fun _ _ _ _ _ _ => trivial) ?_
              refine' wpT_det (o := ⟨some 17, Op.load 35 (Operand.tmp 1), 35, "l04_values.go:154", #[], none⟩) rfl (by rfl) (by rfl) (fun w' hw' => ?_) ?_; rotate_left
              · have c0_ := Ext.cell hw' c0; have c1_ := Ext.cell hw' c1; have c2_ := Ext.cell hw' c2; go_simp <;> first | rfl | exact ⟨rfl, rfl⟩
              simp only [Act.put, List.setIfInBounds_toArray, List.set_cons_zero, List.set_cons_succ]
              refine' wpT_det (o := ⟨some 18, Op.move (Operand.tmp 3), 2, "l04_values.go:154", #[], none⟩) rfl (by rfl) (by rfl) (fun w' hw' => ?_) ?_; rotate_left
              · go_simp <;> first | rfl | exact ⟨rfl, rfl⟩
              simp only [Act.put, List.setIfInBounds_toArray, List.set_cons_zero, List.set_cons_succ]
              refine' wpT_det (o := ⟨some 19, Op.move (Operand.tmp 4), 2, "l04_values.go:154", #[], none⟩) rfl (by rfl) (by rfl) (fun w' hw' => ?_) ?_; rotate_left
              · go_simp <;> first | rfl | exact ⟨rfl, rfl⟩
              simp only [Act.put, List.setIfInBounds_toArray, List.set_cons_zero, List.set_cons_succ]
              refine wpT_nd (o := ⟨some 20, Op.call { callee := Callee.value (Operand.func 105), args := #[Operand.tmp 17, Operand.tmp 18, Operand.tmp 19], argTypes := #[35, 2, 2] }, 39, "l04_values.go:154", #[{ on := 0, ground := Ground.data }, { on := 1, ground := Ground.data }, { on := 2, ground := Ground.data }], none⟩) rfl (by rfl) (by rfl) (fun w' hw' hF R__ hGo => ?_) ⟨_, rfl⟩ ?_
              · go_simp
                refine gives_enter rfl ?_
                refine (at_any C C i k n cap A xs _ hlt hkC hC12 hC12 Hn.out (hr1.below hw'.undrew)).mono ?_
                rintro e w2 ⟨rfl, hx⟩
                exact ⟨_, rfl, hGo _ _ hx rfl trivial⟩
              intro v hv
              obtain rfl : v = (.float .f32 (at_ xs C i k)) := hv
              simp only [Act.put, List.setIfInBounds_toArray, List.set_cons_zero, List.set_cons_succ]
              refine' wpT_det (o := ⟨some 21, Op.load 35 (Operand.tmp 1), 35, "l04_values.go:154", #[], none⟩) rfl (by rfl) (by rfl) (fun w' hw' => ?_) ?_; rotate_left
              · have c0_ := Ext.cell hw' c0; have c1_ := Ext.cell hw' c1; have c2_ := Ext.cell hw' c2; go_simp <;> first | rfl | exact ⟨rfl, rfl⟩
              simp only [Act.put, List.setIfInBounds_toArray, List.set_cons_zero, List.set_cons_succ]
              refine' wpT_det (o := ⟨some 22, Op.move (Operand.tmp 4), 2, "l04_values.go:154", #[], none⟩) rfl (by rfl) (by rfl) (fun w' hw' => ?_) ?_; rotate_left
              · go_simp <;> first | rfl | exact ⟨rfl, rfl⟩
              simp only [Act.put, List.setIfInBounds_toArray, List.set_cons_zero, List.set_cons_succ]
              refine' wpT_det (o := ⟨some 23, Op.move (Operand.tmp 3), 2, "l04_values.go:154", #[], none⟩) rfl (by rfl) (by rfl) (fun w' hw' => ?_) ?_; rotate_left
              · go_simp <;> first | rfl | exact ⟨rfl, rfl⟩
              simp only [Act.put, List.setIfInBounds_toArray, List.set_cons_zero, List.set_cons_succ]
              refine wpT_nd (o := ⟨some 24, Op.call { callee := Callee.value (Operand.func 105), args := #[Operand.tmp 21, Operand.tmp 22, Operand.tmp 23], argTypes := #[35, 2, 2] }, 39, "l04_values.go:154", #[{ on := 4, ground := Ground.data }, { on := 5, ground := Ground.data }, { on := 6, ground := Ground.data }, { on := 3, ground := Ground.chain }], none⟩) rfl (by rfl) (by rfl) (fun w' hw' hF R__ hGo => ?_) ⟨_, rfl⟩ ?_
              · go_simp
                refine gives_enter rfl ?_
                refine (at_any C C k i n cap A xs _ hkC hlt hC12 hC12 Hn.out (hr1.below hw'.undrew)).mono ?_
                rintro e w2 ⟨rfl, hx⟩
                exact ⟨_, rfl, hGo _ _ hx rfl trivial⟩
              intro v hv
              obtain rfl : v = (.float .f32 (at_ xs C k i)) := hv
              simp only [Act.put, List.setIfInBounds_toArray, List.set_cons_zero, List.set_cons_succ]
              refine' wpT_det (o := ⟨some 25, Op.binOp BinOp.neq 39 (Operand.tmp 20) (Operand.tmp 24) 39, 4, "l04_values.go:154", #[{ on := 3, ground := Ground.data }, { on := 7, ground := Ground.data }], none⟩) rfl (by rfl) (by rfl) (fun w' hw' => ?_) ?_; rotate_left
              · go_simp <;> first | rfl | exact ⟨rfl, rfl⟩
              simp only [Act.put, List.setIfInBounds_toArray, List.set_cons_zero, List.set_cons_succ]
              refine wpT_nil (fun w' hw' hF => ?_)
              refine wpList_nil ?_
              have hx2 := hw'.undrew
              clear hF hw' c0 c1 c2 hr1
              go_wp2_with fail
              go_roundw
              case rel => exact ⟨k + 1, by omega, by go_num, fun b hb => if e : b = k then (by subst e; exact hs) else hrow.out b (by omega), hx.trans hx2⟩
              case measure => simp [intOf]; omega
            | false =>
              have hs' : (FloatKind.f32.format.order (at_ xs C i k) (at_ xs C k i) != some .eq) = true := by unfold sameAt at hs; simp only [bne, hs]; rfl
              go_upto_region 9 with (fail)
              refine wp_region_T (cs := []) [0, 1, 2, 3, 4, 5, 6, 7, 8] [] [3, 7] [] (fun i__ v => match i__ with | 3 => v = (.float .f32 (at_ xs C i k)) | 7 => v = (.float .f32 (at_ xs C k i)) | _ => False) (fun _ _ _ => True) (by kernel_rfl) (by kernel_rfl) (fun _ _ _ _ _ _ => trivial) ?_
              refine' wpT_det (o := ⟨some 17, Op.load 35 (Operand.tmp 1), 35, "l04_values.go:154", #[], none⟩) rfl (by rfl) (by rfl) (fun w' hw' => ?_) ?_; rotate_left
              · have c0_ := Ext.cell hw' c0; have c1_ := Ext.cell hw' c1; have c2_ := Ext.cell hw' c2; go_simp <;> first | rfl | exact ⟨rfl, rfl⟩
              simp only [Act.put, List.setIfInBounds_toArray, List.set_cons_zero, List.set_cons_succ]
              refine' wpT_det (o := ⟨some 18, Op.move (Operand.tmp 3), 2, "l04_values.go:154", #[], none⟩) rfl (by rfl) (by rfl) (fun w' hw' => ?_) ?_; rotate_left
              · go_simp <;> first | rfl | exact ⟨rfl, rfl⟩
              simp only [Act.put, List.setIfInBounds_toArray, List.set_cons_zero, List.set_cons_succ]
              refine' wpT_det (o := ⟨some 19, Op.move (Operand.tmp 4), 2, "l04_values.go:154", #[], none⟩) rfl (by rfl) (by rfl) (fun w' hw' => ?_) ?_; rotate_left
              · go_simp <;> first | rfl | exact ⟨rfl, rfl⟩
              simp only [Act.put, List.setIfInBounds_toArray, List.set_cons_zero, List.set_cons_succ]
              refine wpT_nd (o := ⟨some 20, Op.call { callee := Callee.value (Operand.func 105), args := #[Operand.tmp 17, Operand.tmp 18, Operand.tmp 19], argTypes := #[35, 2, 2] }, 39, "l04_values.go:154", #[{ on := 0, ground := Ground.data }, { on := 1, ground := Ground.data }, { on := 2, ground := Ground.data }], none⟩) rfl (by rfl) (by rfl) (fun w' hw' hF R__ hGo => ?_) ⟨_, rfl⟩ ?_
              · go_simp
                refine gives_enter rfl ?_
                refine (at_any C C i k n cap A xs _ hlt hkC hC12 hC12 Hn.out (hr1.below hw'.undrew)).mono ?_
                rintro e w2 ⟨rfl, hx⟩
                exact ⟨_, rfl, hGo _ _ hx rfl trivial⟩
              intro v hv
              obtain rfl : v = (.float .f32 (at_ xs C i k)) := hv
              simp only [Act.put, List.setIfInBounds_toArray, List.set_cons_zero, List.set_cons_succ]
              refine' wpT_det (o := ⟨some 21, Op.load 35 (Operand.tmp 1), 35, "l04_values.go:154", #[], none⟩) rfl (by rfl) (by rfl) (fun w' hw' => ?_) ?_; rotate_left
              · have c0_ := Ext.cell hw' c0; have c1_ := Ext.cell hw' c1; have c2_ := Ext.cell hw' c2; go_simp <;> first | rfl | exact ⟨rfl, rfl⟩
              simp only [Act.put, List.setIfInBounds_toArray, List.set_cons_zero, List.set_cons_succ]
              refine' wpT_det (o := ⟨some 22, Op.move (Operand.tmp 4), 2, "l04_values.go:154", #[], none⟩) rfl (by rfl) (by rfl) (fun w' hw' => ?_) ?_; rotate_left
              · go_simp <;> first | rfl | exact ⟨rfl, rfl⟩
              simp only [Act.put, List.setIfInBounds_toArray, List.set_cons_zero, List.set_cons_succ]
              refine' wpT_det (o := ⟨some 23, Op.move (Operand.tmp 3), 2, "l04_values.go:154", #[], none⟩) rfl (by rfl) (by rfl) (fun w' hw' => ?_) ?_; rotate_left
              · go_simp <;> first | rfl | exact ⟨rfl, rfl⟩
              simp only [Act.put, List.setIfInBounds_toArray, List.set_cons_zero, List.set_cons_succ]
              refine wpT_nd (o := ⟨some 24, Op.call { callee := Callee.value (Operand.func 105), args := #[Operand.tmp 21, Operand.tmp 22, Operand.tmp 23], argTypes := #[35, 2, 2] }, 39, "l04_values.go:154", #[{ on := 4, ground := Ground.data }, { on := 5, ground := Ground.data }, { on := 6, ground := Ground.data }, { on := 3, ground := Ground.chain }], none⟩) rfl (by rfl) (by rfl) (fun w' hw' hF R__ hGo => ?_) ⟨_, rfl⟩ ?_
              · go_simp
                refine gives_enter rfl ?_
                refine (at_any C C k i n cap A xs _ hkC hlt hC12 hC12 Hn.out (hr1.below hw'.undrew)).mono ?_
                rintro e w2 ⟨rfl, hx⟩
                exact ⟨_, rfl, hGo _ _ hx rfl trivial⟩
              intro v hv
              obtain rfl : v = (.float .f32 (at_ xs C k i)) := hv
              simp only [Act.put, List.setIfInBounds_toArray, List.set_cons_zero, List.set_cons_succ]
              refine' wpT_det (o := ⟨some 25, Op.binOp BinOp.neq 39 (Operand.tmp 20) (Operand.tmp 24) 39, 4, "l04_values.go:154", #[{ on := 3, ground := Ground.data }, { on := 7, ground := Ground.data }], none⟩) rfl (by rfl) (by rfl) (fun w' hw' => ?_) ?_; rotate_left
              · go_simp <;> first | rfl | exact ⟨rfl, rfl⟩
              simp only [Act.put, List.setIfInBounds_toArray, List.set_cons_zero, List.set_cons_succ]
              refine wpT_nil (fun w' hw' hF => ?_)
              refine wpList_nil ?_
              have hx2 := hw'.undrew
              clear hF hw' c0 c1 c2 hr1
              go_wp2_with fail
              go_ret
              exact ⟨ret_bool (by rw [Hd.out, sym_false hlt hlk hs]), (hx0.trans hx).trans hx2⟩
          · obtain rfl : k = i := by omega
            clear c0 c1 c2 hr1
            go_wp2_with fail
            go_roundw
            case rel => exact ⟨k + 1, by omega, by go_num, fun a b ha hb => if e : a = k then (by subst e; exact hrow.out b hb) else hall.out a b (by omega) hb, hx⟩
            case measure => simp [intOf]; omega
      · obtain rfl : i = C := by omega
        go_wp2_with fail
        go_ret
        exact ⟨ret_bool (by rw [Hd.out, sym_true hv (fun a b ha hb => hall.out a b ha hb)]), hx0.trans hx⟩

set_option maxRecDepth 20000 in
set_option maxHeartbeats 2000000 in
theorem l04Symmetric_any (b : Nat) (r c : Int) (A : Option Addr) (n cap : Nat) (xs : List Nat) (w : World) (ha : MAt w b r c A n cap xs) :
    Calls Try.prog 103 #[.pointer (some ⟨b, 0, none⟩)] w fun e w' => e = .returned (.bool (isSymB r c xs)) ∧ Ext w w' := by
  have HL := Lib.hid ha.rds.flen
  have hx0 : Ext w w := Ext.refl _
  cases hv : isSq r c xs with
  | false =>
    have hd : isSymB r c xs = false := by simp [isSymB, hv]
    rw [hd]
    go_enter Try.func103, Try.ntmps103
    go_upto_region 1 with (fail)
    go_wp2_with fail
    refine (l02Square_any b r c A n cap xs _ ha).mono ?_
    rintro e w1 ⟨rfl, hx⟩
    rw [hv]
    replace hx0 := hx0.trans hx
    clear  hx
    go_wp2_with fail
    go_ret
    exact ⟨rfl, hx0⟩
  | true =>
    obtain ⟨hv', rfl⟩ := sq_nat hv
    obtain ⟨R, C, rfl, e1, u1, hC12, _, _, u5⟩ := mat_nat hv'
    obtain rfl : C = R := by omega
    have Hn : Hid (n = C * C) := by have := HL.out; show n = _; omega
    obtain ⟨d, hd⟩ : ∃ d, d = isSymB C C xs := ⟨_, rfl⟩
    have Hd := Lib.hid hd
    rw [← hd]
    clear u5 e1 hd
    go_enter Try.func103, Try.ntmps103
    go_upto_region 1 with (fail)
    go_wp2_with fail
    refine (l02Square_any b _ _ A n cap xs _ ha).mono ?_
    rintro e w1 ⟨rfl, hx⟩
    rw [hv]
    replace hx0 := hx0.trans hx
    clear  hx
    go_wp2_with fail
    go_loopw [3] (fun v wr => ∃ i : Nat, i ≤ C ∧ v = .int .i64 i ∧ Hid (∀ a b, a < i → b < a → sameAt xs C a b = true) ∧ Ext w wr) (fun v _ => C - (intOf v).toNat)
    case atStart => exact ⟨0, Nat.zero_le _, rfl, fun a b ha _ => by omega, hx0⟩
    case round =>
      obtain ⟨i, hi, rfl, hall, hx⟩ := hrel
      have c0 := (ha.ext hx).c0
      by_cases hlt : i < C
      · go_wp2_with fail
        go_loopw [4] (fun v wr => ∃ k : Nat, k ≤ i ∧ v = .int .i64 k ∧ Hid (∀ b, b < k → sameAt xs C i b = true) ∧ Ext w wr) (fun v _ => i - (intOf v).toNat)
        case atStart => exact ⟨0, Nat.zero_le _, rfl, fun b hb => by omega, hx⟩
        case round =>
          clear hx c0
          obtain ⟨k, hk, rfl, hrow, hx⟩ := hrel
          by_cases hlk : k < i
          · have hkC : k < C := by omega
            cases hs : sameAt xs C i k with
            | true =>
              have hs' : (FloatKind.f32.format.order (at_ xs C i k) (at_ xs C k i) != some .eq) = false := by unfold sameAt at hs; simp only [bne, hs]; rfl
              go_wp2_with fail
              refine (l02At_any b C C i k n cap A xs _ hlt hkC hC12 hC12 Hn.out (ha.ext hx)).mono ?_
              rintro e w2 ⟨rfl, hx2⟩
              replace hx := hx.trans hx2
              clear hx2
              go_wp2_with fail
              refine (l02At_any b C C k i n cap A xs _ hkC hlt hC12 hC12 Hn.out (ha.ext hx)).mono ?_
              rintro e w3 ⟨rfl, hx2⟩
              replace hx := hx.trans hx2
              clear hx2
              go_wp2_with fail
              go_roundw
              case rel => exact ⟨k + 1, by omega, by go_num, fun b hb => if e : b = k then (by subst e; exact hs) else hrow.out b (by omega), hx⟩
              case measure => simp [intOf]; omega
            | false =>
              have hs' : (FloatKind.f32.format.order (at_ xs C i k) (at_ xs C k i) != some .eq) = true := by unfold sameAt at hs; simp only [bne, hs]; rfl
              go_wp2_with fail
              refine (l02At_any b C C i k n cap A xs _ hlt hkC hC12 hC12 Hn.out (ha.ext hx)).mono ?_
              rintro e w2 ⟨rfl, hx2⟩
              replace hx := hx.trans hx2
              clear hx2
              go_wp2_with fail
              refine (l02At_any b C C k i n cap A xs _ hkC hlt hC12 hC12 Hn.out (ha.ext hx)).mono ?_
              rintro e w3 ⟨rfl, hx2⟩
              replace hx := hx.trans hx2
              clear hx2
              go_wp2_with fail
              go_ret
              exact ⟨ret_bool (by rw [Hd.out, sym_false hlt hlk hs]), hx⟩
          · obtain rfl : k = i := by omega
            go_wp2_with fail
            go_roundw
            case rel => exact ⟨k + 1, by omega, by go_num, fun a b ha hb => if e : a = k then (by subst e; exact hrow.out b hb) else hall.out a b (by omega) hb, hx⟩
            case measure => simp [intOf]; omega
      · obtain rfl : i = C := by omega
        go_wp2_with fail
        go_ret
        exact ⟨ret_bool (by rw [Hd.out, sym_true hv (fun a b ha hb => hall.out a b ha hb)]), hx⟩

set_option maxRecDepth 20000 in
set_option maxHeartbeats 2000000 in
theorem specIsSymmetric_any (r c : Int) (A : Option Addr) (n cap : Nat) (xs : List Nat) (w : World) (hr : Rds w A n (flts xs)) :
    Calls Try.prog 36 #[.agg #[.int .i64 r, .int .i64 c, .slice A n cap]] w fun e w' => e = .returned (.bool (isSymB r c xs)) ∧ Ext w w' := by
  go_enter Try.func36, Try.ntmps36
  go_upto_region 1 with (fail)
  obtain ⟨w0, hw0⟩ : ∃ w0, w0 = (w.alloc (.cells #[.int .i64 r, .int .i64 c, .slice A n cap] 35)) := ⟨_, rfl⟩
  have hx0 : Ext w w0 := by subst hw0; exact (Ext.refl _).alloc _
  have ba : Blk w0 (w.heap.size) #[.int .i64 r, .int .i64 c, .slice A n cap] 35 := by subst hw0; exact (Blk.new w _ _)
  rw [← hw0]
  clear hw0
  go_wp2_with fail
  refine (l04Symmetric_any _ r c A n cap xs _ (MAt.blk ba (hr.below hx0))).mono ?_
  rintro e w1 ⟨rfl, hx⟩
  replace hx0 := hx0.trans hx
  clear  hx
  go_wp2_with fail
  go_ret
  exact ⟨rfl, hx0⟩

end Go.Proofs.Ytgjfdfmbknmpaaa
