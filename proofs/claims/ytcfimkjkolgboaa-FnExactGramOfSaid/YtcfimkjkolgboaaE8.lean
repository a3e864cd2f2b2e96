import Derived.Test.YtcfimkjkolgboaaE7
set_option linter.unusedVariables false
set_option linter.unusedSimpArgs false
namespace Go.Proofs.Ytcfimkjkolgboaa
open Go.RowKit

set_option maxHeartbeats 4000000 in
theorem l06Mul_any (b b' R K C n n' cap cap' : Nat) (A A' : Option Addr) (xs ys : List Int) (w : World) (hR : R ≤ 6) (hK : K ≤ 6) (hC : C ≤ 6) (hn : n = R * K) (hn' : n' = K * C)
    (ha : WAt w b R K A n cap xs) (ha' : WAt w b' K C A' n' cap' ys) :
    Calls Try.prog 89 #[.pointer (some ⟨b, 0, none⟩), .pointer (some ⟨b', 0, none⟩)] w (RetWhole w R C (R * C) (mulT R K C xs ys)) := by
  have Hn := Lib.hid hn
  have Hn' := Lib.hid hn'
  clear hn hn'
  obtain ⟨S, hS⟩ : ∃ S : Nat → Nat → Nat → Int, S = fun i k m => sumW (fun j => at_ xs K i j * at_ ys C j k) m := ⟨_, rfl⟩
  have e0 : mulT R K C xs ys = tab C (fun i k => S i k K) (R * C) := by rw [hS]; rfl
  have e1 : ∀ i k, S i k 0 = 0 := by intro i k; rw [hS]; rfl
  have e2 : ∀ i k j, S i k (j + 1) = IntKind.i64.wrap (S i k j + IntKind.i64.wrap (at_ xs K i j * at_ ys C j k)) := by intro i k j; rw [hS]; rfl
  rw [e0]
  have E1 : Hid (∀ i k, S i k 0 = 0) := e1
  have E2 : Hid (∀ i k j, S i k (j + 1) = IntKind.i64.wrap (S i k j + IntKind.i64.wrap (at_ xs K i j * at_ ys C j k))) := e2
  clear e0 e1 e2 hS
  go_enter Try.func89, Try.ntmps89
  go_wp2_with fail
  have x0 : Ext w (w.alloc (.cells #[.int .i64 0, .int .i64 0, .slice none 0 0] 31)) := (Ext.refl _).alloc _
  have b0 : Blk (w.alloc (.cells #[.int .i64 0, .int .i64 0, .slice none 0 0] 31)) w.heap.size #[.int .i64 0, .int .i64 0, .slice none 0 0] 31 := Blk.new _ _ _
  obtain ⟨w0, hw0⟩ : ∃ w0, w0 = w.alloc (.cells #[.int .i64 0, .int .i64 0, .slice none 0 0] 31) := ⟨_, rfl⟩
  rw [← hw0] at b0 x0 ⊢
  have hs0 : w0.heap.size = w.heap.size + 1 := by rw [hw0]; simp
  clear hw0
  obtain ⟨c0, c1, c2, hr0⟩ := ha.ext x0
  obtain ⟨d0, d1, d2, hq0⟩ := ha'.ext x0
  refine wp_region_T [0, 1, 2, 3, 4, 5, 6, 7, 8, 9] [10] [8, 9] [] (fun i__ v => match i__ with | 8 => ∃ (A : Option Addr) (k : Nat), v = (.agg #[.int .i64 R, .int .i64 C, .slice A (R * C) k]) | 9 => ∃ b, v = (.pointer (some ⟨b, 0, none⟩)) | _ => False) (fun i__ v w' => match i__ with | 8 => OwnF w' w0.heap.size 2 v [2] (ints (List.replicate (R * C) 0)) | 9 => BlkF w' v w0.heap.size #[.int .i64 0, .int .i64 0, .slice none 0 0] 31 | _ => True) (by kernel_rfl) (by kernel_rfl) (by intro i v w' w2 h hx; revert h; (try dsimp only); split <;> intro h <;> first | trivial | exact (by first | exact OwnF.ext h hx | exact BlkF.ext h hx)) ?_
  refine' wpT_det (o := ⟨some 10, Op.move (Operand.tmp 0), 62, "l06_integers.go:98", #[], none⟩) rfl (by rfl) (by rfl) (fun w' hw' => ?_) ?_; rotate_left
  · go_simp <;> first | rfl | exact ⟨rfl, rfl⟩
  simp only [Act.put, List.setIfInBounds_toArray, List.set_cons_zero, List.set_cons_succ]
  refine' wpT_det (o := ⟨some 11, Op.nilCheck (Operand.tmp 10), 0, "l06_integers.go:98", #[{ on := 0, ground := Ground.data }], none⟩) rfl (by rfl) (by rfl) (fun w' hw' => ?_) ?_; rotate_left
  · go_simp <;> first | rfl | exact ⟨rfl, rfl⟩
  simp only [Act.put, List.setIfInBounds_toArray, List.set_cons_zero, List.set_cons_succ]
  refine' wpT_det (o := ⟨some 12, Op.fieldAddr 31 (Operand.tmp 11) 0, 0, "l06_integers.go:98", #[{ on := 1, ground := Ground.data }], none⟩) rfl (by rfl) (by rfl) (fun w' hw' => ?_) ?_; rotate_left
  · go_simp <;> first | rfl | exact ⟨rfl, rfl⟩
  simp only [Act.put, List.setIfInBounds_toArray, List.set_cons_zero, List.set_cons_succ]
  refine' wpT_det (o := ⟨some 13, Op.load 2 (Operand.tmp 12), 2, "l06_integers.go:98", #[{ on := 2, ground := Ground.data }], none⟩) rfl (by rfl) (by rfl) (fun w' hw' => ?_) ?_; rotate_left
  · have c0_ := Ext.cell hw' c0; have c1_ := Ext.cell hw' c1; have d0_ := Ext.cell hw' d0; have d1_ := Ext.cell hw' d1; go_simp <;> first | rfl | exact ⟨rfl, rfl⟩
  simp only [Act.put, List.setIfInBounds_toArray, List.set_cons_zero, List.set_cons_succ]
  refine' wpT_det (o := ⟨some 14, Op.move (Operand.tmp 1), 62, "l06_integers.go:98", #[], none⟩) rfl (by rfl) (by rfl) (fun w' hw' => ?_) ?_; rotate_left
  · go_simp <;> first | rfl | exact ⟨rfl, rfl⟩
  simp only [Act.put, List.setIfInBounds_toArray, List.set_cons_zero, List.set_cons_succ]
  refine' wpT_det (o := ⟨some 15, Op.nilCheck (Operand.tmp 14), 0, "l06_integers.go:98", #[{ on := 4, ground := Ground.data }], none⟩) rfl (by rfl) (by rfl) (fun w' hw' => ?_) ?_; rotate_left
  · go_simp <;> first | rfl | exact ⟨rfl, rfl⟩
  simp only [Act.put, List.setIfInBounds_toArray, List.set_cons_zero, List.set_cons_succ]
  refine' wpT_det (o := ⟨some 16, Op.fieldAddr 31 (Operand.tmp 15) 1, 0, "l06_integers.go:98", #[{ on := 5, ground := Ground.data }], none⟩) rfl (by rfl) (by rfl) (fun w' hw' => ?_) ?_; rotate_left
  · go_simp <;> first | rfl | exact ⟨rfl, rfl⟩
  simp only [Act.put, List.setIfInBounds_toArray, List.set_cons_zero, List.set_cons_succ]
  refine' wpT_det (o := ⟨some 17, Op.load 2 (Operand.tmp 16), 2, "l06_integers.go:98", #[{ on := 6, ground := Ground.data }], none⟩) rfl (by rfl) (by rfl) (fun w' hw' => ?_) ?_; rotate_left
  · have c0_ := Ext.cell hw' c0; have c1_ := Ext.cell hw' c1; have d0_ := Ext.cell hw' d0; have d1_ := Ext.cell hw' d1; go_simp <;> first | rfl | exact ⟨rfl, rfl⟩
  simp only [Act.put, List.setIfInBounds_toArray, List.set_cons_zero, List.set_cons_succ]
  refine wpT_nd (o := ⟨some 18, Op.call { callee := Callee.value (Operand.func 105), args := #[Operand.tmp 13, Operand.tmp 17], argTypes := #[2, 2] }, 31, "l06_integers.go:98", #[{ on := 3, ground := Ground.data }, { on := 7, ground := Ground.data }], none⟩) rfl (by rfl) (by rfl) (fun w' hw' hF R__ hGo => ?_) ⟨_, none, 0, rfl⟩ ?_
  · go_simp
    refine gives_enter rfl ?_
    refine (l06Zero_any R C hR hC _).mono ?_
    rintro e w2 ⟨A1, k1, rfl, o1, hx⟩
    exact ⟨_, rfl, hGo _ _ hx ⟨_, _, rfl⟩ (OwnF.of (o1.base hw'.size) rfl)⟩
  rintro _ ⟨A1, k1, rfl⟩
  simp only [Act.put, List.setIfInBounds_toArray, List.set_cons_zero, List.set_cons_succ]
  refine wpT_nd (o := ⟨some 5, Op.alloc 31, 0, "l06_integers.go:98", #[], none⟩) rfl (by rfl) (by rfl) (fun w' hw' hF R__ hGo => ?_) ⟨_, 0, rfl⟩ ?_
  · go_simp; exact gives_value rfl (hGo _ _ ((Ext.refl _).alloc _) ⟨_, rfl⟩ (fun b e => by simp only [Value.pointer.injEq, Option.some.injEq, Addr.mk.injEq, and_true] at e; subst e; exact ⟨Blk.new _ _ _, hw'.size⟩))
  rintro _ ⟨nb, rfl⟩
  simp only [Act.put, List.setIfInBounds_toArray, List.set_cons_zero, List.set_cons_succ]
  refine wpT_nil (fun w2 hw' hF => ?_)
  show wpList _ _ _ [(⟨none, Op.store 31 (Operand.tmp 5) (Operand.tmp 18), 0, "l06_integers.go:98", #[{ on := 9, ground := Ground.data }, { on := 8, ground := Ground.data }, { on := 8, ground := Ground.chain }, { on := 0, ground := Ground.phase }, { on := 1, ground := Ground.phase }, { on := 2, ground := Ground.phase }, { on := 3, ground := Ground.phase }, { on := 4, ground := Ground.phase }, { on := 5, ground := Ground.phase }, { on := 6, ground := Ground.phase }, { on := 7, ground := Ground.phase }, { on := 8, ground := Ground.phase }, { on := 9, ground := Ground.phase }], none⟩ : Oper)] _ _
  have o1 : Own w2 w0.heap.size 2 (.slice A1 (R * C) k1) (ints (List.replicate (R * C) 0)) := (hF 8 _ rfl) _ _ _ rfl
  obtain ⟨h1, hb⟩ := hF 9 _ rfl nb rfl
  clear hF
  have hx := x0.trans hw'.undrew
  replace b0 := b0.ext hw'.undrew
  clear c0 c1 c2 hr0 d0 d1 d2 hq0 x0 hw'
  have hne : w.heap.size ≠ nb := by omega
  have z0 : w2.cell? ⟨nb, 0, none⟩ = some (.int .i64 0) := h1.cell 0 rfl
  have z1 : w2.cell? ⟨nb, 1, none⟩ = some (.int .i64 0) := h1.cell 1 rfl
  have z2 : w2.cell? ⟨nb, 2, none⟩ = some (.slice none 0 0) := h1.cell 2 rfl
  have q0 := h1.free 0
  have q1 := h1.free 1
  have q2 := h1.free 2
  go_wp2_with fail
  clear z0 z1 z2 q0 q1 q2
  obtain ⟨w3, hw3⟩ : ∃ v : World, v = (((w2.setCell ⟨nb, 0, none⟩ (.int .i64 R)).setCell ⟨nb, 1, none⟩ (.int .i64 C)).setCell ⟨nb, 2, none⟩ (.slice A1 (R * C) k1)) := ⟨_, rfl⟩
  rw [← hw3]
  have hst : WO w nb w.heap.size R C (R * C) (tab C (fun a b => if a < 0 then S a b K else 0) (R * C)) w3 := by
    have e : tab C (fun a b => if a < 0 then S a b K else 0) (R * C) = List.replicate (R * C) 0 := by rw [← tab_const C]; congr 1
    rw [hw3, e]
    exact WO.begin hx h1 b0 (o1.base (by omega)) (by omega) hne
  clear hw3 o1 h1 b0 hx
  go_loopw [6] (fun u wr => ∃ i : Nat, i ≤ R ∧ u = .int .i64 i ∧ WO w nb w.heap.size R C (R * C) (tab C (fun a b => if a < i then S a b K else 0) (R * C)) wr) (fun u _ => R - (intOf u).toNat)
  case atStart => exact ⟨0, Nat.zero_le _, rfl, hst⟩
  case round =>
    clear hst
    obtain ⟨i, hi, rfl, hst⟩ := hrel
    have hst' := hst
    obtain ⟨A2, k2, h1, h2, h3, h4⟩ := hst'
    obtain ⟨c0, c1, c2, hr0⟩ := ha.ext h4
    clear c2 hr0
    by_cases hlt : i < R
    · clear h1 h2 h3
      go_wp2_with fail
      go_loopw [7] (fun u wr => ∃ k : Nat, k ≤ C ∧ u = .int .i64 k ∧ WO w nb w.heap.size R C (R * C) (tab C (fun a b => if a < i ∨ (a = i ∧ b < k) then S a b K else 0) (R * C)) wr) (fun u _ => C - (intOf u).toNat)
      case atStart =>
        refine ⟨0, Nat.zero_le _, rfl, ?_⟩
        have e : tab C (fun a b => if a < i ∨ (a = i ∧ b < 0) then S a b K else 0) (R * C) = tab C (fun a b => if a < i then S a b K else 0) (R * C) := by
          congr 1; funext a b; by_cases hb : a < i
          · rw [if_pos (.inl hb), if_pos hb]
          · rw [if_neg (by omega), if_neg hb]
        rw [e]; exact hst
      case round =>
        clear hst h4 c0 c1
        obtain ⟨k, hk, rfl, hst⟩ := hrel
        have hst' := hst
        obtain ⟨A2, k2, h1, h2, h3, h4⟩ := hst'
        obtain ⟨d0, d1, d2, hq0⟩ := ha'.ext h4
        clear d2 hq0
        by_cases hlk : k < C
        · clear h1 h2 h3
          obtain ⟨wk, hwk⟩ : ∃ wk : World, wk = wr := ⟨_, rfl⟩
          subst hwk
          obtain ⟨S', hS'⟩ : ∃ S' : Nat → Int, S' = S i k := ⟨_, rfl⟩
          have e1 : S' 0 = 0 := by rw [hS']; exact E1.out i k
          have E2' : Hid (∀ j, S' (j + 1) = IntKind.i64.wrap (S' j + IntKind.i64.wrap (at_ xs K i j * at_ ys C j k))) := by rw [hS']; exact E2.out i k
          have E1' := Lib.hid e1
          have HS' := Lib.hid hS'
          clear e1 hS'
          go_wp2_with fail
          clear h4 d0 d1
          go_loopw [8, 9] (fun u v wr' => ∃ j : Nat, j ≤ K ∧ u = .int .i64 (S' j) ∧ v = .int .i64 j ∧ Ext wk wr') (fun _ v _ => K - (intOf v).toNat)
          case atStart => exact ⟨0, Nat.zero_le _, by rw [E1'.out], rfl, Ext.refl _⟩
          case round =>
            obtain ⟨j, hj, rfl, rfl, hx⟩ := hrel
            have h4' : Ext w wk := by obtain ⟨_, _, _, _, _, h4⟩ := hst; exact h4
            obtain ⟨c0, c1, c2, hr⟩ := ha.ext (h4'.trans hx)
            by_cases hlj : j < K
            · have he := E2'.out j
              obtain ⟨x, hxx⟩ : ∃ x, x = at_ xs K i j := ⟨_, rfl⟩
              obtain ⟨y, hyy⟩ : ∃ y, y = at_ ys C j k := ⟨_, rfl⟩
              obtain ⟨z, hzz⟩ : ∃ z, z = S' j := ⟨_, rfl⟩
              rw [← hxx, ← hyy, ← hzz] at he
              rw [← hzz]
              have He := Lib.hid he
              have HX := Lib.hid hxx
              have HY := Lib.hid hyy
              clear he hxx hyy hzz
              go_wp2_with fail
              refine (l06At_any b R K i j n cap A xs _ hlt hlj hR hK Hn.out (ha.ext (h4'.trans hx))).mono ?_
              rintro e w4 ⟨rfl, hx2⟩
              rw [← HX.out]
              go_wp2_with fail
              refine (l06At_any b' K C j k n' cap' A' ys _ hlj hlk hK hC Hn'.out (ha'.ext ((h4'.trans hx).trans hx2))).mono ?_
              rintro e w5 ⟨rfl, hx3⟩
              rw [← HY.out]
              go_wp2_with fail
              go_roundw
              case rel => exact ⟨j + 1, by omega, by rw [He.out, IntWalk.i64_left, IntWalk.i64_left], by go_num, (hx.trans hx2).trans hx3⟩
              case measure => simp [intOf]; omega
            · obtain rfl : j = K := by omega
              clear c2 hr
              obtain ⟨A2, k2, h1, h2, h3, h4⟩ := hst
              replace h1 := h1.ext hx
              replace h2 := h2.ext hx
              replace h3 := h3.ext hx
              replace h4 := h4.trans hx
              obtain ⟨d0, d1, d2, hq0⟩ := ha'.ext h4
              clear d2 hq0
              obtain ⟨m, hm⟩ : ∃ m, m = R * C := ⟨_, rfl⟩
              obtain ⟨f1, f2, f3, f4, f5, f6, f7, f8⟩ := ix_facts hlt hlk hR hC hm
              rw [← hm] at h1 h3 ⊢
              have Hm := Lib.hid hm
              clear hm
              obtain ⟨g, rfl, _⟩ := h3.head (by omega)
              have z2 : _ = some (Value.slice (some ⟨g, 0, none⟩) m k2) := h1.cell 2 rfl
              obtain ⟨z, hzz⟩ : ∃ z, z = S' j := ⟨_, rfl⟩
              rw [← hzz]
              have HZ := Lib.hid hzz
              clear hzz
              go_wp2_with fail
              refine wp_region_T [0, 1, 2, 3, 4, 5, 6, 7, 8, 9, 10] [11, 12] [] [] (fun _ _ => False) (fun _ _ _ => True) (by kernel_rfl) (by kernel_rfl) (fun _ _ _ _ _ _ => trivial) ?_
              refine' wpT_det (o := ⟨some 54, Op.fieldAddr 31 (Operand.tmp 5) 2, 0, "l06_integers.go:105", #[], none⟩) rfl (by rfl) (by rfl) (fun w' hw' => ?_) ?_; rotate_left
              · go_simp <;> first | rfl | exact ⟨rfl, rfl⟩
              simp only [Act.put, List.setIfInBounds_toArray, List.set_cons_zero, List.set_cons_succ]
              refine' wpT_det (o := ⟨some 55, Op.load 26 (Operand.tmp 54), 26, "l06_integers.go:105", #[{ on := 0, ground := Ground.data }], none⟩) rfl (by rfl) (by rfl) (fun w' hw' => ?_) ?_; rotate_left
              · have d0_ := Ext.cell hw' d0; have d1_ := Ext.cell hw' d1; have z2_ := Ext.cell hw' z2; go_simp <;> first | rfl | exact ⟨rfl, rfl⟩
              simp only [Act.put, List.setIfInBounds_toArray, List.set_cons_zero, List.set_cons_succ]
              refine' wpT_det (o := ⟨some 56, Op.move (Operand.tmp 6), 2, "l06_integers.go:105", #[], none⟩) rfl (by rfl) (by rfl) (fun w' hw' => ?_) ?_; rotate_left
              · go_simp <;> first | rfl | exact ⟨rfl, rfl⟩
              simp only [Act.put, List.setIfInBounds_toArray, List.set_cons_zero, List.set_cons_succ]
              refine' wpT_det (o := ⟨some 57, Op.move (Operand.tmp 1), 62, "l06_integers.go:105", #[], none⟩) rfl (by rfl) (by rfl) (fun w' hw' => ?_) ?_; rotate_left
              · go_simp <;> first | rfl | exact ⟨rfl, rfl⟩
              simp only [Act.put, List.setIfInBounds_toArray, List.set_cons_zero, List.set_cons_succ]
              refine' wpT_det (o := ⟨some 58, Op.nilCheck (Operand.tmp 57), 0, "l06_integers.go:105", #[{ on := 3, ground := Ground.data }], none⟩) rfl (by rfl) (by rfl) (fun w' hw' => ?_) ?_; rotate_left
              · go_simp <;> first | rfl | exact ⟨rfl, rfl⟩
              simp only [Act.put, List.setIfInBounds_toArray, List.set_cons_zero, List.set_cons_succ]
              refine' wpT_det (o := ⟨some 59, Op.fieldAddr 31 (Operand.tmp 58) 1, 0, "l06_integers.go:105", #[{ on := 4, ground := Ground.data }], none⟩) rfl (by rfl) (by rfl) (fun w' hw' => ?_) ?_; rotate_left
              · go_simp <;> first | rfl | exact ⟨rfl, rfl⟩
              simp only [Act.put, List.setIfInBounds_toArray, List.set_cons_zero, List.set_cons_succ]
              refine' wpT_det (o := ⟨some 60, Op.load 2 (Operand.tmp 59), 2, "l06_integers.go:105", #[{ on := 5, ground := Ground.data }], none⟩) rfl (by rfl) (by rfl) (fun w' hw' => ?_) ?_; rotate_left
              · have d0_ := Ext.cell hw' d0; have d1_ := Ext.cell hw' d1; have z2_ := Ext.cell hw' z2; go_simp <;> first | rfl | exact ⟨rfl, rfl⟩
              simp only [Act.put, List.setIfInBounds_toArray, List.set_cons_zero, List.set_cons_succ]
              refine' wpT_det (o := ⟨some 61, Op.binOp BinOp.mul 2 (Operand.tmp 56) (Operand.tmp 60) 2, 2, "l06_integers.go:105", #[{ on := 2, ground := Ground.data }, { on := 6, ground := Ground.data }], none⟩) rfl (by rfl) (by rfl) (fun w' hw' => ?_) ?_; rotate_left
              · go_simp <;> first | rfl | exact ⟨rfl, rfl⟩
              simp only [Act.put, List.setIfInBounds_toArray, List.set_cons_zero, List.set_cons_succ]
              refine' wpT_det (o := ⟨some 62, Op.move (Operand.tmp 7), 2, "l06_integers.go:105", #[], none⟩) rfl (by rfl) (by rfl) (fun w' hw' => ?_) ?_; rotate_left
              · go_simp <;> first | rfl | exact ⟨rfl, rfl⟩
              simp only [Act.put, List.setIfInBounds_toArray, List.set_cons_zero, List.set_cons_succ]
              refine' wpT_det (o := ⟨some 63, Op.binOp BinOp.add 2 (Operand.tmp 61) (Operand.tmp 62) 2, 2, "l06_integers.go:105", #[{ on := 7, ground := Ground.data }, { on := 8, ground := Ground.data }], none⟩) rfl (by rfl) (by rfl) (fun w' hw' => ?_) ?_; rotate_left
              · go_simp <;> first | rfl | exact ⟨rfl, rfl⟩
              simp only [Act.put, List.setIfInBounds_toArray, List.set_cons_zero, List.set_cons_succ]
              refine' wpT_det (o := ⟨some 64, Op.move (Operand.tmp 8), 2, "l06_integers.go:105", #[], none⟩) rfl (by rfl) (by rfl) (fun w' hw' => ?_) ?_; rotate_left
              · go_simp <;> first | rfl | exact ⟨rfl, rfl⟩
              simp only [Act.put, List.setIfInBounds_toArray, List.set_cons_zero, List.set_cons_succ]
              refine wpT_nil (fun w6 hw' hF => ?_)
              show wpList _ _ _ [(⟨some 65, Op.indexAddr 26 (Operand.tmp 55) (Operand.tmp 63), 0, "l06_integers.go:105", #[{ on := 1, ground := Ground.data }, { on := 9, ground := Ground.data }, { on := 0, ground := Ground.phase }, { on := 1, ground := Ground.phase }, { on := 2, ground := Ground.phase }, { on := 3, ground := Ground.phase }, { on := 4, ground := Ground.phase }, { on := 5, ground := Ground.phase }, { on := 6, ground := Ground.phase }, { on := 7, ground := Ground.phase }, { on := 8, ground := Ground.phase }, { on := 9, ground := Ground.phase }, { on := 10, ground := Ground.phase }], none⟩ : Oper), (⟨none, Op.store 2 (Operand.tmp 65) (Operand.tmp 64), 0, "l06_integers.go:105", #[{ on := 11, ground := Ground.data }, { on := 10, ground := Ground.data }, { on := 0, ground := Ground.phase }, { on := 1, ground := Ground.phase }, { on := 2, ground := Ground.phase }, { on := 3, ground := Ground.phase }, { on := 4, ground := Ground.phase }, { on := 5, ground := Ground.phase }, { on := 6, ground := Ground.phase }, { on := 7, ground := Ground.phase }, { on := 8, ground := Ground.phase }, { on := 9, ground := Ground.phase }, { on := 10, ground := Ground.phase }], none⟩ : Oper)] _ _
              have hx' := hw'.undrew
              clear hF hw' z2 c0 c1 d0 d1
              replace h1 := h1.ext hx'
              replace h2 := h2.ext hx'
              replace h3 := h3.ext hx'
              replace h4 := h4.trans hx'
              clear hx'
              obtain ⟨hc, hf⟩ := h3.at_ (i * C + k) (by omega)
              rw [ints_get (by rw [tab_length]; omega)] at hc
              go_wp2_with fail
              go_roundw
              case rel =>
                have hgo : ∃ k' : Nat, k' ≤ C ∧ Value.int .i64 ((k : Int) + 1) = .int .i64 k' ∧ WO w nb w.heap.size R C m (tab C (fun a b => if a < i ∨ (a = i ∧ b < k') then S a b j else 0) m) (w6.setCell ⟨g, i * C + k, none⟩ (.int .i64 z)) := by
                  refine ⟨k + 1, by omega, by simp, ?_⟩
                  have := WO.put h1 h2 h3 h4 (i * C + k) z
                  rwa [tab_set (F' := fun a b => if a < i ∨ (a = i ∧ b < k + 1) then S a b j else 0) hlk (by omega) (by rw [if_pos (by omega), HZ.out, HS'.out]) (by
                    intro a b _ hab
                    by_cases h : a < i ∨ (a = i ∧ b < k)
                    · rw [if_pos h, if_pos (by omega)]
                    · rw [if_neg h, if_neg (by omega)])] at this
                have hm := Hm.out
                subst hm
                first | exact hgo | ((repeat apply Exists.intro); exact ⟨hgo, rfl⟩)
              case measure => simp [intOf]; omega
        · obtain rfl : k = C := by omega
          clear h1 h2 h3
          go_wp2_with fail
          go_roundw
          case rel =>
            refine ⟨i + 1, by omega, by go_num, ?_⟩
            have e : tab k (fun a b => if a < i + 1 then S a b K else 0) (R * k) = tab k (fun a b => if a < i ∨ (a = i ∧ b < k) then S a b K else 0) (R * k) := tab_congr (by
              intro a b ha' hb'
              by_cases h : a < i + 1
              · rw [if_pos h, if_pos (by omega)]
              · rw [if_neg h, if_neg (by omega)])
            rw [e]
            exact hst
          case measure => simp [intOf]; omega
    · obtain rfl : i = R := by omega
      have z0 : wr.cell? ⟨nb, 0, none⟩ = some (.int .i64 i) := h1.cell 0 rfl
      have z1 : wr.cell? ⟨nb, 1, none⟩ = some (.int .i64 C) := h1.cell 1 rfl
      have z2 : wr.cell? ⟨nb, 2, none⟩ = some (.slice A2 (i * C) k2) := h1.cell 2 rfl
      have y0 : wr.cell? ⟨w.heap.size, 0, none⟩ = some (.int .i64 0) := h2.cell 0 rfl
      have y1 : wr.cell? ⟨w.heap.size, 1, none⟩ = some (.int .i64 0) := h2.cell 1 rfl
      have y2 : wr.cell? ⟨w.heap.size, 2, none⟩ = some (.slice none 0 0) := h2.cell 2 rfl
      have q0 := h2.free 0
      have q1 := h2.free 1
      have q2 := h2.free 2
      have hq := h2.lt
      go_wp2_with fail
      obtain ⟨j1, j2, j3⟩ := WO.fin (r := i) (c := C) h2 h3 h4 (Nat.le_refl _)
      refine bodyPost_ret (resW rfl rfl j3) rfl ⟨A2, k2, rfl, ?_, j2⟩
      have e : tab C (fun a b => if a < i then S a b K else 0) (i * C) = tab C (fun a b => S a b K) (i * C) := tab_congr (by
        intro a b ha _
        rw [if_pos ha])
      rw [← e]
      exact j1

end Go.Proofs.Ytcfimkjkolgboaa
