import Derived.Test.YtgjfdfmbknmpaaaM17
set_option linter.unusedVariables false
set_option linter.unusedSimpArgs false
namespace Go.Proofs.Ytgjfdfmbknmpaaa
open Go.RowKit

theorem fit_of {r c r' c' : Int} {xs ys : List Nat} (h : fitB r c r' c' xs ys = true) : isMat r c xs = true ∧ isMat r' c' ys = true ∧ r' = c := by
  unfold fitB at h
  simp only [Bool.and_eq_true, decide_eq_true_eq] at h
  exact ⟨h.1.1, h.1.2, h.2.symm⟩
set_option maxRecDepth 20000 in
set_option maxHeartbeats 8000000 in
theorem l02Mul_any (b b' R K C n m cap cap' : Nat) (A B : Option Addr) (xs ys : List Nat) (w : World) (hR : R ≤ 12) (hK : K ≤ 12) (hC : C ≤ 12) (hn : n = R * K) (hm : m = K * C) (ha : MAt w b R K A n cap xs) (hb : MAt w b' K C B m cap' ys) :
    Calls Try.prog 165 #[.pointer (some ⟨b, 0, none⟩), .pointer (some ⟨b', 0, none⟩)] w (RetMat w R C (R * C) (tab C (mulF xs ys K C) (R * C))) := by
  have Hn := Lib.hid hn
  have Hm := Lib.hid hm
  clear hn hm
  obtain ⟨N, hN⟩ : ∃ N, N = R * C := ⟨_, rfl⟩
  obtain ⟨hw3, hN144⟩ := mul_nat R C hR hC
  rw [← hN] at hw3 hN144
  have HN := Lib.hid hN
  rw [← hN]
  clear hN
  go_enter Try.func165, Try.ntmps165
  go_upto_region 1 with (fail)
  obtain ⟨w0, hw0⟩ : ∃ w0, w0 = (w.alloc (.cells #[.int .i64 0, .int .i64 0, .slice none 0 0] 35)) := ⟨_, rfl⟩
  have hx0 : Ext w w0 := by subst hw0; exact (Ext.refl _).alloc _
  have b0 : Blk w0 (w.heap.size) #[.int .i64 0, .int .i64 0, .slice none 0 0] 35 := by subst hw0; exact (Blk.new w _ _)
  rw [← hw0]
  clear hw0
  obtain ⟨c0, c1, c2, hr1⟩ := ha.ext hx0
  obtain ⟨d0, d1, d2, hq1⟩ := hb.ext hx0
  refine wp_region_T (cs := []) [0, 1, 2, 3, 4, 5, 6, 7, 8, 9] [10] [8, 9] [] (fun i__ v => match i__ with | 8 => ∃ (A : Option Addr) (k : Nat), v = (.agg #[.int .i64 R, .int .i64 C, .slice A 0 k]) | 9 => ∃ b, v = (.pointer (some ⟨b, 0, none⟩)) | _ => False) (fun i__ v w' => match i__ with | 8 => OwnF w' w0.heap.size 39 v [2] (flts []) | 9 => BlkF w' v w0.heap.size #[.int .i64 0, .int .i64 0, .slice none 0 0] 35 | _ => True) (by kernel_rfl) (by kernel_rfl) (by intro i v w' w2 h hx; revert h; (try dsimp only); split <;> intro h <;> first | trivial | exact (by first | exact OwnF.ext h hx | exact BlkF.ext h hx)) ?_
  refine' wpT_det (o := ⟨some 9, Op.move (Operand.tmp 0), 85, "l02_matrices.go:188", #[], none⟩) rfl (by rfl) (by rfl) (fun w' hw' => ?_) ?_; rotate_left
  · go_simp <;> first | rfl | exact ⟨rfl, rfl⟩
  simp only [Act.put, List.setIfInBounds_toArray, List.set_cons_zero, List.set_cons_succ]
  refine' wpT_det (o := ⟨some 10, Op.nilCheck (Operand.tmp 9), 0, "l02_matrices.go:188", #[{ on := 0, ground := Ground.data }], none⟩) rfl (by rfl) (by rfl) (fun w' hw' => ?_) ?_; rotate_left
  · go_simp <;> first | rfl | exact ⟨rfl, rfl⟩
  simp only [Act.put, List.setIfInBounds_toArray, List.set_cons_zero, List.set_cons_succ]
  refine' wpT_det (o := ⟨some 11, Op.fieldAddr 35 (Operand.tmp 10) 0, 0, "l02_matrices.go:188", #[{ on := 1, ground := Ground.data }], none⟩) rfl (by rfl) (by rfl) (fun w' hw' => ?_) ?_; rotate_left
  · go_simp <;> first | rfl | exact ⟨rfl, rfl⟩
  simp only [Act.put, List.setIfInBounds_toArray, List.set_cons_zero, List.set_cons_succ]
  refine' wpT_det (o := ⟨some 12, Op.load 2 (Operand.tmp 11), 2, "l02_matrices.go:188", #[{ on := 2, ground := Ground.data }], none⟩) rfl (by rfl) (by rfl) (fun w' hw' => ?_) ?_; rotate_left
  · have c0_ := Ext.cell hw' c0; have d1_ := Ext.cell hw' d1; go_simp <;> first | rfl | exact ⟨rfl, rfl⟩
  simp only [Act.put, List.setIfInBounds_toArray, List.set_cons_zero, List.set_cons_succ]
  refine' wpT_det (o := ⟨some 13, Op.move (Operand.tmp 1), 85, "l02_matrices.go:188", #[], none⟩) rfl (by rfl) (by rfl) (fun w' hw' => ?_) ?_; rotate_left
  · go_simp <;> first | rfl | exact ⟨rfl, rfl⟩
  simp only [Act.put, List.setIfInBounds_toArray, List.set_cons_zero, List.set_cons_succ]
  refine' wpT_det (o := ⟨some 14, Op.nilCheck (Operand.tmp 13), 0, "l02_matrices.go:188", #[{ on := 4, ground := Ground.data }], none⟩) rfl (by rfl) (by rfl) (fun w' hw' => ?_) ?_; rotate_left
  · go_simp <;> first | rfl | exact ⟨rfl, rfl⟩
  simp only [Act.put, List.setIfInBounds_toArray, List.set_cons_zero, List.set_cons_succ]
  refine' wpT_det (o := ⟨some 15, Op.fieldAddr 35 (Operand.tmp 14) 1, 0, "l02_matrices.go:188", #[{ on := 5, ground := Ground.data }], none⟩) rfl (by rfl) (by rfl) (fun w' hw' => ?_) ?_; rotate_left
  · go_simp <;> first | rfl | exact ⟨rfl, rfl⟩
  simp only [Act.put, List.setIfInBounds_toArray, List.set_cons_zero, List.set_cons_succ]
  refine' wpT_det (o := ⟨some 16, Op.load 2 (Operand.tmp 15), 2, "l02_matrices.go:188", #[{ on := 6, ground := Ground.data }], none⟩) rfl (by rfl) (by rfl) (fun w' hw' => ?_) ?_; rotate_left
  · have c0_ := Ext.cell hw' c0; have d1_ := Ext.cell hw' d1; go_simp <;> first | rfl | exact ⟨rfl, rfl⟩
  simp only [Act.put, List.setIfInBounds_toArray, List.set_cons_zero, List.set_cons_succ]
  refine wpT_nd (o := ⟨some 17, Op.call { callee := Callee.value (Operand.func 127), args := #[Operand.tmp 12, Operand.tmp 16], argTypes := #[2, 2] }, 35, "l02_matrices.go:188", #[{ on := 3, ground := Ground.data }, { on := 7, ground := Ground.data }], none⟩) rfl (by rfl) (by rfl) (fun w' hw' hF R__ hGo => ?_) ⟨_, none, 0, rfl⟩ ?_
  · go_simp
    refine gives_enter rfl ?_
    refine (l02Blank_any R C _).mono ?_
    rintro e w2 ⟨A1, k1, ys, hy, rfl, o1, hx⟩
    exact ⟨_, rfl, hGo _ _ hx ⟨_, _, rfl⟩ (by obtain rfl : ys = [] := List.length_eq_zero_iff.1 (by rw [MO.len hy]; rfl); exact OwnF.of (o1.base hw'.size) rfl)⟩
  rintro _ ⟨A1, k1, rfl⟩
  simp only [Act.put, List.setIfInBounds_toArray, List.set_cons_zero, List.set_cons_succ]
  refine wpT_nd (o := ⟨some 5, Op.alloc 35, 0, "l02_matrices.go:188", #[], none⟩) rfl (by rfl) (by rfl) (fun w' hw' hF R__ hGo => ?_) ⟨_, 0, rfl⟩ ?_
  · go_simp; exact gives_value rfl (hGo _ _ ((Ext.refl _).alloc _) ⟨_, rfl⟩ (fun b e => by simp only [Value.pointer.injEq, Option.some.injEq, Addr.mk.injEq, and_true] at e; subst e; exact ⟨Blk.new _ _ _, hw'.size⟩))
  rintro _ ⟨nb, rfl⟩
  simp only [Act.put, List.setIfInBounds_toArray, List.set_cons_zero, List.set_cons_succ]
  refine wpT_nil (fun w2 hw' hF => ?_)
  show wpList _ _ _ [(⟨none, Op.store 35 (Operand.tmp 5) (Operand.tmp 17), 0, "l02_matrices.go:188", #[{ on := 9, ground := Ground.data }, { on := 8, ground := Ground.data }, { on := 8, ground := Ground.chain }, { on := 0, ground := Ground.phase }, { on := 1, ground := Ground.phase }, { on := 2, ground := Ground.phase }, { on := 3, ground := Ground.phase }, { on := 4, ground := Ground.phase }, { on := 5, ground := Ground.phase }, { on := 6, ground := Ground.phase }, { on := 7, ground := Ground.phase }, { on := 8, ground := Ground.phase }, { on := 9, ground := Ground.phase }], none⟩ : Oper)] _ _
  have o1 : Own w2 w0.heap.size 39 (.slice A1 0 k1) (flts []) := (hF 8 _ rfl) _ _ _ rfl
  obtain ⟨hn1, hle⟩ := hF 9 _ rfl nb rfl
  clear hF
  have hx := hw'.undrew
  have hne : w.heap.size ≠ nb := by have := b0.lt; omega
  have z0 : w2.cell? ⟨nb, 0, none⟩ = some (.int .i64 0) := hn1.cell 0 rfl
  have z1 : w2.cell? ⟨nb, 1, none⟩ = some (.int .i64 0) := hn1.cell 1 rfl
  have z2 : w2.cell? ⟨nb, 2, none⟩ = some (.slice none 0 0) := hn1.cell 2 rfl
  have q0 := hn1.free 0
  have q1 := hn1.free 1
  have q2 := hn1.free 2
  go_wp2_with fail
  clear z0 z1 z2 q0 q1 q2
  obtain ⟨w3, hw3'⟩ : ∃ v : World, v = (((w2.setCell ⟨nb, 0, none⟩ (.int .i64 R)).setCell ⟨nb, 1, none⟩ (.int .i64 C)).setCell ⟨nb, 2, none⟩ (.slice A1 0 k1)) := ⟨_, rfl⟩
  rw [← hw3']
  have hst : MO w0 nb (w.heap.size) R C 0 (tab C (mulF xs ys K C) 0) w3 := by
    obtain ⟨k1', k2, k3⟩ := Own.resM (w := w0) (base := w0.heap.size) (u := .int .i64 R) (v := .int .i64 C) (x := .slice A1 0 k1) hn1 o1 hx hle
    rw [hw3']
    exact ⟨A1, k1, [], rfl, k3, (((b0.ext hx).other hne _ _).other hne _ _).other hne _ _, k1', k2⟩
  clear hw3' o1 hn1 hx hw'
  clear c0 c1 c2 hr1 d0 d1 d2 hq1
  go_loopw [6] (fun u wr => ∃ i : Nat, i ≤ N ∧ u = .int .i64 i ∧ MO w0 nb w.heap.size R C i (tab C (mulF xs ys K C) i) wr) (fun u _ => N - (intOf u).toNat)
  case atStart => exact ⟨0, Nat.zero_le _, rfl, hst⟩
  case round =>
    clear hst
    obtain ⟨i, hi, rfl, hst⟩ := hrel
    obtain ⟨A2, k2, zs, hz, h1, h2, h3, h4⟩ := hst
    obtain ⟨c0, c1, c2, hr1⟩ := ha.ext (hx0.trans h4)
    obtain ⟨d0, d1, d2, hq1⟩ := hb.ext (hx0.trans h4)
    go_upto_region 3 with (fail)
    refine wp_region_T (cs := []) [0, 1, 2, 3, 4, 5, 6, 7, 8, 9, 10] [] [] [] (fun _ _ => False) (fun _ _ _ => True) (by kernel_rfl) (by kernel_rfl) (fun _ _ _ _ _ _ => trivial) ?_
    refine' wpT_det (o := ⟨some 18, Op.move (Operand.tmp 6), 2, "l02_matrices.go:189", #[], none⟩) rfl (by rfl) (by rfl) (fun w' hw' => ?_) ?_; rotate_left
    · go_simp <;> first | rfl | exact ⟨rfl, rfl⟩
    simp only [Act.put, List.setIfInBounds_toArray, List.set_cons_zero, List.set_cons_succ]
    refine' wpT_det (o := ⟨some 19, Op.move (Operand.tmp 0), 85, "l02_matrices.go:189", #[], none⟩) rfl (by rfl) (by rfl) (fun w' hw' => ?_) ?_; rotate_left
    · go_simp <;> first | rfl | exact ⟨rfl, rfl⟩
    simp only [Act.put, List.setIfInBounds_toArray, List.set_cons_zero, List.set_cons_succ]
    refine' wpT_det (o := ⟨some 20, Op.nilCheck (Operand.tmp 19), 0, "l02_matrices.go:189", #[{ on := 1, ground := Ground.data }], none⟩) rfl (by rfl) (by rfl) (fun w' hw' => ?_) ?_; rotate_left
    · go_simp <;> first | rfl | exact ⟨rfl, rfl⟩
    simp only [Act.put, List.setIfInBounds_toArray, List.set_cons_zero, List.set_cons_succ]
    refine' wpT_det (o := ⟨some 21, Op.fieldAddr 35 (Operand.tmp 20) 0, 0, "l02_matrices.go:189", #[{ on := 2, ground := Ground.data }], none⟩) rfl (by rfl) (by rfl) (fun w' hw' => ?_) ?_; rotate_left
    · go_simp <;> first | rfl | exact ⟨rfl, rfl⟩
    simp only [Act.put, List.setIfInBounds_toArray, List.set_cons_zero, List.set_cons_succ]
    refine' wpT_det (o := ⟨some 22, Op.load 2 (Operand.tmp 21), 2, "l02_matrices.go:189", #[{ on := 3, ground := Ground.data }], none⟩) rfl (by rfl) (by rfl) (fun w' hw' => ?_) ?_; rotate_left
    · have c0_ := Ext.cell hw' c0; have d1_ := Ext.cell hw' d1; go_simp <;> first | rfl | exact ⟨rfl, rfl⟩
    simp only [Act.put, List.setIfInBounds_toArray, List.set_cons_zero, List.set_cons_succ]
    refine' wpT_det (o := ⟨some 23, Op.move (Operand.tmp 1), 85, "l02_matrices.go:189", #[], none⟩) rfl (by rfl) (by rfl) (fun w' hw' => ?_) ?_; rotate_left
    · go_simp <;> first | rfl | exact ⟨rfl, rfl⟩
    simp only [Act.put, List.setIfInBounds_toArray, List.set_cons_zero, List.set_cons_succ]
    refine' wpT_det (o := ⟨some 24, Op.nilCheck (Operand.tmp 23), 0, "l02_matrices.go:189", #[{ on := 5, ground := Ground.data }], none⟩) rfl (by rfl) (by rfl) (fun w' hw' => ?_) ?_; rotate_left
    · go_simp <;> first | rfl | exact ⟨rfl, rfl⟩
    simp only [Act.put, List.setIfInBounds_toArray, List.set_cons_zero, List.set_cons_succ]
    refine' wpT_det (o := ⟨some 25, Op.fieldAddr 35 (Operand.tmp 24) 1, 0, "l02_matrices.go:189", #[{ on := 6, ground := Ground.data }], none⟩) rfl (by rfl) (by rfl) (fun w' hw' => ?_) ?_; rotate_left
    · go_simp <;> first | rfl | exact ⟨rfl, rfl⟩
    simp only [Act.put, List.setIfInBounds_toArray, List.set_cons_zero, List.set_cons_succ]
    refine' wpT_det (o := ⟨some 26, Op.load 2 (Operand.tmp 25), 2, "l02_matrices.go:189", #[{ on := 7, ground := Ground.data }], none⟩) rfl (by rfl) (by rfl) (fun w' hw' => ?_) ?_; rotate_left
    · have c0_ := Ext.cell hw' c0; have d1_ := Ext.cell hw' d1; go_simp <;> first | rfl | exact ⟨rfl, rfl⟩
    simp only [Act.put, List.setIfInBounds_toArray, List.set_cons_zero, List.set_cons_succ]
    refine' wpT_det (o := ⟨some 27, Op.binOp BinOp.mul 2 (Operand.tmp 22) (Operand.tmp 26) 2, 2, "l02_matrices.go:189", #[{ on := 4, ground := Ground.data }, { on := 8, ground := Ground.data }], none⟩) rfl (by rfl) (by rfl) (fun w' hw' => ?_) ?_; rotate_left
    · go_simp <;> first | rfl | exact ⟨rfl, rfl⟩
    simp only [Act.put, List.setIfInBounds_toArray, List.set_cons_zero, List.set_cons_succ]
    refine' wpT_det (o := ⟨some 28, Op.binOp BinOp.lss 2 (Operand.tmp 18) (Operand.tmp 27) 2, 4, "l02_matrices.go:189", #[{ on := 0, ground := Ground.data }, { on := 9, ground := Ground.data }], none⟩) rfl (by rfl) (by rfl) (fun w' hw' => ?_) ?_; rotate_left
    · go_simp <;> first | rfl | exact ⟨rfl, rfl⟩
    simp only [Act.put, List.setIfInBounds_toArray, List.set_cons_zero, List.set_cons_succ]
    refine wpT_nil (fun w4 hw' hF => ?_)
    refine wpList_nil ?_
    have hx := hw'.undrew
    clear hF hw' c0 c1 c2 hr1 d0 d1 d2 hq1
    replace h1 := h1.ext hx
    replace h2 := h2.ext hx
    replace h3 := h3.ext hx
    replace h4 := h4.trans hx
    clear hx
    by_cases hlt : i < N
    · obtain ⟨p, q, g1, g2, Hp, Hq, e1, e2, e3, e4, e5⟩ := rc_facts HN.out hlt hN144
      go_wp2_with fail
      go_loopw [7, 8] (fun u v wr => ∃ j : Nat, j ≤ K ∧ v = .int .i64 j ∧ ∃ s, u = .float .f32 s ∧ c32 s = dotF (fun j => c32 (at_ xs K p j)) (fun j => c32 (at_ ys C j q)) j ∧ Ext w4 wr) (fun _ v _ => K - (intOf v).toNat)
      case atStart => exact ⟨0, Nat.zero_le _, rfl, 0, rfl, c32_0, Ext.refl _⟩
      case round =>
        obtain ⟨j, hj, rfl, s, rfl, hs, hx⟩ := hrel
        have hxa := (hx0.trans h4).trans hx
        obtain ⟨c0, c1, c2, hr1⟩ := ha.ext hxa
        obtain ⟨d0, d1, d2, hq1⟩ := hb.ext hxa
        by_cases hlj : j < K
        · clear c0 c2 d0 d2 hr1 hq1
          go_wp2_with fail
          refine wp_region_T (cs := []) [0, 1, 2, 3, 4, 5, 6, 7, 8, 9, 10, 11, 12, 13, 14, 15, 16, 17, 18, 19, 20] [21] [9, 18, 19, 20] [] (fun i__ v => match i__ with | 9 => v = (.float .f32 (at_ xs K p j)) | 18 => v = (.float .f32 (at_ ys C j q)) | 19 => ∃ r, v = .float .f32 r ∧ c32 r = (fmul (c32 (at_ xs K p j)) (c32 (at_ ys C j q))) | 20 => ∃ r, v = .float .f32 r ∧ c32 r = (dotF (fun j => c32 (at_ xs K p j)) (fun j => c32 (at_ ys C j q)) (j + 1)) | _ => False) (fun _ _ _ => True) (by kernel_rfl) (by kernel_rfl) (fun _ _ _ _ _ _ => trivial) ?_
          refine' wpT_det (o := ⟨some 39, Op.move (Operand.tmp 7), 39, "l02_matrices.go:192", #[], none⟩) rfl (by rfl) (by rfl) (fun w' hw' => ?_) ?_; rotate_left
          · go_simp <;> first | rfl | exact ⟨rfl, rfl⟩
          simp only [Act.put, List.setIfInBounds_toArray, List.set_cons_zero, List.set_cons_succ]
          refine' wpT_det (o := ⟨some 40, Op.move (Operand.tmp 0), 85, "l02_matrices.go:192", #[], none⟩) rfl (by rfl) (by rfl) (fun w' hw' => ?_) ?_; rotate_left
          · go_simp <;> first | rfl | exact ⟨rfl, rfl⟩
          simp only [Act.put, List.setIfInBounds_toArray, List.set_cons_zero, List.set_cons_succ]
          refine' wpT_det (o := ⟨some 41, Op.move (Operand.tmp 6), 2, "l02_matrices.go:192", #[], none⟩) rfl (by rfl) (by rfl) (fun w' hw' => ?_) ?_; rotate_left
          · go_simp <;> first | rfl | exact ⟨rfl, rfl⟩
          simp only [Act.put, List.setIfInBounds_toArray, List.set_cons_zero, List.set_cons_succ]
          refine' wpT_det (o := ⟨some 42, Op.move (Operand.tmp 1), 85, "l02_matrices.go:192", #[], none⟩) rfl (by rfl) (by rfl) (fun w' hw' => ?_) ?_; rotate_left
          · go_simp <;> first | rfl | exact ⟨rfl, rfl⟩
          simp only [Act.put, List.setIfInBounds_toArray, List.set_cons_zero, List.set_cons_succ]
          refine' wpT_det (o := ⟨some 43, Op.nilCheck (Operand.tmp 42), 0, "l02_matrices.go:192", #[{ on := 3, ground := Ground.data }], none⟩) rfl (by rfl) (by rfl) (fun w' hw' => ?_) ?_; rotate_left
          · go_simp <;> first | rfl | exact ⟨rfl, rfl⟩
          simp only [Act.put, List.setIfInBounds_toArray, List.set_cons_zero, List.set_cons_succ]
          refine' wpT_det (o := ⟨some 44, Op.fieldAddr 35 (Operand.tmp 43) 1, 0, "l02_matrices.go:192", #[{ on := 4, ground := Ground.data }], none⟩) rfl (by rfl) (by rfl) (fun w' hw' => ?_) ?_; rotate_left
          · go_simp <;> first | rfl | exact ⟨rfl, rfl⟩
          simp only [Act.put, List.setIfInBounds_toArray, List.set_cons_zero, List.set_cons_succ]
          refine' wpT_det (o := ⟨some 45, Op.load 2 (Operand.tmp 44), 2, "l02_matrices.go:192", #[{ on := 5, ground := Ground.data }], none⟩) rfl (by rfl) (by rfl) (fun w' hw' => ?_) ?_; rotate_left
          · have c1_ := Ext.cell hw' c1; have d1_ := Ext.cell hw' d1; go_simp <;> first | rfl | exact ⟨rfl, rfl⟩
          simp only [Act.put, List.setIfInBounds_toArray, List.set_cons_zero, List.set_cons_succ]
          refine' wpT_det (o := ⟨some 46, Op.binOp BinOp.quo 2 (Operand.tmp 41) (Operand.tmp 45) 2, 2, "l02_matrices.go:192", #[{ on := 2, ground := Ground.data }, { on := 6, ground := Ground.data }], none⟩) rfl (by rfl) (by rfl) (fun w' hw' => ?_) ?_; rotate_left
          · go_simp <;> first | rfl | exact ⟨rfl, rfl⟩
          simp only [Act.put, List.setIfInBounds_toArray, List.set_cons_zero, List.set_cons_succ]
          refine' wpT_det (o := ⟨some 47, Op.move (Operand.tmp 8), 2, "l02_matrices.go:192", #[], none⟩) rfl (by rfl) (by rfl) (fun w' hw' => ?_) ?_; rotate_left
          · go_simp <;> first | rfl | exact ⟨rfl, rfl⟩
          simp only [Act.put, List.setIfInBounds_toArray, List.set_cons_zero, List.set_cons_succ]
          refine wpT_nd (o := ⟨some 48, Op.call { callee := Callee.value (Operand.func 107), args := #[Operand.tmp 40, Operand.tmp 46, Operand.tmp 47], argTypes := #[85, 2, 2] }, 39, "l02_matrices.go:192", #[{ on := 1, ground := Ground.data }, { on := 7, ground := Ground.data }, { on := 8, ground := Ground.data }], none⟩) rfl (by rfl) (by rfl) (fun w' hw' hF R__ hGo => ?_) ⟨_, rfl⟩ ?_
          · go_simp
            refine gives_enter rfl ?_
            refine (l02At_any b R K p j n cap A xs _ g1 hlj hR hK Hn.out (ha.ext (hxa.trans hw'.undrew))).mono ?_
            rintro e w2 ⟨rfl, hx⟩
            exact ⟨_, rfl, hGo _ _ hx rfl trivial⟩
          intro v hv
          obtain rfl : v = (.float .f32 (at_ xs K p j)) := hv
          simp only [Act.put, List.setIfInBounds_toArray, List.set_cons_zero, List.set_cons_succ]
          refine' wpT_det (o := ⟨some 49, Op.move (Operand.tmp 1), 85, "l02_matrices.go:192", #[], none⟩) rfl (by rfl) (by rfl) (fun w' hw' => ?_) ?_; rotate_left
          · go_simp <;> first | rfl | exact ⟨rfl, rfl⟩
          simp only [Act.put, List.setIfInBounds_toArray, List.set_cons_zero, List.set_cons_succ]
          refine' wpT_det (o := ⟨some 50, Op.move (Operand.tmp 8), 2, "l02_matrices.go:192", #[], none⟩) rfl (by rfl) (by rfl) (fun w' hw' => ?_) ?_; rotate_left
          · go_simp <;> first | rfl | exact ⟨rfl, rfl⟩
          simp only [Act.put, List.setIfInBounds_toArray, List.set_cons_zero, List.set_cons_succ]
          refine' wpT_det (o := ⟨some 51, Op.move (Operand.tmp 6), 2, "l02_matrices.go:192", #[], none⟩) rfl (by rfl) (by rfl) (fun w' hw' => ?_) ?_; rotate_left
          · go_simp <;> first | rfl | exact ⟨rfl, rfl⟩
          simp only [Act.put, List.setIfInBounds_toArray, List.set_cons_zero, List.set_cons_succ]
          refine' wpT_det (o := ⟨some 52, Op.move (Operand.tmp 1), 85, "l02_matrices.go:192", #[], none⟩) rfl (by rfl) (by rfl) (fun w' hw' => ?_) ?_; rotate_left
          · go_simp <;> first | rfl | exact ⟨rfl, rfl⟩
          simp only [Act.put, List.setIfInBounds_toArray, List.set_cons_zero, List.set_cons_succ]
          refine' wpT_det (o := ⟨some 53, Op.nilCheck (Operand.tmp 52), 0, "l02_matrices.go:192", #[{ on := 13, ground := Ground.data }], none⟩) rfl (by rfl) (by rfl) (fun w' hw' => ?_) ?_; rotate_left
          · go_simp <;> first | rfl | exact ⟨rfl, rfl⟩
          simp only [Act.put, List.setIfInBounds_toArray, List.set_cons_zero, List.set_cons_succ]
          refine' wpT_det (o := ⟨some 54, Op.fieldAddr 35 (Operand.tmp 53) 1, 0, "l02_matrices.go:192", #[{ on := 14, ground := Ground.data }], none⟩) rfl (by rfl) (by rfl) (fun w' hw' => ?_) ?_; rotate_left
          · go_simp <;> first | rfl | exact ⟨rfl, rfl⟩
          simp only [Act.put, List.setIfInBounds_toArray, List.set_cons_zero, List.set_cons_succ]
          refine' wpT_det (o := ⟨some 55, Op.load 2 (Operand.tmp 54), 2, "l02_matrices.go:192", #[{ on := 15, ground := Ground.data }], none⟩) rfl (by rfl) (by rfl) (fun w' hw' => ?_) ?_; rotate_left
          · have c1_ := Ext.cell hw' c1; have d1_ := Ext.cell hw' d1; go_simp <;> first | rfl | exact ⟨rfl, rfl⟩
          simp only [Act.put, List.setIfInBounds_toArray, List.set_cons_zero, List.set_cons_succ]
          refine' wpT_det (o := ⟨some 56, Op.binOp BinOp.rem 2 (Operand.tmp 51) (Operand.tmp 55) 2, 2, "l02_matrices.go:192", #[{ on := 12, ground := Ground.data }, { on := 16, ground := Ground.data }], none⟩) rfl (by rfl) (by rfl) (fun w' hw' => ?_) ?_; rotate_left
          · go_simp <;> first | rfl | exact ⟨rfl, rfl⟩
          simp only [Act.put, List.setIfInBounds_toArray, List.set_cons_zero, List.set_cons_succ]
          refine wpT_nd (o := ⟨some 57, Op.call { callee := Callee.value (Operand.func 107), args := #[Operand.tmp 49, Operand.tmp 50, Operand.tmp 56], argTypes := #[85, 2, 2] }, 39, "l02_matrices.go:192", #[{ on := 10, ground := Ground.data }, { on := 11, ground := Ground.data }, { on := 17, ground := Ground.data }, { on := 9, ground := Ground.chain }], none⟩) rfl (by rfl) (by rfl) (fun w' hw' hF R__ hGo => ?_) ⟨_, rfl⟩ ?_
          · go_simp
            refine gives_enter rfl ?_
            refine (l02At_any b' K C j q m cap' B ys _ hlj g2 hK hC Hm.out (hb.ext (hxa.trans hw'.undrew))).mono ?_
            rintro e w2 ⟨rfl, hx⟩
            exact ⟨_, rfl, hGo _ _ hx rfl trivial⟩
          intro v hv
          obtain rfl : v = (.float .f32 (at_ ys C j q)) := hv
          simp only [Act.put, List.setIfInBounds_toArray, List.set_cons_zero, List.set_cons_succ]
          refine wpT_nd (o := ⟨some 58, Op.binOp BinOp.mul 39 (Operand.tmp 48) (Operand.tmp 57) 39, 39, "l02_matrices.go:192", #[{ on := 9, ground := Ground.data }, { on := 18, ground := Ground.data }], none⟩) rfl (by rfl) (by rfl) (fun w' hw' hF R__ hGo => ?_) (by obtain ⟨r, hr⟩ := ex_d .mul (rfl : fop .mul .f32 (c32 (at_ xs K p j)) (c32 (at_ ys C j q)) = (fmul (c32 (at_ xs K p j)) (c32 (at_ ys C j q)))); exact ⟨_, r, rfl, hr⟩) ?_
          · exact gives_f .mul (.inr (.inr (.inl rfl))) _ _ _ _ rfl (at_ xs K p j) (at_ ys C j q) rfl rfl (fmul (c32 (at_ xs K p j)) (c32 (at_ ys C j q))) rfl (fun r w2 hx hc => hGo _ _ hx ⟨r, rfl, hc⟩ trivial)
          rintro _ ⟨f19, rfl, hf19⟩
          simp only [Act.put, List.setIfInBounds_toArray, List.set_cons_zero, List.set_cons_succ]
          refine wpT_nd (o := ⟨some 59, Op.binOp BinOp.add 39 (Operand.tmp 39) (Operand.tmp 58) 39, 39, "l02_matrices.go:192", #[{ on := 0, ground := Ground.data }, { on := 19, ground := Ground.data }], none⟩) rfl (by rfl) (by rfl) (fun w' hw' hF R__ hGo => ?_) (by obtain ⟨r, hr⟩ := ex_d .add ((by rw [hf19, hs]; rfl) : fop .add .f32 (c32 (s)) (c32 (f19)) = (dotF (fun j => c32 (at_ xs K p j)) (fun j => c32 (at_ ys C j q)) (j + 1))); exact ⟨_, r, rfl, hr⟩) ?_
          · exact gives_f .add (.inl rfl) _ _ _ _ rfl (s) (f19) rfl rfl (dotF (fun j => c32 (at_ xs K p j)) (fun j => c32 (at_ ys C j q)) (j + 1)) (by rw [hf19, hs]; rfl) (fun r w2 hx hc => hGo _ _ hx ⟨r, rfl, hc⟩ trivial)
          rintro _ ⟨f20, rfl, hf20⟩
          simp only [Act.put, List.setIfInBounds_toArray, List.set_cons_zero, List.set_cons_succ]
          refine wpT_nil (fun w5 hw' hF => ?_)
          show wpList _ _ _ [(⟨some 7, Op.assign (Operand.tmp 59), 39, "l02_matrices.go:192", #[{ on := 20, ground := Ground.data }, { on := 18, ground := Ground.chain }, { on := 0, ground := Ground.phase }, { on := 1, ground := Ground.phase }, { on := 2, ground := Ground.phase }, { on := 3, ground := Ground.phase }, { on := 4, ground := Ground.phase }, { on := 5, ground := Ground.phase }, { on := 6, ground := Ground.phase }, { on := 7, ground := Ground.phase }, { on := 8, ground := Ground.phase }, { on := 9, ground := Ground.phase }, { on := 10, ground := Ground.phase }, { on := 11, ground := Ground.phase }, { on := 12, ground := Ground.phase }, { on := 13, ground := Ground.phase }, { on := 14, ground := Ground.phase }, { on := 15, ground := Ground.phase }, { on := 16, ground := Ground.phase }, { on := 17, ground := Ground.phase }, { on := 18, ground := Ground.phase }, { on := 19, ground := Ground.phase }, { on := 20, ground := Ground.phase }], none⟩ : Oper)] _ _
          have hx2 := hw'.undrew
          clear c1 d1 hF hw'
          go_wp2_with fail
          go_roundw
          case rel => exact ⟨j + 1, by omega, by go_num, f20, rfl, hf20, hx.trans hx2⟩
          case measure => simp [intOf]; omega
        · obtain rfl : j = K := by omega
          replace h1 := h1.ext hx
          replace h2 := h2.ext hx
          replace h3 := h3.ext hx
          replace h4 := h4.trans hx
          clear hxa hx c0 c2 hr1 d0 d1 d2 hq1
          have z2 : wr.cell? ⟨nb, 2, none⟩ = some (.slice A2 i k2) := h1.cell 2 rfl
          have hg : One (wr.alloc (.cells #[.float .f32 s] 39)) (.slice (some ⟨wr.heap.size, 0, none⟩) 1 1) (.float .f32 s) 39 := One.new _ _ _
          have xg : Ext wr (wr.alloc (.cells #[.float .f32 s] 39)) := (Ext.refl _).alloc _
          replace h1 := h1.ext xg
          replace h2 := h2.ext xg
          replace h3 := h3.ext xg
          replace h4 := h4.trans xg
          clear xg
          have hsz := h4.size
          have hl0 := h3.len
          have hlc : (flts zs).length = i := hl0
          have hf := h1.free 2
          have hc := h1.cell 2 rfl
          go_wp2_with (at_builtin; go_loud (refine wpList_app1 rfl _ _ _ rfl (wr.alloc (.cells #[.float .f32 s] 39)) w0.heap.size 39 (.float .f32 0) 4 Try.underlying22 info_f32 rfl (by decide) (.slice A2 i k2) (flts zs) rfl wr.heap.size (.float .f32 s) rfl hg h3 rfl (by omega) hsz ?_); rw [hl0]; intro A' c' w7 h5 h6 h7; clear hf hc; have b1 := h1.wr h6 h3 (by decide); have hf := b1.free 2; have hq := b1.lt; have hc := b1.cell 2 rfl)
          go_roundw
          case rel =>
            refine ⟨i + 1, by omega, by go_num, ?_⟩
            have := MO.app hle hne hz h1 h2 h3 h4 h5 h6
            have hval : c32 s = mulF xs ys j C (i / C) (i % C) := by rw [hs, Hp.out, Hq.out]; rfl
            rwa [hval, tab_next (mulF xs ys j C) i] at this
          case measure => simp [intOf]; omega
    · obtain rfl : i = N := by omega
      have z0 : w4.cell? ⟨nb, 0, none⟩ = some (.int .i64 R) := h1.cell 0 rfl
      have z1 : w4.cell? ⟨nb, 1, none⟩ = some (.int .i64 C) := h1.cell 1 rfl
      have z2 : w4.cell? ⟨nb, 2, none⟩ = some (.slice A2 i k2) := h1.cell 2 rfl
      have y0 : w4.cell? ⟨w.heap.size, 0, none⟩ = some (.int .i64 0) := h2.cell 0 rfl
      have y1 : w4.cell? ⟨w.heap.size, 1, none⟩ = some (.int .i64 0) := h2.cell 1 rfl
      have y2 : w4.cell? ⟨w.heap.size, 2, none⟩ = some (.slice none 0 0) := h2.cell 2 rfl
      have q0 := h2.free 0
      have q1 := h2.free 1
      have q2 := h2.free 2
      have hq := h2.lt
      go_wp2_with fail
      obtain ⟨j1, j2, j3⟩ := Own.resM (w := w) (u := .int .i64 R) (v := .int .i64 C) (x := .slice A2 i k2) h2 (h3.base hx0.size) (hx0.trans h4) (Nat.le_refl _)
      exact bodyPost_ret (resM rfl rfl j3) rfl ⟨A2, k2, zs, hz, rfl, j1, j2⟩

set_option maxRecDepth 20000 in
set_option maxHeartbeats 4000000 in
theorem specMulMatrices_any (r c : Int) (A : Option Addr) (n cap : Nat) (r' c' : Int) (B : Option Addr) (m cap' : Nat) (xs ys : List Nat) (w : World) (hr : Rds w A n (flts xs)) (hq : Rds w B m (flts ys)) :
    Calls Try.prog 90 #[.agg #[.int .i64 r, .int .i64 c, .slice A n cap], .agg #[.int .i64 r', .int .i64 c', .slice B m cap']] w (RetMD w (mulD r c r' c' xs ys)) := by
  have HL := Lib.hid hr.flen
  have HL' := Lib.hid hq.flen
  cases hv : fitB r c r' c' xs ys with
  | false =>
    have hd : mulD r c r' c' xs ys = MD.bad := by simp [mulD, hv]
    go_enter Try.func90, Try.ntmps90
    go_upto_region 1 with (fail)
    obtain ⟨w0, hw0⟩ : ∃ w0, w0 = (((w.alloc (.cells #[.int .i64 r, .int .i64 c, .slice A n cap] 35)).alloc (.cells #[.int .i64 r', .int .i64 c', .slice B m cap'] 35)).alloc (.cells #[.int .i64 0, .int .i64 0, .slice none 0 0] 35)) := ⟨_, rfl⟩
    have hx0 : Ext w w0 := by subst hw0; exact (((Ext.refl _).alloc _).alloc _).alloc _
    have ba : Blk w0 (w.heap.size) #[.int .i64 r, .int .i64 c, .slice A n cap] 35 := by subst hw0; exact (Blk.new w _ _).ext (((Ext.refl _).alloc _).alloc _)
    have bb : Blk w0 (w.heap.size + 1) #[.int .i64 r', .int .i64 c', .slice B m cap'] 35 := by subst hw0; simpa using (Blk.new (w.alloc (.cells #[.int .i64 r, .int .i64 c, .slice A n cap] 35)) _ _).ext ((Ext.refl _).alloc _)
    have b0 : Blk w0 (w.heap.size + 1 + 1) #[.int .i64 0, .int .i64 0, .slice none 0 0] 35 := by subst hw0; simpa using (Blk.new ((w.alloc (.cells #[.int .i64 r, .int .i64 c, .slice A n cap] 35)).alloc (.cells #[.int .i64 r', .int .i64 c', .slice B m cap'] 35)) _ _)
    rw [← hw0]
    clear hw0
    go_wp2_with fail
    refine (l02Fit_any _ _ r c A n cap r' c' B m cap' xs ys _ (MAt.blk ba (hr.below hx0)) (MAt.blk bb (hq.below hx0))).mono ?_
    rintro e w1 ⟨rfl, hx⟩
    rw [hv]
    replace b0 := b0.ext hx
    replace hx0 := hx0.trans hx
    clear  hx
    have y0 : w1.cell? ⟨w.heap.size + 1 + 1, 0, none⟩ = some (.int .i64 0) := b0.cell 0 rfl
    have y1 : w1.cell? ⟨w.heap.size + 1 + 1, 1, none⟩ = some (.int .i64 0) := b0.cell 1 rfl
    have y2 : w1.cell? ⟨w.heap.size + 1 + 1, 2, none⟩ = some (.slice none 0 0) := b0.cell 2 rfl
    have q0 := b0.free 0
    have q1 := b0.free 1
    have q2 := b0.free 2
    have hq := b0.lt
    go_wp2_with fail
    obtain ⟨k1, k2, k3⟩ := Own.resM (w := w) (u := .int .i64 0) (v := .int .i64 0) (x := .slice none 0 0) b0 (own_nil _ w.heap.size _) hx0 (by omega)
    exact bodyPost_ret (resMB (x := .bool false) rfl rfl rfl k3) rfl (RetMD.bad hd k2)
  | true =>
    obtain ⟨h1, h2, rfl⟩ := fit_of hv
    obtain ⟨R, K, rfl, rfl, u1, u2, u3, u4, u5⟩ := mat_nat h1
    obtain ⟨K', C, hK', rfl, _, _, u6, u7, u8⟩ := mat_nat h2
    obtain rfl : K' = K := by omega
    obtain ⟨d, hd⟩ : ∃ d, d = mulD R K' K' C xs ys := ⟨_, rfl⟩
    have hd' : d = giveM R C (tab C (mulF xs ys K' C) (R * C)) := by rw [hd]; simp [mulD, hv]
    have HD := Lib.hid hd'
    have Hn : Hid (n = R * K') := by have := HL.out; show n = _; omega
    have Hm : Hid (m = K' * C) := by have := HL'.out; show m = _; omega
    rw [← hd]
    clear hd hd' u5 u8 hK' h1 h2
    go_enter Try.func90, Try.ntmps90
    go_upto_region 1 with (fail)
    obtain ⟨w0, hw0⟩ : ∃ w0, w0 = (((w.alloc (.cells #[.int .i64 R, .int .i64 K', .slice A n cap] 35)).alloc (.cells #[.int .i64 K', .int .i64 C, .slice B m cap'] 35)).alloc (.cells #[.int .i64 0, .int .i64 0, .slice none 0 0] 35)) := ⟨_, rfl⟩
    have hx0 : Ext w w0 := by subst hw0; exact (((Ext.refl _).alloc _).alloc _).alloc _
    have ba : Blk w0 (w.heap.size) #[.int .i64 R, .int .i64 K', .slice A n cap] 35 := by subst hw0; exact (Blk.new w _ _).ext (((Ext.refl _).alloc _).alloc _)
    have bb : Blk w0 (w.heap.size + 1) #[.int .i64 K', .int .i64 C, .slice B m cap'] 35 := by subst hw0; simpa using (Blk.new (w.alloc (.cells #[.int .i64 R, .int .i64 K', .slice A n cap] 35)) _ _).ext ((Ext.refl _).alloc _)
    have b0 : Blk w0 (w.heap.size + 1 + 1) #[.int .i64 0, .int .i64 0, .slice none 0 0] 35 := by subst hw0; simpa using (Blk.new ((w.alloc (.cells #[.int .i64 R, .int .i64 K', .slice A n cap] 35)).alloc (.cells #[.int .i64 K', .int .i64 C, .slice B m cap'] 35)) _ _)
    rw [← hw0]
    clear hw0
    go_wp2_with fail
    refine (l02Fit_any _ _ _ _ A n cap _ _ B m cap' xs ys _ (MAt.blk ba (hr.below hx0)) (MAt.blk bb (hq.below hx0))).mono ?_
    rintro e w1 ⟨rfl, hx⟩
    rw [hv]
    replace b0 := b0.ext hx
    replace ba := ba.ext hx
    replace bb := bb.ext hx
    replace hx0 := hx0.trans hx
    clear  hx
    go_wp2_with fail
    refine (l02Mul_any _ _ R K' C n m cap cap' A B xs ys _ u2 u4 u7 Hn.out Hm.out (MAt.blk ba (hr.below hx0)) (MAt.blk bb (hq.below hx0))).mono ?_
    rintro e w4 ⟨A3, k3, zs, hz, rfl, ho, hx⟩
    replace b0 := b0.ext hx
    have ho' := ho.base hx0.size
    replace hx0 := hx0.trans hx
    clear hx ho
    go_wp2_with fail
    refine (l02Give_any w.heap.size R C A3 (R * C) k3 zs _ ho' hx0.size).mono ?_
    rw [hz, ← HD.out]
    rintro e w5 ⟨A2, k2, rfl, ho, hx⟩
    replace b0 := b0.ext hx
    have y0 : w5.cell? ⟨w.heap.size + 1 + 1, 0, none⟩ = some (.int .i64 0) := b0.cell 0 rfl
    have y1 : w5.cell? ⟨w.heap.size + 1 + 1, 1, none⟩ = some (.int .i64 0) := b0.cell 1 rfl
    have y2 : w5.cell? ⟨w.heap.size + 1 + 1, 2, none⟩ = some (.slice none 0 0) := b0.cell 2 rfl
    have q0 := b0.free 0
    have q1 := b0.free 1
    have q2 := b0.free 2
    have hq := b0.lt
    go_wp2_with fail
    obtain ⟨k1, k2', k3⟩ := Own.resM (w := w) (u := .int .i64 d.r) (v := .int .i64 d.c) (x := .slice A2 d.xs.length k2) b0 ho (hx0.trans hx) (by omega)
    exact bodyPost_ret (resMB (x := .bool d.ok) rfl rfl rfl k3) rfl ⟨A2, k2, rfl, k1, k2'⟩

set_option maxRecDepth 20000 in
set_option maxHeartbeats 4000000 in
theorem implMulMatrices_any (r c : Int) (A : Option Addr) (n cap : Nat) (r' c' : Int) (B : Option Addr) (m cap' : Nat) (xs ys : List Nat) (w : World) (hr : Rds w A n (flts xs)) (hq : Rds w B m (flts ys)) (hcap : n ≤ cap) (_hcap' : m ≤ cap') :
    Calls Try.prog 91 #[.agg #[.int .i64 r, .int .i64 c, .slice A n cap], .agg #[.int .i64 r', .int .i64 c', .slice B m cap']] w (RetMD w (mulD r c r' c' xs ys)) := by
  have HL := Lib.hid hr.flen
  have HL' := Lib.hid hq.flen
  cases hv : fitB r c r' c' xs ys with
  | false =>
    have hd : mulD r c r' c' xs ys = MD.bad := by simp [mulD, hv]
    go_enter Try.func91, Try.ntmps91
    go_upto_region 1 with (fail)
    obtain ⟨w0, hw0⟩ : ∃ w0, w0 = (((w.alloc (.cells #[.int .i64 r, .int .i64 c, .slice A n cap] 35)).alloc (.cells #[.int .i64 r', .int .i64 c', .slice B m cap'] 35)).alloc (.cells #[.int .i64 0, .int .i64 0, .slice none 0 0] 35)) := ⟨_, rfl⟩
    have hx0 : Ext w w0 := by subst hw0; exact (((Ext.refl _).alloc _).alloc _).alloc _
    have ba : Blk w0 (w.heap.size) #[.int .i64 r, .int .i64 c, .slice A n cap] 35 := by subst hw0; exact (Blk.new w _ _).ext (((Ext.refl _).alloc _).alloc _)
    have bb : Blk w0 (w.heap.size + 1) #[.int .i64 r', .int .i64 c', .slice B m cap'] 35 := by subst hw0; simpa using (Blk.new (w.alloc (.cells #[.int .i64 r, .int .i64 c, .slice A n cap] 35)) _ _).ext ((Ext.refl _).alloc _)
    have b0 : Blk w0 (w.heap.size + 1 + 1) #[.int .i64 0, .int .i64 0, .slice none 0 0] 35 := by subst hw0; simpa using (Blk.new ((w.alloc (.cells #[.int .i64 r, .int .i64 c, .slice A n cap] 35)).alloc (.cells #[.int .i64 r', .int .i64 c', .slice B m cap'] 35)) _ _)
    rw [← hw0]
    clear hw0
    obtain ⟨c0, c1, c2, hr1⟩ := MAt.blk ba (hr.below hx0)
    obtain ⟨d0, d1, d2, hq1⟩ := MAt.blk bb (hq.below hx0)
    go_wp2_with fail
    refine (areFactors_any r c A n cap r' c' B m cap' xs ys _ hr1 hq1).mono ?_
    rintro e w1 ⟨rfl, hx⟩
    rw [hv]
    replace b0 := b0.ext hx
    replace hx0 := hx0.trans hx
    clear c0 c1 c2 d0 d1 d2 hx
    have y0 : w1.cell? ⟨w.heap.size + 1 + 1, 0, none⟩ = some (.int .i64 0) := b0.cell 0 rfl
    have y1 : w1.cell? ⟨w.heap.size + 1 + 1, 1, none⟩ = some (.int .i64 0) := b0.cell 1 rfl
    have y2 : w1.cell? ⟨w.heap.size + 1 + 1, 2, none⟩ = some (.slice none 0 0) := b0.cell 2 rfl
    have q0 := b0.free 0
    have q1 := b0.free 1
    have q2 := b0.free 2
    have hq := b0.lt
    go_wp2_with fail
    obtain ⟨k1, k2, k3⟩ := Own.resM (w := w) (u := .int .i64 0) (v := .int .i64 0) (x := .slice none 0 0) b0 (own_nil _ w.heap.size _) hx0 (by omega)
    exact bodyPost_ret (resMB (x := .bool false) rfl rfl rfl k3) rfl (RetMD.bad hd k2)
  | true =>
    obtain ⟨h1, h2, rfl⟩ := fit_of hv
    obtain ⟨R, K, rfl, rfl, u1, u2, u3, u4, u5⟩ := mat_nat h1
    obtain ⟨K', C, hK', rfl, _, _, u6, u7, u8⟩ := mat_nat h2
    obtain rfl : K' = K := by omega
    obtain ⟨d, hd⟩ : ∃ d, d = mulD R K' K' C xs ys := ⟨_, rfl⟩
    have hd' : d = giveM R C (tab C (mulF xs ys K' C) (R * C)) := by rw [hd]; simp [mulD, hv]
    have HD := Lib.hid hd'
    have Hn : Hid (n = R * K') := by have := HL.out; show n = _; omega
    have Hm : Hid (m = K' * C) := by have := HL'.out; show m = _; omega
    rw [← hd]
    clear hd hd' u5 u8 hK' h1 h2
    go_enter Try.func91, Try.ntmps91
    go_upto_region 1 with (fail)
    obtain ⟨w0, hw0⟩ : ∃ w0, w0 = (((w.alloc (.cells #[.int .i64 R, .int .i64 K', .slice A n cap] 35)).alloc (.cells #[.int .i64 K', .int .i64 C, .slice B m cap'] 35)).alloc (.cells #[.int .i64 0, .int .i64 0, .slice none 0 0] 35)) := ⟨_, rfl⟩
    have hx0 : Ext w w0 := by subst hw0; exact (((Ext.refl _).alloc _).alloc _).alloc _
    have ba : Blk w0 (w.heap.size) #[.int .i64 R, .int .i64 K', .slice A n cap] 35 := by subst hw0; exact (Blk.new w _ _).ext (((Ext.refl _).alloc _).alloc _)
    have bb : Blk w0 (w.heap.size + 1) #[.int .i64 K', .int .i64 C, .slice B m cap'] 35 := by subst hw0; simpa using (Blk.new (w.alloc (.cells #[.int .i64 R, .int .i64 K', .slice A n cap] 35)) _ _).ext ((Ext.refl _).alloc _)
    have b0 : Blk w0 (w.heap.size + 1 + 1) #[.int .i64 0, .int .i64 0, .slice none 0 0] 35 := by subst hw0; simpa using (Blk.new ((w.alloc (.cells #[.int .i64 R, .int .i64 K', .slice A n cap] 35)).alloc (.cells #[.int .i64 K', .int .i64 C, .slice B m cap'] 35)) _ _)
    rw [← hw0]
    clear hw0
    obtain ⟨c0, c1, c2, hr1⟩ := MAt.blk ba (hr.below hx0)
    obtain ⟨d0, d1, d2, hq1⟩ := MAt.blk bb (hq.below hx0)
    go_wp2_with fail
    refine (areFactors_any _ _ A n cap _ _ B m cap' xs ys _ hr1 hq1).mono ?_
    rintro e w1 ⟨rfl, hx⟩
    rw [hv]
    replace b0 := b0.ext hx
    replace ba := ba.ext hx
    replace bb := bb.ext hx
    replace hx0 := hx0.trans hx
    clear c0 c1 c2 d0 d1 d2 hr1 hq1 hx
    obtain ⟨c0, c1, c2, hr1⟩ := MAt.blk ba (hr.below hx0)
    obtain ⟨d0, d1, d2, hq1⟩ := MAt.blk bb (hq.below hx0)
    go_wp2_with fail
    refine (product_any R K' C n m cap cap' A B xs ys _ u2 u4 u7 u3 Hn.out Hm.out hcap hr1 hq1).mono ?_
    rintro e w4 ⟨A3, k3, zs, hz, rfl, ho, hx⟩
    replace b0 := b0.ext hx
    have ho' := ho.base hx0.size
    replace hx0 := hx0.trans hx
    clear hx ho c0 c1 c2 d0 d1 d2
    go_wp2_with fail
    refine (valid_any w.heap.size R C A3 (R * C) k3 zs _ ho' hx0.size).mono ?_
    rw [hz, ← HD.out]
    rintro e w5 ⟨A2, k2, rfl, ho, hx⟩
    replace b0 := b0.ext hx
    have y0 : w5.cell? ⟨w.heap.size + 1 + 1, 0, none⟩ = some (.int .i64 0) := b0.cell 0 rfl
    have y1 : w5.cell? ⟨w.heap.size + 1 + 1, 1, none⟩ = some (.int .i64 0) := b0.cell 1 rfl
    have y2 : w5.cell? ⟨w.heap.size + 1 + 1, 2, none⟩ = some (.slice none 0 0) := b0.cell 2 rfl
    have q0 := b0.free 0
    have q1 := b0.free 1
    have q2 := b0.free 2
    have hq := b0.lt
    go_wp2_with fail
    obtain ⟨k1, k2', k3⟩ := Own.resM (w := w) (u := .int .i64 d.r) (v := .int .i64 d.c) (x := .slice A2 d.xs.length k2) b0 ho (hx0.trans hx) (by omega)
    exact bodyPost_ret (resMB (x := .bool d.ok) rfl rfl rfl k3) rfl ⟨A2, k2, rfl, k1, k2'⟩

end Go.Proofs.Ytgjfdfmbknmpaaa
