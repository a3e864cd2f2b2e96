import Derived.Test.YtgjfdfmbknmpaaaM7
set_option linter.unusedVariables false
set_option linter.unusedSimpArgs false
namespace Go.Proofs.Ytgjfdfmbknmpaaa
open Go.RowKit

theorem mul_nat (R C : Nat) (hR : R ≤ 12) (hC : C ≤ 12) : IntKind.i64.wrap ((R : Int) * C) = ((R * C : Nat) : Int) ∧ R * C ≤ 144 := by
  have h1 : R * C ≤ 144 := Nat.mul_le_mul hR hC
  have e : (R : Int) * C = ((R * C : Nat) : Int) := by simp
  exact ⟨by rw [e]; exact IntWalk.i64_in _ (by omega), h1⟩
/-- The row and the column of the number i. -/
theorem rc_facts {i m R C : Nat} (hm : m = C * R) (hi : i < m) (h144 : m ≤ 144) : ∃ a b : Nat, a < C ∧ b < R ∧ Hid (i / R = a) ∧ Hid (i % R = b) ∧ (i : Int).tdiv R = (a : Int) ∧ (i : Int).tmod R = (b : Int) ∧ IntKind.i64.wrap (a : Int) = (a : Int) ∧ (R : Int) ≠ 0 ∧ R ≠ 0 := by
  have hR : 0 < R := by
    rcases Nat.eq_zero_or_pos R with h | h
    · subst h; omega
    · exact h
  have h1 : i / R ≤ 144 := Nat.le_trans (Nat.div_le_self _ _) (by omega)
  refine ⟨i / R, i % R, (Nat.div_lt_iff_lt_mul hR).2 (by omega), Nat.mod_lt _ hR, Lib.hid rfl, Lib.hid rfl, ?_, ?_, ?_, by omega, by omega⟩
  · rw [Int.tdiv_eq_ediv_of_nonneg (by omega)]; rfl
  · rw [Int.tmod_eq_emod_of_nonneg (by omega)]; rfl
  · obtain ⟨q, hq⟩ : ∃ q, q = i / R := ⟨_, rfl⟩
    rw [← hq] at h1 ⊢
    exact IntWalk.i64_in _ (by omega)

set_option maxHeartbeats 4000000 in
theorem l02Flip_any (b R C n cap : Nat) (A : Option Addr) (xs : List Nat) (w : World) (hR : R ≤ 12) (hC : C ≤ 12) (hn : n = R * C) (ha : MAt w b R C A n cap xs) :
    Calls Try.prog 134 #[.pointer (some ⟨b, 0, none⟩)] w (RetMat w C R (C * R) (flipF R C xs)) := by
  have Hn := Lib.hid hn
  clear hn
  obtain ⟨m, hm⟩ : ∃ m, m = C * R := ⟨_, rfl⟩
  obtain ⟨hw3, hm144⟩ := mul_nat R C hR hC
  have hmm : R * C = m := by rw [hm, Nat.mul_comm]
  rw [hmm] at hw3 hm144
  have Hm := Lib.hid hm
  unfold flipF
  rw [← hm]
  clear hm hmm
  go_enter Try.func134, Try.ntmps134
  go_upto_region 1 with (fail)
  have x0 : Ext w (w.alloc (.cells #[.int .i64 0, .int .i64 0, .slice none 0 0] 35)) := (Ext.refl _).alloc _
  have b0 : Blk (w.alloc (.cells #[.int .i64 0, .int .i64 0, .slice none 0 0] 35)) w.heap.size #[.int .i64 0, .int .i64 0, .slice none 0 0] 35 := Blk.new _ _ _
  obtain ⟨w0, hw0⟩ : ∃ w0, w0 = w.alloc (.cells #[.int .i64 0, .int .i64 0, .slice none 0 0] 35) := ⟨_, rfl⟩
  rw [← hw0] at b0 x0 ⊢
  have hs0 : w0.heap.size = w.heap.size + 1 := by rw [hw0]; simp
  clear hw0
  obtain ⟨c0, c1, c2, hr0⟩ := ha.ext x0
  refine wp_region_T (cs := []) [0, 1, 2, 3, 4, 5, 6, 7, 8, 9] [10] [8, 9] [] (fun i__ v => match i__ with | 8 => ∃ (A : Option Addr) (k : Nat), v = (.agg #[.int .i64 C, .int .i64 R, .slice A 0 k]) | 9 => ∃ b, v = (.pointer (some ⟨b, 0, none⟩)) | _ => False) (fun i__ v w' => match i__ with | 8 => OwnF w' w0.heap.size 39 v [2] (flts []) | 9 => BlkF w' v w0.heap.size #[.int .i64 0, .int .i64 0, .slice none 0 0] 35 | _ => True) (by kernel_rfl) (by kernel_rfl) (by intro i v w' w2 h hx; revert h; (try dsimp only); split <;> intro h <;> first | trivial | exact (by first | exact OwnF.ext h hx | exact BlkF.ext h hx)) ?_
  refine' wpT_det (o := ⟨some 5, Op.move (Operand.tmp 0), 85, "l02_matrices.go:144", #[], none⟩) rfl (by rfl) (by rfl) (fun w' hw' => ?_) ?_; rotate_left
  · go_simp <;> first | rfl | exact ⟨rfl, rfl⟩
  simp only [Act.put, List.setIfInBounds_toArray, List.set_cons_zero, List.set_cons_succ]
  refine' wpT_det (o := ⟨some 6, Op.nilCheck (Operand.tmp 5), 0, "l02_matrices.go:144", #[{ on := 0, ground := Ground.data }], none⟩) rfl (by rfl) (by rfl) (fun w' hw' => ?_) ?_; rotate_left
  · go_simp <;> first | rfl | exact ⟨rfl, rfl⟩
  simp only [Act.put, List.setIfInBounds_toArray, List.set_cons_zero, List.set_cons_succ]
  refine' wpT_det (o := ⟨some 7, Op.fieldAddr 35 (Operand.tmp 6) 1, 0, "l02_matrices.go:144", #[{ on := 1, ground := Ground.data }], none⟩) rfl (by rfl) (by rfl) (fun w' hw' => ?_) ?_; rotate_left
  · go_simp <;> first | rfl | exact ⟨rfl, rfl⟩
  simp only [Act.put, List.setIfInBounds_toArray, List.set_cons_zero, List.set_cons_succ]
  refine' wpT_det (o := ⟨some 8, Op.load 2 (Operand.tmp 7), 2, "l02_matrices.go:144", #[{ on := 2, ground := Ground.data }], none⟩) rfl (by rfl) (by rfl) (fun w' hw' => ?_) ?_; rotate_left
  · have c0_ := Ext.cell hw' c0; have c1_ := Ext.cell hw' c1; go_simp <;> first | rfl | exact ⟨rfl, rfl⟩
  simp only [Act.put, List.setIfInBounds_toArray, List.set_cons_zero, List.set_cons_succ]
  refine' wpT_det (o := ⟨some 9, Op.move (Operand.tmp 0), 85, "l02_matrices.go:144", #[], none⟩) rfl (by rfl) (by rfl) (fun w' hw' => ?_) ?_; rotate_left
  · go_simp <;> first | rfl | exact ⟨rfl, rfl⟩
  simp only [Act.put, List.setIfInBounds_toArray, List.set_cons_zero, List.set_cons_succ]
  refine' wpT_det (o := ⟨some 10, Op.nilCheck (Operand.tmp 9), 0, "l02_matrices.go:144", #[{ on := 4, ground := Ground.data }], none⟩) rfl (by rfl) (by rfl) (fun w' hw' => ?_) ?_; rotate_left
  · go_simp <;> first | rfl | exact ⟨rfl, rfl⟩
  simp only [Act.put, List.setIfInBounds_toArray, List.set_cons_zero, List.set_cons_succ]
  refine' wpT_det (o := ⟨some 11, Op.fieldAddr 35 (Operand.tmp 10) 0, 0, "l02_matrices.go:144", #[{ on := 5, ground := Ground.data }], none⟩) rfl (by rfl) (by rfl) (fun w' hw' => ?_) ?_; rotate_left
  · go_simp <;> first | rfl | exact ⟨rfl, rfl⟩
  simp only [Act.put, List.setIfInBounds_toArray, List.set_cons_zero, List.set_cons_succ]
  refine' wpT_det (o := ⟨some 12, Op.load 2 (Operand.tmp 11), 2, "l02_matrices.go:144", #[{ on := 6, ground := Ground.data }], none⟩) rfl (by rfl) (by rfl) (fun w' hw' => ?_) ?_; rotate_left
  · have c0_ := Ext.cell hw' c0; have c1_ := Ext.cell hw' c1; go_simp <;> first | rfl | exact ⟨rfl, rfl⟩
  simp only [Act.put, List.setIfInBounds_toArray, List.set_cons_zero, List.set_cons_succ]
  refine wpT_nd (o := ⟨some 13, Op.call { callee := Callee.value (Operand.func 127), args := #[Operand.tmp 8, Operand.tmp 12], argTypes := #[2, 2] }, 35, "l02_matrices.go:144", #[{ on := 3, ground := Ground.data }, { on := 7, ground := Ground.data }], none⟩) rfl (by rfl) (by rfl) (fun w' hw' hF R__ hGo => ?_) ⟨_, none, 0, rfl⟩ ?_
  · go_simp
    refine gives_enter rfl ?_
    refine (l02Blank_any C R _).mono ?_
    rintro e w2 ⟨A1, k1, ys, hy, rfl, o1, hx⟩
    exact ⟨_, rfl, hGo _ _ hx ⟨_, _, rfl⟩ (by obtain rfl : ys = [] := List.length_eq_zero_iff.1 (by rw [MO.len hy]; rfl); exact OwnF.of (o1.base hw'.size) rfl)⟩
  rintro _ ⟨A1, k1, rfl⟩
  simp only [Act.put, List.setIfInBounds_toArray, List.set_cons_zero, List.set_cons_succ]
  refine wpT_nd (o := ⟨some 3, Op.alloc 35, 0, "l02_matrices.go:144", #[], none⟩) rfl (by rfl) (by rfl) (fun w' hw' hF R__ hGo => ?_) ⟨_, 0, rfl⟩ ?_
  · go_simp; exact gives_value rfl (hGo _ _ ((Ext.refl _).alloc _) ⟨_, rfl⟩ (fun b e => by simp only [Value.pointer.injEq, Option.some.injEq, Addr.mk.injEq, and_true] at e; subst e; exact ⟨Blk.new _ _ _, hw'.size⟩))
  rintro _ ⟨nb, rfl⟩
  simp only [Act.put, List.setIfInBounds_toArray, List.set_cons_zero, List.set_cons_succ]
  refine wpT_nil (fun w2 hw' hF => ?_)
  show wpList _ _ _ [(⟨none, Op.store 35 (Operand.tmp 3) (Operand.tmp 13), 0, "l02_matrices.go:144", #[{ on := 9, ground := Ground.data }, { on := 8, ground := Ground.data }, { on := 8, ground := Ground.chain }, { on := 0, ground := Ground.phase }, { on := 1, ground := Ground.phase }, { on := 2, ground := Ground.phase }, { on := 3, ground := Ground.phase }, { on := 4, ground := Ground.phase }, { on := 5, ground := Ground.phase }, { on := 6, ground := Ground.phase }, { on := 7, ground := Ground.phase }, { on := 8, ground := Ground.phase }, { on := 9, ground := Ground.phase }], none⟩ : Oper)] _ _
  have o1 : Own w2 w0.heap.size 39 (.slice A1 0 k1) (flts []) := (hF 8 _ rfl) _ _ _ rfl
  obtain ⟨h1, hb⟩ := hF 9 _ rfl nb rfl
  clear hF
  have hx := x0.trans hw'.undrew
  replace b0 := b0.ext hw'.undrew
  clear c0 c1 c2 hr0 x0 hw'
  have hne : w.heap.size ≠ nb := by omega
  have z0 : w2.cell? ⟨nb, 0, none⟩ = some (.int .i64 0) := h1.cell 0 rfl
  have z1 : w2.cell? ⟨nb, 1, none⟩ = some (.int .i64 0) := h1.cell 1 rfl
  have z2 : w2.cell? ⟨nb, 2, none⟩ = some (.slice none 0 0) := h1.cell 2 rfl
  have q0 := h1.free 0
  have q1 := h1.free 1
  have q2 := h1.free 2
  go_wp2_with fail
  clear z0 z1 z2 q0 q1 q2
  obtain ⟨w3, hw3'⟩ : ∃ v : World, v = (((w2.setCell ⟨nb, 0, none⟩ (.int .i64 C)).setCell ⟨nb, 1, none⟩ (.int .i64 R)).setCell ⟨nb, 2, none⟩ (.slice A1 0 k1)) := ⟨_, rfl⟩
  rw [← hw3']
  have hst : MO w nb w.heap.size C R 0 (tab R (fun i k => c32 (at_ xs C k i)) 0) w3 := by
    obtain ⟨k1', k2, k3⟩ := Own.resM (w := w) (base := w.heap.size) (u := .int .i64 C) (v := .int .i64 R) (x := .slice A1 0 k1) h1 (o1.base (by omega)) hx (by omega)
    rw [hw3']
    exact ⟨A1, k1, [], rfl, k3, ((b0.other hne _ _).other hne _ _).other hne _ _, k1', k2⟩
  clear hw3' o1 h1 b0 hx
  go_loopw [4] (fun u wr => ∃ i : Nat, i ≤ m ∧ u = .int .i64 i ∧ MO w nb w.heap.size C R i (tab R (fun i k => c32 (at_ xs C k i)) i) wr) (fun u _ => m - (intOf u).toNat)
  case atStart => exact ⟨0, Nat.zero_le _, rfl, hst⟩
  case round =>
    clear hst
    obtain ⟨i, hi, rfl, A2, k2, ys, hy, h1, h2, h3, h4⟩ := hrel
    obtain ⟨c0, c1, c2, hr0⟩ := ha.ext h4
    go_upto_region 3 with (fail)
    refine wp_region_T (cs := []) [0, 1, 2, 3, 4, 5, 6, 7, 8, 9, 10] [] [] [] (fun _ _ => False) (fun _ _ _ => True) (by kernel_rfl) (by kernel_rfl) (fun _ _ _ _ _ _ => trivial) ?_
    refine' wpT_det (o := ⟨some 14, Op.move (Operand.tmp 4), 2, "l02_matrices.go:145", #[], none⟩) rfl (by rfl) (by rfl) (fun w' hw' => ?_) ?_; rotate_left
    · go_simp <;> first | rfl | exact ⟨rfl, rfl⟩
    simp only [Act.put, List.setIfInBounds_toArray, List.set_cons_zero, List.set_cons_succ]
    refine' wpT_det (o := ⟨some 15, Op.move (Operand.tmp 0), 85, "l02_matrices.go:145", #[], none⟩) rfl (by rfl) (by rfl) (fun w' hw' => ?_) ?_; rotate_left
    · go_simp <;> first | rfl | exact ⟨rfl, rfl⟩
    simp only [Act.put, List.setIfInBounds_toArray, List.set_cons_zero, List.set_cons_succ]
    refine' wpT_det (o := ⟨some 16, Op.nilCheck (Operand.tmp 15), 0, "l02_matrices.go:145", #[{ on := 1, ground := Ground.data }], none⟩) rfl (by rfl) (by rfl) (fun w' hw' => ?_) ?_; rotate_left
    · go_simp <;> first | rfl | exact ⟨rfl, rfl⟩
    simp only [Act.put, List.setIfInBounds_toArray, List.set_cons_zero, List.set_cons_succ]
    refine' wpT_det (o := ⟨some 17, Op.fieldAddr 35 (Operand.tmp 16) 0, 0, "l02_matrices.go:145", #[{ on := 2, ground := Ground.data }], none⟩) rfl (by rfl) (by rfl) (fun w' hw' => ?_) ?_; rotate_left
    · go_simp <;> first | rfl | exact ⟨rfl, rfl⟩
    simp only [Act.put, List.setIfInBounds_toArray, List.set_cons_zero, List.set_cons_succ]
    refine' wpT_det (o := ⟨some 18, Op.load 2 (Operand.tmp 17), 2, "l02_matrices.go:145", #[{ on := 3, ground := Ground.data }], none⟩) rfl (by rfl) (by rfl) (fun w' hw' => ?_) ?_; rotate_left
    · have c0_ := Ext.cell hw' c0; have c1_ := Ext.cell hw' c1; go_simp <;> first | rfl | exact ⟨rfl, rfl⟩
    simp only [Act.put, List.setIfInBounds_toArray, List.set_cons_zero, List.set_cons_succ]
    refine' wpT_det (o := ⟨some 19, Op.move (Operand.tmp 0), 85, "l02_matrices.go:145", #[], none⟩) rfl (by rfl) (by rfl) (fun w' hw' => ?_) ?_; rotate_left
    · go_simp <;> first | rfl | exact ⟨rfl, rfl⟩
    simp only [Act.put, List.setIfInBounds_toArray, List.set_cons_zero, List.set_cons_succ]
    refine' wpT_det (o := ⟨some 20, Op.nilCheck (Operand.tmp 19), 0, "l02_matrices.go:145", #[{ on := 5, ground := Ground.data }], none⟩) rfl (by rfl) (by rfl) (fun w' hw' => ?_) ?_; rotate_left
    · go_simp <;> first | rfl | exact ⟨rfl, rfl⟩
    simp only [Act.put, List.setIfInBounds_toArray, List.set_cons_zero, List.set_cons_succ]
    refine' wpT_det (o := ⟨some 21, Op.fieldAddr 35 (Operand.tmp 20) 1, 0, "l02_matrices.go:145", #[{ on := 6, ground := Ground.data }], none⟩) rfl (by rfl) (by rfl) (fun w' hw' => ?_) ?_; rotate_left
    · go_simp <;> first | rfl | exact ⟨rfl, rfl⟩
    simp only [Act.put, List.setIfInBounds_toArray, List.set_cons_zero, List.set_cons_succ]
    refine' wpT_det (o := ⟨some 22, Op.load 2 (Operand.tmp 21), 2, "l02_matrices.go:145", #[{ on := 7, ground := Ground.data }], none⟩) rfl (by rfl) (by rfl) (fun w' hw' => ?_) ?_; rotate_left
    · have c0_ := Ext.cell hw' c0; have c1_ := Ext.cell hw' c1; go_simp <;> first | rfl | exact ⟨rfl, rfl⟩
    simp only [Act.put, List.setIfInBounds_toArray, List.set_cons_zero, List.set_cons_succ]
    refine' wpT_det (o := ⟨some 23, Op.binOp BinOp.mul 2 (Operand.tmp 18) (Operand.tmp 22) 2, 2, "l02_matrices.go:145", #[{ on := 4, ground := Ground.data }, { on := 8, ground := Ground.data }], none⟩) rfl (by rfl) (by rfl) (fun w' hw' => ?_) ?_; rotate_left
    · go_simp <;> first | rfl | exact ⟨rfl, rfl⟩
    simp only [Act.put, List.setIfInBounds_toArray, List.set_cons_zero, List.set_cons_succ]
    refine' wpT_det (o := ⟨some 24, Op.binOp BinOp.lss 2 (Operand.tmp 14) (Operand.tmp 23) 2, 4, "l02_matrices.go:145", #[{ on := 0, ground := Ground.data }, { on := 9, ground := Ground.data }], none⟩) rfl (by rfl) (by rfl) (fun w' hw' => ?_) ?_; rotate_left
    · go_simp <;> first | rfl | exact ⟨rfl, rfl⟩
    simp only [Act.put, List.setIfInBounds_toArray, List.set_cons_zero, List.set_cons_succ]
    refine wpT_nil (fun w4 hw' hF => ?_)
    refine wpList_nil ?_
    have hx := hw'.undrew
    clear hF hw' c0 c1 c2 hr0
    replace h1 := h1.ext hx
    replace h2 := h2.ext hx
    replace h3 := h3.ext hx
    replace h4 := h4.trans hx
    clear hx
    obtain ⟨c0, c1, c2, hr0⟩ := ha.ext h4
    by_cases hlt : i < m
    · obtain ⟨p, q, g1, g2, Hp, Hq, d1, d2, d3, d4, d5⟩ := rc_facts Hm.out hlt hm144
      have z2 : w4.cell? ⟨nb, 2, none⟩ = some (.slice A2 i k2) := h1.cell 2 rfl
      clear c1 c2
      go_upto_region 5 with (fail)
      refine wp_region_T (cs := []) [0, 1, 2, 3, 4, 5, 6, 7, 8, 9, 10, 11, 12, 13, 14, 15, 16] [17, 18, 19] [15, 16] [] (fun i__ v => match i__ with | 15 => v = (.float .f32 (at_ xs C q p)) | 16 => ∃ g, v = .slice (some ⟨g, 0, none⟩) 1 1 | _ => False) (fun i__ v w' => match i__ with | 16 => One w' v (.float .f32 (at_ xs C q p)) 39 | _ => True) (by kernel_rfl) (by kernel_rfl) (by intro i v w' w2 h hx; revert h; (try dsimp only); split <;> intro h <;> first | trivial | exact One.ext h hx) ?_
      refine' wpT_det (o := ⟨some 27, Op.fieldAddr 35 (Operand.tmp 3) 2, 0, "l02_matrices.go:146", #[], none⟩) rfl (by rfl) (by rfl) (fun w' hw' => ?_) ?_; rotate_left
      · go_simp <;> first | rfl | exact ⟨rfl, rfl⟩
      simp only [Act.put, List.setIfInBounds_toArray, List.set_cons_zero, List.set_cons_succ]
      refine' wpT_det (o := ⟨some 28, Op.load 22 (Operand.tmp 27), 22, "l02_matrices.go:146", #[{ on := 0, ground := Ground.data }], none⟩) rfl (by rfl) (by rfl) (fun w' hw' => ?_) ?_; rotate_left
      · have c0_ := Ext.cell hw' c0; have z2_ := Ext.cell hw' z2; go_simp <;> first | rfl | exact ⟨rfl, rfl⟩
      simp only [Act.put, List.setIfInBounds_toArray, List.set_cons_zero, List.set_cons_succ]
      refine' wpT_det (o := ⟨some 29, Op.move (Operand.tmp 0), 85, "l02_matrices.go:146", #[], none⟩) rfl (by rfl) (by rfl) (fun w' hw' => ?_) ?_; rotate_left
      · go_simp <;> first | rfl | exact ⟨rfl, rfl⟩
      simp only [Act.put, List.setIfInBounds_toArray, List.set_cons_zero, List.set_cons_succ]
      refine' wpT_det (o := ⟨some 30, Op.move (Operand.tmp 4), 2, "l02_matrices.go:146", #[], none⟩) rfl (by rfl) (by rfl) (fun w' hw' => ?_) ?_; rotate_left
      · go_simp <;> first | rfl | exact ⟨rfl, rfl⟩
      simp only [Act.put, List.setIfInBounds_toArray, List.set_cons_zero, List.set_cons_succ]
      refine' wpT_det (o := ⟨some 31, Op.move (Operand.tmp 0), 85, "l02_matrices.go:146", #[], none⟩) rfl (by rfl) (by rfl) (fun w' hw' => ?_) ?_; rotate_left
      · go_simp <;> first | rfl | exact ⟨rfl, rfl⟩
      simp only [Act.put, List.setIfInBounds_toArray, List.set_cons_zero, List.set_cons_succ]
      refine' wpT_det (o := ⟨some 32, Op.nilCheck (Operand.tmp 31), 0, "l02_matrices.go:146", #[{ on := 4, ground := Ground.data }], none⟩) rfl (by rfl) (by rfl) (fun w' hw' => ?_) ?_; rotate_left
      · go_simp <;> first | rfl | exact ⟨rfl, rfl⟩
      simp only [Act.put, List.setIfInBounds_toArray, List.set_cons_zero, List.set_cons_succ]
      refine' wpT_det (o := ⟨some 33, Op.fieldAddr 35 (Operand.tmp 32) 0, 0, "l02_matrices.go:146", #[{ on := 5, ground := Ground.data }], none⟩) rfl (by rfl) (by rfl) (fun w' hw' => ?_) ?_; rotate_left
      · go_simp <;> first | rfl | exact ⟨rfl, rfl⟩
      simp only [Act.put, List.setIfInBounds_toArray, List.set_cons_zero, List.set_cons_succ]
      refine' wpT_det (o := ⟨some 34, Op.load 2 (Operand.tmp 33), 2, "l02_matrices.go:146", #[{ on := 6, ground := Ground.data }], none⟩) rfl (by rfl) (by rfl) (fun w' hw' => ?_) ?_; rotate_left
      · have c0_ := Ext.cell hw' c0; have z2_ := Ext.cell hw' z2; go_simp <;> first | rfl | exact ⟨rfl, rfl⟩
      simp only [Act.put, List.setIfInBounds_toArray, List.set_cons_zero, List.set_cons_succ]
      refine' wpT_det (o := ⟨some 35, Op.binOp BinOp.rem 2 (Operand.tmp 30) (Operand.tmp 34) 2, 2, "l02_matrices.go:146", #[{ on := 3, ground := Ground.data }, { on := 7, ground := Ground.data }], none⟩) rfl (by rfl) (by rfl) (fun w' hw' => ?_) ?_; rotate_left
      · go_simp <;> first | rfl | exact ⟨rfl, rfl⟩
      simp only [Act.put, List.setIfInBounds_toArray, List.set_cons_zero, List.set_cons_succ]
      refine' wpT_det (o := ⟨some 36, Op.move (Operand.tmp 4), 2, "l02_matrices.go:146", #[], none⟩) rfl (by rfl) (by rfl) (fun w' hw' => ?_) ?_; rotate_left
      · go_simp <;> first | rfl | exact ⟨rfl, rfl⟩
      simp only [Act.put, List.setIfInBounds_toArray, List.set_cons_zero, List.set_cons_succ]
      refine' wpT_det (o := ⟨some 37, Op.move (Operand.tmp 0), 85, "l02_matrices.go:146", #[], none⟩) rfl (by rfl) (by rfl) (fun w' hw' => ?_) ?_; rotate_left
      · go_simp <;> first | rfl | exact ⟨rfl, rfl⟩
      simp only [Act.put, List.setIfInBounds_toArray, List.set_cons_zero, List.set_cons_succ]
      refine' wpT_det (o := ⟨some 38, Op.nilCheck (Operand.tmp 37), 0, "l02_matrices.go:146", #[{ on := 10, ground := Ground.data }], none⟩) rfl (by rfl) (by rfl) (fun w' hw' => ?_) ?_; rotate_left
      · go_simp <;> first | rfl | exact ⟨rfl, rfl⟩
      simp only [Act.put, List.setIfInBounds_toArray, List.set_cons_zero, List.set_cons_succ]
      refine' wpT_det (o := ⟨some 39, Op.fieldAddr 35 (Operand.tmp 38) 0, 0, "l02_matrices.go:146", #[{ on := 11, ground := Ground.data }], none⟩) rfl (by rfl) (by rfl) (fun w' hw' => ?_) ?_; rotate_left
      · go_simp <;> first | rfl | exact ⟨rfl, rfl⟩
      simp only [Act.put, List.setIfInBounds_toArray, List.set_cons_zero, List.set_cons_succ]
      refine' wpT_det (o := ⟨some 40, Op.load 2 (Operand.tmp 39), 2, "l02_matrices.go:146", #[{ on := 12, ground := Ground.data }], none⟩) rfl (by rfl) (by rfl) (fun w' hw' => ?_) ?_; rotate_left
      · have c0_ := Ext.cell hw' c0; have z2_ := Ext.cell hw' z2; go_simp <;> first | rfl | exact ⟨rfl, rfl⟩
      simp only [Act.put, List.setIfInBounds_toArray, List.set_cons_zero, List.set_cons_succ]
      refine' wpT_det (o := ⟨some 41, Op.binOp BinOp.quo 2 (Operand.tmp 36) (Operand.tmp 40) 2, 2, "l02_matrices.go:146", #[{ on := 9, ground := Ground.data }, { on := 13, ground := Ground.data }], none⟩) rfl (by rfl) (by rfl) (fun w' hw' => ?_) ?_; rotate_left
      · go_simp <;> first | rfl | exact ⟨rfl, rfl⟩
      simp only [Act.put, List.setIfInBounds_toArray, List.set_cons_zero, List.set_cons_succ]
      refine wpT_nd (o := ⟨some 42, Op.call { callee := Callee.value (Operand.func 107), args := #[Operand.tmp 29, Operand.tmp 35, Operand.tmp 41], argTypes := #[85, 2, 2] }, 39, "l02_matrices.go:146", #[{ on := 2, ground := Ground.data }, { on := 8, ground := Ground.data }, { on := 14, ground := Ground.data }], none⟩) rfl (by rfl) (by rfl) (fun w' hw' hF R__ hGo => ?_) ⟨_, rfl⟩ ?_
      · go_simp
        refine gives_enter rfl ?_
        refine (l02At_any b R C q p n cap A xs _ g2 g1 hR hC Hn.out (ha.ext (h4.trans hw'.undrew))).mono ?_
        rintro e w2 ⟨rfl, hx⟩
        exact ⟨_, rfl, hGo _ _ hx rfl trivial⟩
      intro v hv
      obtain rfl : v = (.float .f32 (at_ xs C q p)) := hv
      simp only [Act.put, List.setIfInBounds_toArray, List.set_cons_zero, List.set_cons_succ]
      refine wpT_nd (o := ⟨some 43, Op.buildSlice 22 1 #[(0, Operand.tmp 42)], 22, "l02_matrices.go:146", #[{ on := 15, ground := Ground.data }], none⟩) rfl (by rfl) (by rfl) (fun w' hw' hF R__ hGo => ?_) ⟨_, 0, rfl⟩ ?_
      · go_simp; exact gives_value rfl (hGo _ _ ((Ext.refl _).alloc _) ⟨_, rfl⟩ (One.new _ _ _))
      rintro _ ⟨g1', rfl⟩
      simp only [Act.put, List.setIfInBounds_toArray, List.set_cons_zero, List.set_cons_succ]
      refine wpT_nil (fun w5 hw' hF => ?_)
      show wpList _ _ _ [(⟨some 44, Op.call { callee := Callee.builtin Builtin.append, args := #[Operand.tmp 28, Operand.tmp 43], argTypes := #[22, 22] }, 22, "l02_matrices.go:146", #[{ on := 1, ground := Ground.data }, { on := 16, ground := Ground.data }, { on := 15, ground := Ground.chain }], none⟩ : Oper), (⟨some 45, Op.fieldAddr 35 (Operand.tmp 3) 2, 0, "l02_matrices.go:146", #[{ on := 0, ground := Ground.phase }, { on := 1, ground := Ground.phase }, { on := 2, ground := Ground.phase }, { on := 3, ground := Ground.phase }, { on := 4, ground := Ground.phase }, { on := 5, ground := Ground.phase }, { on := 6, ground := Ground.phase }, { on := 7, ground := Ground.phase }, { on := 8, ground := Ground.phase }, { on := 9, ground := Ground.phase }, { on := 10, ground := Ground.phase }, { on := 11, ground := Ground.phase }, { on := 12, ground := Ground.phase }, { on := 13, ground := Ground.phase }, { on := 14, ground := Ground.phase }, { on := 15, ground := Ground.phase }, { on := 16, ground := Ground.phase }, { on := 17, ground := Ground.phase }], none⟩ : Oper), (⟨none, Op.store 22 (Operand.tmp 45) (Operand.tmp 44), 0, "l02_matrices.go:146", #[{ on := 18, ground := Ground.data }, { on := 17, ground := Ground.data }, { on := 17, ground := Ground.chain }, { on := 0, ground := Ground.phase }, { on := 1, ground := Ground.phase }, { on := 2, ground := Ground.phase }, { on := 3, ground := Ground.phase }, { on := 4, ground := Ground.phase }, { on := 5, ground := Ground.phase }, { on := 6, ground := Ground.phase }, { on := 7, ground := Ground.phase }, { on := 8, ground := Ground.phase }, { on := 9, ground := Ground.phase }, { on := 10, ground := Ground.phase }, { on := 11, ground := Ground.phase }, { on := 12, ground := Ground.phase }, { on := 13, ground := Ground.phase }, { on := 14, ground := Ground.phase }, { on := 15, ground := Ground.phase }, { on := 16, ground := Ground.phase }, { on := 17, ground := Ground.phase }], none⟩ : Oper)] _ _
      have hg : One w5 (.slice (some ⟨g1', 0, none⟩) 1 1) (.float .f32 (at_ xs C q p)) 39 := hF 16 _ rfl
      have hx := hw'.undrew
      clear hF hw' z2 c0 hr0
      replace h1 := h1.ext hx
      replace h2 := h2.ext hx
      replace h3 := h3.ext hx
      replace h4 := h4.trans hx
      clear hx
      have hsz := h4.size
      have hl0 := h3.len
      have hlc : (flts ys).length = i := hl0
      have hf := h1.free 2
      have hc := h1.cell 2 rfl
      go_wp2_with (at_builtin; go_loud (refine wpList_app1 rfl _ _ _ rfl w5 w.heap.size 39 (.float .f32 0) 4 Try.underlying22 info_f32 rfl (by decide) (.slice A2 i k2) (flts ys) rfl g1' (.float .f32 (at_ xs C q p)) rfl hg h3 rfl (by omega) hsz ?_); rw [hl0]; intro A' c' w6 h5 h6 h7; clear hf hc; have b1 := h1.wr h6 h3 (by decide); have hf := b1.free 2; have hq := b1.lt; have hc := b1.cell 2 rfl)
      go_roundw
      case rel =>
        refine ⟨i + 1, by omega, by go_num, ?_⟩
        have := MO.app (by have := h1.lt; omega) hne hy h1 h2 h3 h4 h5 h6
        rwa [← Hp.out, ← Hq.out, tab_next (fun i k => c32 (at_ xs C k i)) i] at this
      case measure => simp [intOf]; omega
    · obtain rfl : i = m := by omega
      have z0 : w4.cell? ⟨nb, 0, none⟩ = some (.int .i64 C) := h1.cell 0 rfl
      have z1 : w4.cell? ⟨nb, 1, none⟩ = some (.int .i64 R) := h1.cell 1 rfl
      have z2 : w4.cell? ⟨nb, 2, none⟩ = some (.slice A2 i k2) := h1.cell 2 rfl
      have y0 : w4.cell? ⟨w.heap.size, 0, none⟩ = some (.int .i64 0) := h2.cell 0 rfl
      have y1 : w4.cell? ⟨w.heap.size, 1, none⟩ = some (.int .i64 0) := h2.cell 1 rfl
      have y2 : w4.cell? ⟨w.heap.size, 2, none⟩ = some (.slice none 0 0) := h2.cell 2 rfl
      have q0 := h2.free 0
      have q1 := h2.free 1
      have q2 := h2.free 2
      have hq := h2.lt
      go_wp2_with fail
      obtain ⟨j1, j2, j3⟩ := Own.resM (w := w) (u := .int .i64 C) (v := .int .i64 R) (x := .slice A2 i k2) h2 h3 h4 (Nat.le_refl _)
      exact bodyPost_ret (resM rfl rfl j3) rfl ⟨A2, k2, ys, hy, rfl, j1, j2⟩

end Go.Proofs.Ytgjfdfmbknmpaaa
