
import Derived.Test.YtkifpligpobiaaaQ4
set_option linter.unusedVariables false
set_option linter.unusedSimpArgs false

namespace Go.Proofs.Ytkifpligpobiaaa

open Go.RowKit


/-- Rows and columns exchanged, as far as row i, column k. -/
def flp (M : Sqr) (i k : Nat) : Sqr := fun a b => if b < i ∨ (b = i ∧ a < k) then M b a else none
def flipM (M : Sqr) : Sqr := fun a b => M b a
theorem flp_next (M : Sqr) (i k : Nat) : updM (flp M i k) k i (M i k) = flp M i (k + 1) := by
  funext a b
  by_cases e : a = k ∧ b = i
  · obtain ⟨rfl, rfl⟩ := e
    rw [updM_same]
    unfold flp
    rw [if_pos (by omega)]
  · rw [updM_other _ e]
    unfold flp
    by_cases h : b < i ∨ (b = i ∧ a < k)
    · rw [if_pos h, if_pos (by omega)]
    · rw [if_neg h, if_neg (by omega)]
theorem flp_zero (M : Sqr) : flp M 0 0 = noneM := by
  funext a b
  unfold flp
  rw [if_neg (by omega)]
  rfl
theorem flp_row {n : Nat} (M : Sqr) (i : Nat) : ∀ a b, a < n → b < n → flp M i n a b = flp M (i + 1) 0 a b := by
  intro a b ha _
  unfold flp
  by_cases h : b < i + 1
  · rw [if_pos (by omega), if_pos (by omega)]
  · rw [if_neg (by omega), if_neg (by omega)]
theorem flp_all {n : Nat} (M : Sqr) : ∀ a b, a < n → b < n → flp M n 0 a b = flipM M a b := by
  intro a b _ hb
  unfold flp
  rw [if_pos (by omega)]
  rfl
theorem FU.congr {w0 : World} {b n N : Nat} {M1 M2 : Sqr} {w : World} (h : FU w0 b n N M1 M1 w) (e : ∀ i j, i < n → j < n → M1 i j = M2 i j) : FU w0 b n N M2 M2 w := by
  obtain ⟨A, k, V, q, ys, h0, h1, h2, h3, h4⟩ := h
  have et : tb n M1 = tb n M2 := tb_congr fun i j hi hj => by rw [e i j hi hj]
  rw [et] at h2
  exact ⟨A, k, V, q, ys, h0.trans (nb_congr fun i j hi hj => by rw [e i j hi hj]), h1, h2, h3, h4⟩

set_option maxRecDepth 20000 in
set_option maxHeartbeats 8000000 in
theorem l05Flip_any (b n N : Nat) (A : Option Addr) (k : Nat) (V : Option Addr) (q : Nat) (M : Sqr) (ys : List Nat) (hn1 : 1 ≤ n) (hn32 : n ≤ 32) (hN : N = n * n) (w : World) (ha : FAt w b n N A k V q M ys) :
    Calls Try.prog 122 #[.pointer (some ⟨b, 0, none⟩)] w (RetFu w n (flipM M)) := by
  have HN := Lib.hid hN
  have hN1 : 1 ≤ N := by rw [hN]; exact Nat.mul_pos hn1 hn1
  unfold RetFu
  rw [← hN]
  clear hN
  have HA := Lib.hid ha
  have a0 := ha.c0
  clear ha
  go_enter Try.func122, Try.ntmps122
  go_upto_region 1 with (fail)
  go_upto_region 1 with (fail)
  have hx0 : Ext w (w.alloc (.cells #[.int .i64 0, .slice none 0 0, .slice none 0 0] 71)) := (Ext.refl _).alloc _
  have b0 := Blk.new w #[.int .i64 0, .slice none 0 0, .slice none 0 0] 71
  obtain ⟨w0, hw0⟩ : ∃ w0 : World, w0 = w.alloc (.cells #[.int .i64 0, .slice none 0 0, .slice none 0 0] 71) := ⟨_, rfl⟩
  rw [← hw0] at hx0 b0 ⊢
  clear hw0
  replace a0 := hx0.cell a0
  go_wp2_with fail
  refine (l05Blank_any n hn32 _).mono ?_
  rintro e w1 ⟨T, k2, U, q2, zs, rfl, hy, o1, o2, hx⟩
  rw [← HN.out] at o1 o2
  rw [← HN.out]
  go_upto_region 2 with (fail)
  have hst : FU w0 w1.heap.size n N (flp M 0 0) (flp M 0 0) (w1.alloc (.cells #[.int .i64 n, .slice T N k2, .slice U N q2] 71)) := by
    rw [flp_zero]
    exact ⟨T, k2, U, q2, zs, hy, Blk.new _ _ _, o1.ext ((Ext.refl _).alloc _), o2.ext ((Ext.refl _).alloc _), hx.alloc _⟩
  obtain ⟨w2, hw2⟩ : ∃ v : World, v = w1.alloc (.cells #[.int .i64 n, .slice T N k2, .slice U N q2] 71) := ⟨_, rfl⟩
  rw [← hw2] at hst ⊢
  have hle : w0.heap.size ≤ w1.heap.size := hx.size
  clear hw2 o1 o2 hx hy a0
  go_wp2_with fail
  go_loopw [4] (fun u wr => ∃ i : Nat, i ≤ n ∧ u = .int .i64 i ∧ FU w0 w1.heap.size n N (flp M i 0) (flp M i 0) wr) (fun u _ => n - (intOf u).toNat)
  case atStart => exact ⟨0, Nat.zero_le _, rfl, hst⟩
  case round =>
    rename World => wA
    clear hst
    obtain ⟨i, hi, rfl, hst⟩ := hrel
    have xA : Ext w wA := by obtain ⟨_, _, _, _, _, _, _, _, _, h4⟩ := hst; exact hx0.trans h4
    have c0 := xA.cell HA.out.c0
    by_cases hlt : i < n
    · have g1 : IntKind.i64.wrap ((i : Int) + 1) = (i : Int) + 1 := IntWalk.i64_in _ (by omega)
      go_wp2_with fail
      go_loopw [5] (fun u wr => ∃ k : Nat, k ≤ n ∧ u = .int .i64 k ∧ FU w0 w1.heap.size n N (flp M i k) (flp M i k) wr) (fun u _ => n - (intOf u).toNat)
      case atStart => exact ⟨0, Nat.zero_le _, rfl, hst⟩
      case round =>
        rename World => wB
        clear hst xA c0
        obtain ⟨k, hk, rfl, hst⟩ := hrel
        have xB : Ext w wB := by obtain ⟨_, _, _, _, _, _, _, _, _, h4⟩ := hst; exact hx0.trans h4
        have c0 := xB.cell HA.out.c0
        by_cases hlk : k < n
        · obtain ⟨i1, i2, i3, i4, i5, i6⟩ := ix32 hlt hlk hn32
          obtain ⟨j1, j2, j3, j4, j5, j6⟩ := ix32 hlk hlt hn32
          rw [← HN.out] at i4 i6 j4 j6
          have i7 : i * n + k < N := by omega
          have j7 : k * n + i < N := by omega
          have g4 : IntKind.i64.wrap ((k : Int) + 1) = (k : Int) + 1 := IntWalk.i64_in _ (by omega)
          have c1 := xB.cell HA.out.c1
          obtain ⟨ad, rfl, hd⟩ := (HA.out.ht.below xB).boolN (i * n + k) i7
          rw [tb_at M hlt hlk] at hd
          have HT : Hid ((tb n (flp M i k)).set (k * n + i) (M i k).isSome = tb n (flp M i (k + 1))) := by
            show _ = _
            rw [← flp_next]
            exact tb_set hlk hlt (by rw [updM_same]) (fun a b h => by rw [updM_other _ h])
          have HNB : Hid ((nb n (flp M i k)).set (k * n + i) ((M i k).getD (some 0)) = nb n (flp M i (k + 1))) := by
            show _ = _
            rw [← flp_next]
            exact nb_set hlk hlt (by rw [updM_same]) (fun a b h => by rw [updM_other _ h])
          obtain ⟨t, ht⟩ : ∃ t, t = (M i k).isSome := ⟨_, rfl⟩
          rw [← ht] at hd HT
          clear ht
          obtain ⟨T1, k1, U1, q1, zs, h0, h1, h2, h3, h4⟩ := hst
          have lt := h2.reads.blen
          obtain ⟨g, rfl, _⟩ := h2.head (by omega)
          have z1 : wB.cell? ⟨w1.heap.size, 1, none⟩ = some (.slice (some ⟨g, 0, none⟩) N k1) := h1.cell 1 rfl
          go_wp2_with fail
          refine wp_region_T (cs := []) [0, 1, 2, 3, 4, 5, 6, 7, 8, 9, 10, 11, 12, 13, 14, 15, 16, 17, 18, 19, 20, 21, 22, 23] [24, 25] [] [] (fun _ _ => False) (fun _ _ _ => True) (by kernel_rfl) (by kernel_rfl) (fun _ _ _ _ _ _ => trivial) ?_
          refine' wpT_det (o := ⟨some 27, Op.fieldAddr 71 (Operand.tmp 3) 1, 0, "l05_sparse.go:118", #[], none⟩) rfl (by rfl) (by rfl) (fun w' hw' => ?_) ?_; rotate_left
          · go_simp <;> first | rfl | exact ⟨rfl, rfl⟩
          simp only [Act.put, List.setIfInBounds_toArray, List.set_cons_zero, List.set_cons_succ]
          refine' wpT_det (o := ⟨some 28, Op.load 69 (Operand.tmp 27), 69, "l05_sparse.go:118", #[{ on := 0, ground := Ground.data }], none⟩) rfl (by rfl) (by rfl) (fun w' hw' => ?_) ?_; rotate_left
          · have z1_ := Ext.cell hw' z1; have c0_ := Ext.cell hw' c0; have c1_ := Ext.cell hw' c1; have hd_ := Ext.cell hw' hd; go_simp <;> first | rfl | exact ⟨rfl, rfl⟩
          simp only [Act.put, List.setIfInBounds_toArray, List.set_cons_zero, List.set_cons_succ]
          refine' wpT_det (o := ⟨some 29, Op.move (Operand.tmp 5), 2, "l05_sparse.go:118", #[], none⟩) rfl (by rfl) (by rfl) (fun w' hw' => ?_) ?_; rotate_left
          · go_simp <;> first | rfl | exact ⟨rfl, rfl⟩
          simp only [Act.put, List.setIfInBounds_toArray, List.set_cons_zero, List.set_cons_succ]
          refine' wpT_det (o := ⟨some 30, Op.move (Operand.tmp 0), 75, "l05_sparse.go:118", #[], none⟩) rfl (by rfl) (by rfl) (fun w' hw' => ?_) ?_; rotate_left
          · go_simp <;> first | rfl | exact ⟨rfl, rfl⟩
          simp only [Act.put, List.setIfInBounds_toArray, List.set_cons_zero, List.set_cons_succ]
          refine' wpT_det (o := ⟨some 31, Op.nilCheck (Operand.tmp 30), 0, "l05_sparse.go:118", #[{ on := 3, ground := Ground.data }], none⟩) rfl (by rfl) (by rfl) (fun w' hw' => ?_) ?_; rotate_left
          · go_simp <;> first | rfl | exact ⟨rfl, rfl⟩
          simp only [Act.put, List.setIfInBounds_toArray, List.set_cons_zero, List.set_cons_succ]
          refine' wpT_det (o := ⟨some 32, Op.fieldAddr 71 (Operand.tmp 31) 0, 0, "l05_sparse.go:118", #[{ on := 4, ground := Ground.data }], none⟩) rfl (by rfl) (by rfl) (fun w' hw' => ?_) ?_; rotate_left
          · go_simp <;> first | rfl | exact ⟨rfl, rfl⟩
          simp only [Act.put, List.setIfInBounds_toArray, List.set_cons_zero, List.set_cons_succ]
          refine' wpT_det (o := ⟨some 33, Op.load 2 (Operand.tmp 32), 2, "l05_sparse.go:118", #[{ on := 5, ground := Ground.data }], none⟩) rfl (by rfl) (by rfl) (fun w' hw' => ?_) ?_; rotate_left
          · have z1_ := Ext.cell hw' z1; have c0_ := Ext.cell hw' c0; have c1_ := Ext.cell hw' c1; have hd_ := Ext.cell hw' hd; go_simp <;> first | rfl | exact ⟨rfl, rfl⟩
          simp only [Act.put, List.setIfInBounds_toArray, List.set_cons_zero, List.set_cons_succ]
          refine' wpT_det (o := ⟨some 34, Op.binOp BinOp.mul 2 (Operand.tmp 29) (Operand.tmp 33) 2, 2, "l05_sparse.go:118", #[{ on := 2, ground := Ground.data }, { on := 6, ground := Ground.data }], none⟩) rfl (by rfl) (by rfl) (fun w' hw' => ?_) ?_; rotate_left
          · go_simp <;> first | rfl | exact ⟨rfl, rfl⟩
          simp only [Act.put, List.setIfInBounds_toArray, List.set_cons_zero, List.set_cons_succ]
          refine' wpT_det (o := ⟨some 35, Op.move (Operand.tmp 4), 2, "l05_sparse.go:118", #[], none⟩) rfl (by rfl) (by rfl) (fun w' hw' => ?_) ?_; rotate_left
          · go_simp <;> first | rfl | exact ⟨rfl, rfl⟩
          simp only [Act.put, List.setIfInBounds_toArray, List.set_cons_zero, List.set_cons_succ]
          refine' wpT_det (o := ⟨some 36, Op.binOp BinOp.add 2 (Operand.tmp 34) (Operand.tmp 35) 2, 2, "l05_sparse.go:118", #[{ on := 7, ground := Ground.data }, { on := 8, ground := Ground.data }], none⟩) rfl (by rfl) (by rfl) (fun w' hw' => ?_) ?_; rotate_left
          · go_simp <;> first | rfl | exact ⟨rfl, rfl⟩
          simp only [Act.put, List.setIfInBounds_toArray, List.set_cons_zero, List.set_cons_succ]
          refine' wpT_det (o := ⟨some 37, Op.move (Operand.tmp 0), 75, "l05_sparse.go:118", #[], none⟩) rfl (by rfl) (by rfl) (fun w' hw' => ?_) ?_; rotate_left
          · go_simp <;> first | rfl | exact ⟨rfl, rfl⟩
          simp only [Act.put, List.setIfInBounds_toArray, List.set_cons_zero, List.set_cons_succ]
          refine' wpT_det (o := ⟨some 38, Op.nilCheck (Operand.tmp 37), 0, "l05_sparse.go:118", #[{ on := 10, ground := Ground.data }], none⟩) rfl (by rfl) (by rfl) (fun w' hw' => ?_) ?_; rotate_left
          · go_simp <;> first | rfl | exact ⟨rfl, rfl⟩
          simp only [Act.put, List.setIfInBounds_toArray, List.set_cons_zero, List.set_cons_succ]
          refine' wpT_det (o := ⟨some 39, Op.fieldAddr 71 (Operand.tmp 38) 1, 0, "l05_sparse.go:118", #[{ on := 11, ground := Ground.data }], none⟩) rfl (by rfl) (by rfl) (fun w' hw' => ?_) ?_; rotate_left
          · go_simp <;> first | rfl | exact ⟨rfl, rfl⟩
          simp only [Act.put, List.setIfInBounds_toArray, List.set_cons_zero, List.set_cons_succ]
          refine' wpT_det (o := ⟨some 40, Op.load 69 (Operand.tmp 39), 69, "l05_sparse.go:118", #[{ on := 12, ground := Ground.data }], none⟩) rfl (by rfl) (by rfl) (fun w' hw' => ?_) ?_; rotate_left
          · have z1_ := Ext.cell hw' z1; have c0_ := Ext.cell hw' c0; have c1_ := Ext.cell hw' c1; have hd_ := Ext.cell hw' hd; go_simp <;> first | rfl | exact ⟨rfl, rfl⟩
          simp only [Act.put, List.setIfInBounds_toArray, List.set_cons_zero, List.set_cons_succ]
          refine' wpT_det (o := ⟨some 41, Op.move (Operand.tmp 4), 2, "l05_sparse.go:118", #[], none⟩) rfl (by rfl) (by rfl) (fun w' hw' => ?_) ?_; rotate_left
          · go_simp <;> first | rfl | exact ⟨rfl, rfl⟩
          simp only [Act.put, List.setIfInBounds_toArray, List.set_cons_zero, List.set_cons_succ]
          refine' wpT_det (o := ⟨some 42, Op.move (Operand.tmp 0), 75, "l05_sparse.go:118", #[], none⟩) rfl (by rfl) (by rfl) (fun w' hw' => ?_) ?_; rotate_left
          · go_simp <;> first | rfl | exact ⟨rfl, rfl⟩
          simp only [Act.put, List.setIfInBounds_toArray, List.set_cons_zero, List.set_cons_succ]
          refine' wpT_det (o := ⟨some 43, Op.nilCheck (Operand.tmp 42), 0, "l05_sparse.go:118", #[{ on := 15, ground := Ground.data }], none⟩) rfl (by rfl) (by rfl) (fun w' hw' => ?_) ?_; rotate_left
          · go_simp <;> first | rfl | exact ⟨rfl, rfl⟩
          simp only [Act.put, List.setIfInBounds_toArray, List.set_cons_zero, List.set_cons_succ]
          refine' wpT_det (o := ⟨some 44, Op.fieldAddr 71 (Operand.tmp 43) 0, 0, "l05_sparse.go:118", #[{ on := 16, ground := Ground.data }], none⟩) rfl (by rfl) (by rfl) (fun w' hw' => ?_) ?_; rotate_left
          · go_simp <;> first | rfl | exact ⟨rfl, rfl⟩
          simp only [Act.put, List.setIfInBounds_toArray, List.set_cons_zero, List.set_cons_succ]
          refine' wpT_det (o := ⟨some 45, Op.load 2 (Operand.tmp 44), 2, "l05_sparse.go:118", #[{ on := 17, ground := Ground.data }], none⟩) rfl (by rfl) (by rfl) (fun w' hw' => ?_) ?_; rotate_left
          · have z1_ := Ext.cell hw' z1; have c0_ := Ext.cell hw' c0; have c1_ := Ext.cell hw' c1; have hd_ := Ext.cell hw' hd; go_simp <;> first | rfl | exact ⟨rfl, rfl⟩
          simp only [Act.put, List.setIfInBounds_toArray, List.set_cons_zero, List.set_cons_succ]
          refine' wpT_det (o := ⟨some 46, Op.binOp BinOp.mul 2 (Operand.tmp 41) (Operand.tmp 45) 2, 2, "l05_sparse.go:118", #[{ on := 14, ground := Ground.data }, { on := 18, ground := Ground.data }], none⟩) rfl (by rfl) (by rfl) (fun w' hw' => ?_) ?_; rotate_left
          · go_simp <;> first | rfl | exact ⟨rfl, rfl⟩
          simp only [Act.put, List.setIfInBounds_toArray, List.set_cons_zero, List.set_cons_succ]
          refine' wpT_det (o := ⟨some 47, Op.move (Operand.tmp 5), 2, "l05_sparse.go:118", #[], none⟩) rfl (by rfl) (by rfl) (fun w' hw' => ?_) ?_; rotate_left
          · go_simp <;> first | rfl | exact ⟨rfl, rfl⟩
          simp only [Act.put, List.setIfInBounds_toArray, List.set_cons_zero, List.set_cons_succ]
          refine' wpT_det (o := ⟨some 48, Op.binOp BinOp.add 2 (Operand.tmp 46) (Operand.tmp 47) 2, 2, "l05_sparse.go:118", #[{ on := 19, ground := Ground.data }, { on := 20, ground := Ground.data }], none⟩) rfl (by rfl) (by rfl) (fun w' hw' => ?_) ?_; rotate_left
          · go_simp <;> first | rfl | exact ⟨rfl, rfl⟩
          simp only [Act.put, List.setIfInBounds_toArray, List.set_cons_zero, List.set_cons_succ]
          refine' wpT_det (o := ⟨some 49, Op.indexAddr 69 (Operand.tmp 40) (Operand.tmp 48), 0, "l05_sparse.go:118", #[{ on := 13, ground := Ground.data }, { on := 21, ground := Ground.data }], none⟩) rfl (by rfl) (by rfl) (fun w' hw' => ?_) ?_; rotate_left
          · go_simp <;> first | rfl | exact ⟨rfl, rfl⟩
          simp only [Act.put, List.setIfInBounds_toArray, List.set_cons_zero, List.set_cons_succ]
          refine' wpT_det (o := ⟨some 50, Op.load 4 (Operand.tmp 49), 4, "l05_sparse.go:118", #[{ on := 22, ground := Ground.data }], none⟩) rfl (by rfl) (by rfl) (fun w' hw' => ?_) ?_; rotate_left
          · have z1_ := Ext.cell hw' z1; have c0_ := Ext.cell hw' c0; have c1_ := Ext.cell hw' c1; have hd_ := Ext.cell hw' hd; go_simp <;> first | rfl | exact ⟨rfl, rfl⟩
          simp only [Act.put, List.setIfInBounds_toArray, List.set_cons_zero, List.set_cons_succ]
          refine wpT_nil (fun w4 hw' hF => ?_)
          show wpList _ _ _ [(⟨some 51, Op.indexAddr 69 (Operand.tmp 28) (Operand.tmp 36), 0, "l05_sparse.go:118", #[{ on := 1, ground := Ground.data }, { on := 9, ground := Ground.data }, { on := 0, ground := Ground.phase }, { on := 1, ground := Ground.phase }, { on := 2, ground := Ground.phase }, { on := 3, ground := Ground.phase }, { on := 4, ground := Ground.phase }, { on := 5, ground := Ground.phase }, { on := 6, ground := Ground.phase }, { on := 7, ground := Ground.phase }, { on := 8, ground := Ground.phase }, { on := 9, ground := Ground.phase }, { on := 10, ground := Ground.phase }, { on := 11, ground := Ground.phase }, { on := 12, ground := Ground.phase }, { on := 13, ground := Ground.phase }, { on := 14, ground := Ground.phase }, { on := 15, ground := Ground.phase }, { on := 16, ground := Ground.phase }, { on := 17, ground := Ground.phase }, { on := 18, ground := Ground.phase }, { on := 19, ground := Ground.phase }, { on := 20, ground := Ground.phase }, { on := 21, ground := Ground.phase }, { on := 22, ground := Ground.phase }, { on := 23, ground := Ground.phase }], none⟩ : Oper), (⟨none, Op.store 4 (Operand.tmp 51) (Operand.tmp 50), 0, "l05_sparse.go:118", #[{ on := 24, ground := Ground.data }, { on := 23, ground := Ground.data }, { on := 0, ground := Ground.phase }, { on := 1, ground := Ground.phase }, { on := 2, ground := Ground.phase }, { on := 3, ground := Ground.phase }, { on := 4, ground := Ground.phase }, { on := 5, ground := Ground.phase }, { on := 6, ground := Ground.phase }, { on := 7, ground := Ground.phase }, { on := 8, ground := Ground.phase }, { on := 9, ground := Ground.phase }, { on := 10, ground := Ground.phase }, { on := 11, ground := Ground.phase }, { on := 12, ground := Ground.phase }, { on := 13, ground := Ground.phase }, { on := 14, ground := Ground.phase }, { on := 15, ground := Ground.phase }, { on := 16, ground := Ground.phase }, { on := 17, ground := Ground.phase }, { on := 18, ground := Ground.phase }, { on := 19, ground := Ground.phase }, { on := 20, ground := Ground.phase }, { on := 21, ground := Ground.phase }, { on := 22, ground := Ground.phase }, { on := 23, ground := Ground.phase }], none⟩ : Oper)] _ _
          have hx := hw'.undrew
          clear hF hw' z1 c0 c1 hd
          replace h1 := h1.ext hx
          replace h2 := h2.ext hx
          replace h3 := h3.ext hx
          replace h4 := h4.trans hx
          clear hx
          obtain ⟨hcb, hf⟩ := h2.at_ (k * n + i) (by omega)
          rw [bools_get (by omega)] at hcb
          have hsb := store_bool Try.prog t hcb hf
          have hm := FU.putT h0 h1 h2 h3 h4 (k * n + i) t HT.out
          go_upto_region 9 with (fail)
          obtain ⟨w5, hw5⟩ : ∃ v : World, v = w4.setCell ⟨g, k * n + i, none⟩ (.bool t) := ⟨_, rfl⟩
          rw [← hw5] at hm ⊢
          clear hw5 h0 h1 h2 h3 h4 lt hcb hf hsb xB
          obtain ⟨T1, k1, U1, q1, zs, h0, h1, h2, h3, h4⟩ := hm
          have xB := hx0.trans h4
          have c0 := xB.cell HA.out.c0
          have c2 := xB.cell HA.out.c2
          obtain ⟨adv, rfl, he⟩ := (HA.out.hv.below xB).fltN (i * n + k) i7
          obtain ⟨x, hxv⟩ : ∃ x, x = rdf ys ((i * n + k : Nat) : Int) := ⟨_, rfl⟩
          rw [← nb_at HA.out.hy hlt hlk, ← hxv] at HNB
          rw [← hxv] at he
          clear hxv
          have lz := h3.reads.flen
          obtain ⟨g2, rfl, _⟩ := h3.head (by omega)
          have z2 : w5.cell? ⟨w1.heap.size, 2, none⟩ = some (.slice (some ⟨g2, 0, none⟩) N q1) := h1.cell 2 rfl
          refine wp_region_T (cs := []) [0, 1, 2, 3, 4, 5, 6, 7, 8, 9, 10, 11, 12, 13, 14, 15, 16, 17, 18, 19, 20, 21, 22, 23] [24, 25] [] [] (fun _ _ => False) (fun _ _ _ => True) (by kernel_rfl) (by kernel_rfl) (fun _ _ _ _ _ _ => trivial) ?_
          refine' wpT_det (o := ⟨some 52, Op.fieldAddr 71 (Operand.tmp 3) 2, 0, "l05_sparse.go:119", #[], none⟩) rfl (by rfl) (by rfl) (fun w' hw' => ?_) ?_; rotate_left
          · go_simp <;> first | rfl | exact ⟨rfl, rfl⟩
          simp only [Act.put, List.setIfInBounds_toArray, List.set_cons_zero, List.set_cons_succ]
          refine' wpT_det (o := ⟨some 53, Op.load 23 (Operand.tmp 52), 23, "l05_sparse.go:119", #[{ on := 0, ground := Ground.data }], none⟩) rfl (by rfl) (by rfl) (fun w' hw' => ?_) ?_; rotate_left
          · have z2_ := Ext.cell hw' z2; have c0_ := Ext.cell hw' c0; have c2_ := Ext.cell hw' c2; have he_ := Ext.cell hw' he; go_simp <;> first | rfl | exact ⟨rfl, rfl⟩
          simp only [Act.put, List.setIfInBounds_toArray, List.set_cons_zero, List.set_cons_succ]
          refine' wpT_det (o := ⟨some 54, Op.move (Operand.tmp 5), 2, "l05_sparse.go:119", #[], none⟩) rfl (by rfl) (by rfl) (fun w' hw' => ?_) ?_; rotate_left
          · go_simp <;> first | rfl | exact ⟨rfl, rfl⟩
          simp only [Act.put, List.setIfInBounds_toArray, List.set_cons_zero, List.set_cons_succ]
          refine' wpT_det (o := ⟨some 55, Op.move (Operand.tmp 0), 75, "l05_sparse.go:119", #[], none⟩) rfl (by rfl) (by rfl) (fun w' hw' => ?_) ?_; rotate_left
          · go_simp <;> first | rfl | exact ⟨rfl, rfl⟩
          simp only [Act.put, List.setIfInBounds_toArray, List.set_cons_zero, List.set_cons_succ]
          refine' wpT_det (o := ⟨some 56, Op.nilCheck (Operand.tmp 55), 0, "l05_sparse.go:119", #[{ on := 3, ground := Ground.data }], none⟩) rfl (by rfl) (by rfl) (fun w' hw' => ?_) ?_; rotate_left
          · go_simp <;> first | rfl | exact ⟨rfl, rfl⟩
          simp only [Act.put, List.setIfInBounds_toArray, List.set_cons_zero, List.set_cons_succ]
          refine' wpT_det (o := ⟨some 57, Op.fieldAddr 71 (Operand.tmp 56) 0, 0, "l05_sparse.go:119", #[{ on := 4, ground := Ground.data }], none⟩) rfl (by rfl) (by rfl) (fun w' hw' => ?_) ?_; rotate_left
          · go_simp <;> first | rfl | exact ⟨rfl, rfl⟩
          simp only [Act.put, List.setIfInBounds_toArray, List.set_cons_zero, List.set_cons_succ]
          refine' wpT_det (o := ⟨some 58, Op.load 2 (Operand.tmp 57), 2, "l05_sparse.go:119", #[{ on := 5, ground := Ground.data }], none⟩) rfl (by rfl) (by rfl) (fun w' hw' => ?_) ?_; rotate_left
          · have z2_ := Ext.cell hw' z2; have c0_ := Ext.cell hw' c0; have c2_ := Ext.cell hw' c2; have he_ := Ext.cell hw' he; go_simp <;> first | rfl | exact ⟨rfl, rfl⟩
          simp only [Act.put, List.setIfInBounds_toArray, List.set_cons_zero, List.set_cons_succ]
          refine' wpT_det (o := ⟨some 59, Op.binOp BinOp.mul 2 (Operand.tmp 54) (Operand.tmp 58) 2, 2, "l05_sparse.go:119", #[{ on := 2, ground := Ground.data }, { on := 6, ground := Ground.data }], none⟩) rfl (by rfl) (by rfl) (fun w' hw' => ?_) ?_; rotate_left
          · go_simp <;> first | rfl | exact ⟨rfl, rfl⟩
          simp only [Act.put, List.setIfInBounds_toArray, List.set_cons_zero, List.set_cons_succ]
          refine' wpT_det (o := ⟨some 60, Op.move (Operand.tmp 4), 2, "l05_sparse.go:119", #[], none⟩) rfl (by rfl) (by rfl) (fun w' hw' => ?_) ?_; rotate_left
          · go_simp <;> first | rfl | exact ⟨rfl, rfl⟩
          simp only [Act.put, List.setIfInBounds_toArray, List.set_cons_zero, List.set_cons_succ]
          refine' wpT_det (o := ⟨some 61, Op.binOp BinOp.add 2 (Operand.tmp 59) (Operand.tmp 60) 2, 2, "l05_sparse.go:119", #[{ on := 7, ground := Ground.data }, { on := 8, ground := Ground.data }], none⟩) rfl (by rfl) (by rfl) (fun w' hw' => ?_) ?_; rotate_left
          · go_simp <;> first | rfl | exact ⟨rfl, rfl⟩
          simp only [Act.put, List.setIfInBounds_toArray, List.set_cons_zero, List.set_cons_succ]
          refine' wpT_det (o := ⟨some 62, Op.move (Operand.tmp 0), 75, "l05_sparse.go:119", #[], none⟩) rfl (by rfl) (by rfl) (fun w' hw' => ?_) ?_; rotate_left
          · go_simp <;> first | rfl | exact ⟨rfl, rfl⟩
          simp only [Act.put, List.setIfInBounds_toArray, List.set_cons_zero, List.set_cons_succ]
          refine' wpT_det (o := ⟨some 63, Op.nilCheck (Operand.tmp 62), 0, "l05_sparse.go:119", #[{ on := 10, ground := Ground.data }], none⟩) rfl (by rfl) (by rfl) (fun w' hw' => ?_) ?_; rotate_left
          · go_simp <;> first | rfl | exact ⟨rfl, rfl⟩
          simp only [Act.put, List.setIfInBounds_toArray, List.set_cons_zero, List.set_cons_succ]
          refine' wpT_det (o := ⟨some 64, Op.fieldAddr 71 (Operand.tmp 63) 2, 0, "l05_sparse.go:119", #[{ on := 11, ground := Ground.data }], none⟩) rfl (by rfl) (by rfl) (fun w' hw' => ?_) ?_; rotate_left
          · go_simp <;> first | rfl | exact ⟨rfl, rfl⟩
          simp only [Act.put, List.setIfInBounds_toArray, List.set_cons_zero, List.set_cons_succ]
          refine' wpT_det (o := ⟨some 65, Op.load 23 (Operand.tmp 64), 23, "l05_sparse.go:119", #[{ on := 12, ground := Ground.data }], none⟩) rfl (by rfl) (by rfl) (fun w' hw' => ?_) ?_; rotate_left
          · have z2_ := Ext.cell hw' z2; have c0_ := Ext.cell hw' c0; have c2_ := Ext.cell hw' c2; have he_ := Ext.cell hw' he; go_simp <;> first | rfl | exact ⟨rfl, rfl⟩
          simp only [Act.put, List.setIfInBounds_toArray, List.set_cons_zero, List.set_cons_succ]
          refine' wpT_det (o := ⟨some 66, Op.move (Operand.tmp 4), 2, "l05_sparse.go:119", #[], none⟩) rfl (by rfl) (by rfl) (fun w' hw' => ?_) ?_; rotate_left
          · go_simp <;> first | rfl | exact ⟨rfl, rfl⟩
          simp only [Act.put, List.setIfInBounds_toArray, List.set_cons_zero, List.set_cons_succ]
          refine' wpT_det (o := ⟨some 67, Op.move (Operand.tmp 0), 75, "l05_sparse.go:119", #[], none⟩) rfl (by rfl) (by rfl) (fun w' hw' => ?_) ?_; rotate_left
          · go_simp <;> first | rfl | exact ⟨rfl, rfl⟩
          simp only [Act.put, List.setIfInBounds_toArray, List.set_cons_zero, List.set_cons_succ]
          refine' wpT_det (o := ⟨some 68, Op.nilCheck (Operand.tmp 67), 0, "l05_sparse.go:119", #[{ on := 15, ground := Ground.data }], none⟩) rfl (by rfl) (by rfl) (fun w' hw' => ?_) ?_; rotate_left
          · go_simp <;> first | rfl | exact ⟨rfl, rfl⟩
          simp only [Act.put, List.setIfInBounds_toArray, List.set_cons_zero, List.set_cons_succ]
          refine' wpT_det (o := ⟨some 69, Op.fieldAddr 71 (Operand.tmp 68) 0, 0, "l05_sparse.go:119", #[{ on := 16, ground := Ground.data }], none⟩) rfl (by rfl) (by rfl) (fun w' hw' => ?_) ?_; rotate_left
          · go_simp <;> first | rfl | exact ⟨rfl, rfl⟩
          simp only [Act.put, List.setIfInBounds_toArray, List.set_cons_zero, List.set_cons_succ]
          refine' wpT_det (o := ⟨some 70, Op.load 2 (Operand.tmp 69), 2, "l05_sparse.go:119", #[{ on := 17, ground := Ground.data }], none⟩) rfl (by rfl) (by rfl) (fun w' hw' => ?_) ?_; rotate_left
          · have z2_ := Ext.cell hw' z2; have c0_ := Ext.cell hw' c0; have c2_ := Ext.cell hw' c2; have he_ := Ext.cell hw' he; go_simp <;> first | rfl | exact ⟨rfl, rfl⟩
          simp only [Act.put, List.setIfInBounds_toArray, List.set_cons_zero, List.set_cons_succ]
          refine' wpT_det (o := ⟨some 71, Op.binOp BinOp.mul 2 (Operand.tmp 66) (Operand.tmp 70) 2, 2, "l05_sparse.go:119", #[{ on := 14, ground := Ground.data }, { on := 18, ground := Ground.data }], none⟩) rfl (by rfl) (by rfl) (fun w' hw' => ?_) ?_; rotate_left
          · go_simp <;> first | rfl | exact ⟨rfl, rfl⟩
          simp only [Act.put, List.setIfInBounds_toArray, List.set_cons_zero, List.set_cons_succ]
          refine' wpT_det (o := ⟨some 72, Op.move (Operand.tmp 5), 2, "l05_sparse.go:119", #[], none⟩) rfl (by rfl) (by rfl) (fun w' hw' => ?_) ?_; rotate_left
          · go_simp <;> first | rfl | exact ⟨rfl, rfl⟩
          simp only [Act.put, List.setIfInBounds_toArray, List.set_cons_zero, List.set_cons_succ]
          refine' wpT_det (o := ⟨some 73, Op.binOp BinOp.add 2 (Operand.tmp 71) (Operand.tmp 72) 2, 2, "l05_sparse.go:119", #[{ on := 19, ground := Ground.data }, { on := 20, ground := Ground.data }], none⟩) rfl (by rfl) (by rfl) (fun w' hw' => ?_) ?_; rotate_left
          · go_simp <;> first | rfl | exact ⟨rfl, rfl⟩
          simp only [Act.put, List.setIfInBounds_toArray, List.set_cons_zero, List.set_cons_succ]
          refine' wpT_det (o := ⟨some 74, Op.indexAddr 23 (Operand.tmp 65) (Operand.tmp 73), 0, "l05_sparse.go:119", #[{ on := 13, ground := Ground.data }, { on := 21, ground := Ground.data }], none⟩) rfl (by rfl) (by rfl) (fun w' hw' => ?_) ?_; rotate_left
          · go_simp <;> first | rfl | exact ⟨rfl, rfl⟩
          simp only [Act.put, List.setIfInBounds_toArray, List.set_cons_zero, List.set_cons_succ]
          refine' wpT_det (o := ⟨some 75, Op.load 43 (Operand.tmp 74), 43, "l05_sparse.go:119", #[{ on := 22, ground := Ground.data }], none⟩) rfl (by rfl) (by rfl) (fun w' hw' => ?_) ?_; rotate_left
          · have z2_ := Ext.cell hw' z2; have c0_ := Ext.cell hw' c0; have c2_ := Ext.cell hw' c2; have he_ := Ext.cell hw' he; go_simp <;> first | rfl | exact ⟨rfl, rfl⟩
          simp only [Act.put, List.setIfInBounds_toArray, List.set_cons_zero, List.set_cons_succ]
          refine wpT_nil (fun w6 hw' hF => ?_)
          show wpList _ _ _ [(⟨some 76, Op.indexAddr 23 (Operand.tmp 53) (Operand.tmp 61), 0, "l05_sparse.go:119", #[{ on := 1, ground := Ground.data }, { on := 9, ground := Ground.data }, { on := 0, ground := Ground.phase }, { on := 1, ground := Ground.phase }, { on := 2, ground := Ground.phase }, { on := 3, ground := Ground.phase }, { on := 4, ground := Ground.phase }, { on := 5, ground := Ground.phase }, { on := 6, ground := Ground.phase }, { on := 7, ground := Ground.phase }, { on := 8, ground := Ground.phase }, { on := 9, ground := Ground.phase }, { on := 10, ground := Ground.phase }, { on := 11, ground := Ground.phase }, { on := 12, ground := Ground.phase }, { on := 13, ground := Ground.phase }, { on := 14, ground := Ground.phase }, { on := 15, ground := Ground.phase }, { on := 16, ground := Ground.phase }, { on := 17, ground := Ground.phase }, { on := 18, ground := Ground.phase }, { on := 19, ground := Ground.phase }, { on := 20, ground := Ground.phase }, { on := 21, ground := Ground.phase }, { on := 22, ground := Ground.phase }, { on := 23, ground := Ground.phase }], none⟩ : Oper), (⟨none, Op.store 43 (Operand.tmp 76) (Operand.tmp 75), 0, "l05_sparse.go:119", #[{ on := 24, ground := Ground.data }, { on := 23, ground := Ground.data }, { on := 0, ground := Ground.phase }, { on := 1, ground := Ground.phase }, { on := 2, ground := Ground.phase }, { on := 3, ground := Ground.phase }, { on := 4, ground := Ground.phase }, { on := 5, ground := Ground.phase }, { on := 6, ground := Ground.phase }, { on := 7, ground := Ground.phase }, { on := 8, ground := Ground.phase }, { on := 9, ground := Ground.phase }, { on := 10, ground := Ground.phase }, { on := 11, ground := Ground.phase }, { on := 12, ground := Ground.phase }, { on := 13, ground := Ground.phase }, { on := 14, ground := Ground.phase }, { on := 15, ground := Ground.phase }, { on := 16, ground := Ground.phase }, { on := 17, ground := Ground.phase }, { on := 18, ground := Ground.phase }, { on := 19, ground := Ground.phase }, { on := 20, ground := Ground.phase }, { on := 21, ground := Ground.phase }, { on := 22, ground := Ground.phase }, { on := 23, ground := Ground.phase }], none⟩ : Oper)] _ _
          have hx := hw'.undrew
          clear hF hw' z2 c0 c2 he
          replace h1 := h1.ext hx
          replace h2 := h2.ext hx
          replace h3 := h3.ext hx
          replace h4 := h4.trans hx
          clear hx
          obtain ⟨hcb, hf⟩ := h3.at_ (k * n + i) (by omega)
          rw [flts_get (by omega)] at hcb
          have hsf := store_f32 Try.prog x hcb hf
          have hm := FU.putN h0 h1 h2 h3 h4 (k * n + i) x HNB.out
          go_wp2_with fail
          go_roundw
          case rel => exact ⟨k + 1, by omega, by go_num, hm⟩
          case measure => simp [intOf]; omega
        · obtain rfl : k = n := by omega
          go_wp2_with fail
          go_roundw
          case rel => exact ⟨i + 1, by omega, by go_num, hst.congr (flp_row M i)⟩
          case measure => simp [intOf]; omega
    · obtain rfl : i = n := by omega
      replace hst := hst.congr (flp_all M)
      obtain ⟨T1, k1, U1, q1, zs, h0, h1, h2, h3, h4⟩ := hst
      have z0 := h1.cell 0 rfl
      have z1 := h1.cell 1 rfl
      have z2 := h1.cell 2 rfl
      replace b0 := b0.ext h4
      have y0 := b0.cell 0 rfl
      have y1 := b0.cell 1 rfl
      have y2 := b0.cell 2 rfl
      have f0 := b0.free 0
      have f1 := b0.free 1
      have f2 := b0.free 2
      have hq0 := b0.lt
      replace h2 := h2.base hx0.size
      replace h3 := h3.base hx0.size
      go_wp2_with fail
      have d0 := b0.set 0 (.int .i64 i)
      have d1 := d0.set 1 (.slice T1 N k1)
      have d2 := d1.set 2 (.slice U1 N q1)
      have p1 := ((h2.setBlk b0 (by decide) 0 (.int .i64 i)).setBlk d0 (by decide) 1 (.slice T1 N k1)).setBlk d1 (by decide) 2 (.slice U1 N q1)
      have p2 := ((h3.setBlk b0 (by decide) 0 (.int .i64 i)).setBlk d0 (by decide) 1 (.slice T1 N k1)).setBlk d1 (by decide) 2 (.slice U1 N q1)
      have x2 := ((xA.set (p := ⟨w.heap.size, 0, none⟩) (Nat.le_refl _) (.int .i64 i)).set (p := ⟨w.heap.size, 1, none⟩) (Nat.le_refl _) (.slice T1 N k1)).set (p := ⟨w.heap.size, 2, none⟩) (Nat.le_refl _) (.slice U1 N q1)
      have r0 := d2.cell 0 rfl
      have r1 := d2.cell 1 rfl
      have r2 := d2.cell 2 rfl
      refine bodyPost_ret (v := .agg #[.int .i64 i, .slice T1 N k1, .slice U1 N q1]) (by simp only [results, Try.results122]; simp [go_sem, r0, r1, r2]) rfl ⟨_, _, _, _, zs, rfl, h0, p1, p2, x2⟩

end Go.Proofs.Ytkifpligpobiaaa
