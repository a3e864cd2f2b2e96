
/- The reference's neighbours and degrees. -/

import Derived.Test.YtkifpligpobiaaaH3

import Derived.Test.YtkifpligpobiaaaQ4
set_option linter.unusedVariables false
set_option linter.unusedSimpArgs false

namespace Go.Proofs.Ytkifpligpobiaaa

open Go.RowKit


/-- The tests of a graph, row by row. -/
def gb (n : Nat) (B : Grf) : List Bool := tab n B (n * n)
theorem gb_length (n : Nat) (B : Grf) : (gb n B).length = n * n := by unfold gb; rw [tab_length]
theorem gb_at {n i k : Nat} (B : Grf) (hi : i < n) (hk : k < n) : rdb (gb n B) ((i * n + k : Nat) : Int) = B i k := by
  unfold rdb gb
  rw [List.getD_eq_getElem?_getD, Int.toNat_natCast, tab_get hk (ix_lt hi hk)]
  rfl
theorem gb_set {n i k : Nat} {B B' : Grf} {x : Bool} (hi : i < n) (hk : k < n) (hx : B' i k = x) (h : ∀ a b, b < n → (a ≠ i ∨ b ≠ k) → B' a b = B a b) : (gb n B).set (i * n + k) x = gb n B' := by
  unfold gb
  exact tab_set hk (ix_lt hi hk) hx h
theorem gb_none (n : Nat) : gb n (fun _ _ => false) = List.replicate (n * n) false := by
  unfold gb
  rw [← tab_const n]
theorem gb_congr {n : Nat} {B B' : Grf} (h : ∀ i j, i < n → j < n → B i j = B' i j) : gb n B = gb n B' := tab_congr h
/-- A graph of tests, a row of the call's own. -/
def RetBo (w : World) (n : Nat) (B : Grf) (e : Ending) (w' : World) : Prop := ∃ A c, e = .returned (.slice A (n * n) c) ∧ Own w' w.heap.size 4 (.slice A (n * n) c) (bools (gb n B)) ∧ Ext w w'
/-- A graph as far as row i, column k. -/
def upB (B : Grf) (i k : Nat) : Grf := fun a b => if a < i ∨ (a = i ∧ b < k) then B a b else false
theorem upB_zero (B : Grf) : upB B 0 0 = fun _ _ => false := by
  funext a b
  unfold upB
  rw [if_neg (by omega)]
theorem upB_at (B : Grf) (i k : Nat) : upB B i (k + 1) i k = B i k := if_pos (.inr ⟨rfl, by omega⟩)
theorem upB_other {B : Grf} {i k a b : Nat} (h : a ≠ i ∨ b ≠ k) : upB B i (k + 1) a b = upB B i k a b := by
  unfold upB
  by_cases h1 : a < i ∨ (a = i ∧ b < k)
  · rw [if_pos h1, if_pos (by omega)]
  · rw [if_neg h1, if_neg (by omega)]
theorem upB_no {B : Grf} {i k : Nat} (h : B i k = false) (a b : Nat) : upB B i k a b = upB B i (k + 1) a b := by
  by_cases e : a = i ∧ b = k
  · obtain ⟨rfl, rfl⟩ := e
    rw [upB_at, h]
    unfold upB
    rw [if_neg (by omega)]
  · exact (upB_other (by omega)).symm
theorem upB_row {n : Nat} (B : Grf) (i : Nat) : ∀ a b, a < n → b < n → upB B i n a b = upB B (i + 1) 0 a b := by
  intro a b _ hb
  unfold upB
  by_cases h : a < i + 1
  · rw [if_pos (by omega), if_pos (by omega)]
  · rw [if_neg (by omega), if_neg (by omega)]
theorem upB_all {n : Nat} (B : Grf) : ∀ a b, a < n → b < n → upB B n 0 a b = B a b := by
  intro a b ha _
  unfold upB
  rw [if_pos (by omega)]

set_option maxRecDepth 20000 in
set_option maxHeartbeats 8000000 in
theorem l05Beside_any (b n : Nat) (A : Option Addr) (a ca : Nat) (B : Option Addr) (m cb : Nat) (V : Option Addr) (p cv : Nat) (st co : List Int) (va : List Nat) (hsp : IsSp n st co va) (w : World) (ha : SAt w b n A a ca B m cb V p cv st co va) :
    Calls Try.prog 95 #[.pointer (some ⟨b, 0, none⟩)] w (RetBo w n (nbM (vw st co va m))) := by
  have HA := Lib.hid ha
  have hn1 : 1 ≤ n := by have := hsp.s1; omega
  have hn32 : n ≤ 32 := by have := hsp.s1; omega
  have HSP := Lib.hid hsp
  obtain ⟨N, hN⟩ : ∃ N, N = n * n := ⟨_, rfl⟩
  have HN := Lib.hid hN
  have hN2 : N ≤ 1024 := by rw [hN]; exact Nat.mul_le_mul hn32 hn32
  have hwm : IntKind.i64.wrap ((n : Int) * n) = (N : Int) := by
    have e : (n : Int) * n = (N : Int) := by rw [hN]; simp
    rw [e]; exact IntWalk.i64_in _ (by omega)
  have hmk := run_make_row' (P := Try.prog) 69 4 (.bool false) 1 Try.underlying69 info_bool rfl .i64 .i64 N (by omega) (by omega)
  unfold RetBo
  obtain ⟨M, hM⟩ : ∃ M, M = vw st co va m := ⟨_, rfl⟩
  have HMM := Lib.hid hM
  rw [← hN, ← hM]
  clear hN ha hsp hM
  go_enter Try.func95, Try.ntmps95
  go_upto_region 1 with (fail)
  go_wp2_with fail
  refine (l05Open_any b n A a ca B m cb V p cv st co va HSP.out _ HA.out).mono ?_
  rintro e w1 ⟨T, k2, U, q2, zs, rfl, hy, o1, o2, hx⟩
  rw [← HMM.out] at hy o1
  rw [← HN.out] at o1 o2
  rw [← HN.out]
  go_upto_region 2 with (fail)
  have bf := Blk.new w1 #[.int .i64 n, .slice T N k2, .slice U N q2] 71
  have xg : Ext w1 (w1.alloc (.cells #[.int .i64 n, .slice T N k2, .slice U N q2] 71)) := (Ext.refl _).alloc _
  replace o1 := o1.ext xg
  have hx0 := hx.trans xg
  obtain ⟨w2, hw2⟩ : ∃ v : World, v = w1.alloc (.cells #[.int .i64 n, .slice T N k2, .slice U N q2] 71) := ⟨_, rfl⟩
  obtain ⟨fb, hfb⟩ : ∃ fb, fb = w1.heap.size := ⟨_, rfl⟩
  rw [← hw2, ← hfb] at bf
  rw [← hw2] at o1 hx0
  rw [← hw2, ← hfb]
  clear hw2 hfb xg hx o2 hy
  have c0 := hx0.cell HA.out.1
  refine wp_region_T (cs := []) [0, 1, 2, 3, 4, 5, 6, 7, 8, 9, 10] [] [9] [] (fun i__ v => match i__ with | 9 => ∃ g, v = .slice (some ⟨g, 0, none⟩) N N | _ => False) (fun i__ v w' => match i__ with | 9 => OwnF w' w2.heap.size 4 v [] (List.replicate N (.bool false)) | _ => True) (by kernel_rfl) (by kernel_rfl) (by intro i v w' w2 h hx; revert h; (try dsimp only); split <;> intro h <;> first | trivial | exact OwnF.ext h hx) ?_
  refine' wpT_det (o := ⟨some 9, Op.move (Operand.tmp 0), 68, "l05_sparse.go:215", #[], none⟩) rfl (by rfl) (by rfl) (fun w' hw' => ?_) ?_; rotate_left
  · go_simp <;> first | rfl | exact ⟨rfl, rfl⟩
  simp only [Act.put, List.setIfInBounds_toArray, List.set_cons_zero, List.set_cons_succ]
  refine' wpT_det (o := ⟨some 10, Op.nilCheck (Operand.tmp 9), 0, "l05_sparse.go:215", #[{ on := 0, ground := Ground.data }], none⟩) rfl (by rfl) (by rfl) (fun w' hw' => ?_) ?_; rotate_left
  · go_simp <;> first | rfl | exact ⟨rfl, rfl⟩
  simp only [Act.put, List.setIfInBounds_toArray, List.set_cons_zero, List.set_cons_succ]
  refine' wpT_det (o := ⟨some 11, Op.fieldAddr 27 (Operand.tmp 10) 0, 0, "l05_sparse.go:215", #[{ on := 1, ground := Ground.data }], none⟩) rfl (by rfl) (by rfl) (fun w' hw' => ?_) ?_; rotate_left
  · go_simp <;> first | rfl | exact ⟨rfl, rfl⟩
  simp only [Act.put, List.setIfInBounds_toArray, List.set_cons_zero, List.set_cons_succ]
  refine' wpT_det (o := ⟨some 12, Op.load 2 (Operand.tmp 11), 2, "l05_sparse.go:215", #[{ on := 2, ground := Ground.data }], none⟩) rfl (by rfl) (by rfl) (fun w' hw' => ?_) ?_; rotate_left
  · have c0_ := Ext.cell hw' c0; go_simp <;> first | rfl | exact ⟨rfl, rfl⟩
  simp only [Act.put, List.setIfInBounds_toArray, List.set_cons_zero, List.set_cons_succ]
  refine' wpT_det (o := ⟨some 13, Op.move (Operand.tmp 0), 68, "l05_sparse.go:215", #[], none⟩) rfl (by rfl) (by rfl) (fun w' hw' => ?_) ?_; rotate_left
  · go_simp <;> first | rfl | exact ⟨rfl, rfl⟩
  simp only [Act.put, List.setIfInBounds_toArray, List.set_cons_zero, List.set_cons_succ]
  refine' wpT_det (o := ⟨some 14, Op.nilCheck (Operand.tmp 13), 0, "l05_sparse.go:215", #[{ on := 4, ground := Ground.data }], none⟩) rfl (by rfl) (by rfl) (fun w' hw' => ?_) ?_; rotate_left
  · go_simp <;> first | rfl | exact ⟨rfl, rfl⟩
  simp only [Act.put, List.setIfInBounds_toArray, List.set_cons_zero, List.set_cons_succ]
  refine' wpT_det (o := ⟨some 15, Op.fieldAddr 27 (Operand.tmp 14) 0, 0, "l05_sparse.go:215", #[{ on := 5, ground := Ground.data }], none⟩) rfl (by rfl) (by rfl) (fun w' hw' => ?_) ?_; rotate_left
  · go_simp <;> first | rfl | exact ⟨rfl, rfl⟩
  simp only [Act.put, List.setIfInBounds_toArray, List.set_cons_zero, List.set_cons_succ]
  refine' wpT_det (o := ⟨some 16, Op.load 2 (Operand.tmp 15), 2, "l05_sparse.go:215", #[{ on := 6, ground := Ground.data }], none⟩) rfl (by rfl) (by rfl) (fun w' hw' => ?_) ?_; rotate_left
  · have c0_ := Ext.cell hw' c0; go_simp <;> first | rfl | exact ⟨rfl, rfl⟩
  simp only [Act.put, List.setIfInBounds_toArray, List.set_cons_zero, List.set_cons_succ]
  refine' wpT_det (o := ⟨some 17, Op.binOp BinOp.mul 2 (Operand.tmp 12) (Operand.tmp 16) 2, 2, "l05_sparse.go:215", #[{ on := 3, ground := Ground.data }, { on := 7, ground := Ground.data }], none⟩) rfl (by rfl) (by rfl) (fun w' hw' => ?_) ?_; rotate_left
  · go_simp <;> first | rfl | exact ⟨rfl, rfl⟩
  simp only [Act.put, List.setIfInBounds_toArray, List.set_cons_zero, List.set_cons_succ]
  refine wpT_nd (o := ⟨some 18, Op.makeSlice 69 (Operand.tmp 17) (Operand.tmp 17), 69, "l05_sparse.go:215", #[{ on := 8, ground := Ground.data }, { on := 8, ground := Ground.data }], none⟩) rfl (by rfl) (by rfl) (fun w' hw' hF R__ hGo => ?_) ⟨_, 0, rfl⟩ ?_
  · go_simp; exact gives_value rfl (hGo _ _ ((Ext.refl _).alloc _) ⟨_, rfl⟩ (OwnF.of ((Own.made _ _ (.bool false) N rfl (by omega)).base hw'.size) rfl))
  rintro _ ⟨g, rfl⟩
  simp only [Act.put, List.setIfInBounds_toArray, List.set_cons_zero, List.set_cons_succ]
  refine' wpT_det (o := ⟨some 4, Op.assign (Operand.tmp 18), 69, "l05_sparse.go:215", #[{ on := 9, ground := Ground.data }, { on := 0, ground := Ground.phase }, { on := 1, ground := Ground.phase }, { on := 2, ground := Ground.phase }, { on := 3, ground := Ground.phase }, { on := 4, ground := Ground.phase }, { on := 5, ground := Ground.phase }, { on := 6, ground := Ground.phase }, { on := 7, ground := Ground.phase }, { on := 8, ground := Ground.phase }, { on := 9, ground := Ground.phase }], none⟩) rfl (by rfl) (by rfl) (fun w' hw' => ?_) ?_; rotate_left
  · go_simp <;> first | rfl | exact ⟨rfl, rfl⟩
  simp only [Act.put, List.setIfInBounds_toArray, List.set_cons_zero, List.set_cons_succ]
  refine wpT_nil (fun w3 hw' hF => ?_)
  refine wpList_nil ?_
  have og := (hF 9 _ rfl) _ _ _ rfl
  have hx := hw'.undrew
  clear hF hw' hmk hwm c0
  replace og : Own w3 w2.heap.size 4 (.slice (some ⟨g, 0, none⟩) N N) (bools (gb n (upB (nbM M) 0 0))) := by rw [upB_zero, gb_none, bools_replicate, ← HN.out]; exact og
  have hW := hx0.size
  have c0 := hx.cell (hx0.cell HA.out.1)
  go_wp2_with fail
  clear c0
  go_loopw [5] (fun u wr => ∃ i : Nat, i ≤ n ∧ u = .int .i64 i ∧ Own wr w2.heap.size 4 (.slice (some ⟨g, 0, none⟩) N N) (bools (gb n (upB (nbM M) i 0))) ∧ Ext w2 wr) (fun u _ => n - (intOf u).toNat)
  case atStart => exact ⟨0, Nat.zero_le _, rfl, og, hx⟩
  case round =>
    rename World => wA
    clear og hx
    obtain ⟨i, hi, rfl, og, hx⟩ := hrel
    have c0 := hx.cell (hx0.cell HA.out.1)
    by_cases hlt : i < n
    · have g1 : IntKind.i64.wrap ((i : Int) + 1) = (i : Int) + 1 := IntWalk.i64_in _ (by omega)
      go_wp2_with fail
      go_loopw [6] (fun u wr => ∃ k : Nat, k ≤ n ∧ u = .int .i64 k ∧ Own wr w2.heap.size 4 (.slice (some ⟨g, 0, none⟩) N N) (bools (gb n (upB (nbM M) i k))) ∧ Ext w2 wr) (fun u _ => n - (intOf u).toNat)
      case atStart => exact ⟨0, Nat.zero_le _, rfl, og, hx⟩
      case round =>
        rename World => wB
        clear og hx c0
        obtain ⟨k, hk, rfl, og, hx⟩ := hrel
        have c0 := hx.cell (hx0.cell HA.out.1)
        by_cases hlk : k < n
        · obtain ⟨i1, i2, i3, i4, i5, i6⟩ := ix32 hlt hlk hn32
          obtain ⟨j1, j2, j3, j4, j5, j6⟩ := ix32 hlk hlt hn32
          rw [← HN.out] at i4 i6 j4 j6
          have i7 : i * n + k < N := by omega
          have j7 : k * n + i < N := by omega
          have g4 : IntKind.i64.wrap ((k : Int) + 1) = (k : Int) + 1 := IntWalk.i64_in _ (by omega)
          have z1 := hx.cell (bf.cell 1 rfl)
          obtain ⟨ad, hT, hd1⟩ := (o1.reads.below hx).boolN (i * n + k) i7
          obtain ⟨ad', hT', hd2⟩ := (o1.reads.below hx).boolN (k * n + i) j7
          subst hT
          obtain rfl := Option.some.inj hT'
          clear hT'
          rw [tb_at M hlt hlk] at hd1
          rw [tb_at M hlk hlt] at hd2
          by_cases e : i = k
          · have HB : Hid (nbM M i k = false) := by show nbM M i k = false; unfold nbM; rw [decide_eq_true e]; rfl
            have e' : ((i : Int) != k) = false := by simp; omega
            have HE := Lib.hid e
            clear e
            go_wp2_with fail
            refine wp_region_T (cs := []) [0, 1, 2, 3, 4, 5, 6, 7, 8, 9, 10, 11, 12, 13, 14, 15, 16, 17, 18, 19, 20, 21, 22, 23, 24, 25, 26, 27, 28, 29, 30] [] [] [] (fun _ _ => False) (fun _ _ _ => True) (by kernel_rfl) (by kernel_rfl) (fun _ _ _ _ _ _ => trivial) ?_
            refine' wpT_det (o := ⟨some 35, Op.move (Operand.tmp 5), 2, "l05_sparse.go:218", #[], none⟩) rfl (by rfl) (by rfl) (fun w' hw' => ?_) ?_; rotate_left
            · go_simp <;> first | rfl | exact ⟨rfl, rfl⟩
            simp only [Act.put, List.setIfInBounds_toArray, List.set_cons_zero, List.set_cons_succ]
            refine' wpT_det (o := ⟨some 36, Op.move (Operand.tmp 6), 2, "l05_sparse.go:218", #[], none⟩) rfl (by rfl) (by rfl) (fun w' hw' => ?_) ?_; rotate_left
            · go_simp <;> first | rfl | exact ⟨rfl, rfl⟩
            simp only [Act.put, List.setIfInBounds_toArray, List.set_cons_zero, List.set_cons_succ]
            refine' wpT_det (o := ⟨some 37, Op.binOp BinOp.neq 2 (Operand.tmp 35) (Operand.tmp 36) 2, 4, "l05_sparse.go:218", #[{ on := 0, ground := Ground.data }, { on := 1, ground := Ground.data }], none⟩) rfl (by rfl) (by rfl) (fun w' hw' => ?_) ?_; rotate_left
            · go_simp <;> first | rfl | exact ⟨rfl, rfl⟩
            simp only [Act.put, List.setIfInBounds_toArray, List.set_cons_zero, List.set_cons_succ]
            refine' wpT_det (o := ⟨some 38, Op.move (Operand.tmp 37), 4, "l05_sparse.go:218", #[{ on := 2, ground := Ground.data }], none⟩) rfl (by rfl) (by rfl) (fun w' hw' => ?_) ?_; rotate_left
            · go_simp <;> first | rfl | exact ⟨rfl, rfl⟩
            simp only [Act.put, List.setIfInBounds_toArray, List.set_cons_zero, List.set_cons_succ]
            refine wpT_skip (o := ⟨some 39, Op.fieldAddr 71 (Operand.tmp 3) 1, 0, "l05_sparse.go:218", #[{ on := 3, ground := Ground.guard }], some (3, true)⟩) rfl (by rfl) ?_
            simp only [Act.put, List.setIfInBounds_toArray, List.set_cons_zero, List.set_cons_succ]
            refine wpT_skip (o := ⟨some 40, Op.load 69 (Operand.tmp 39), 69, "l05_sparse.go:218", #[{ on := 4, ground := Ground.data }, { on := 3, ground := Ground.guard }], some (3, true)⟩) rfl (by rfl) ?_
            simp only [Act.put, List.setIfInBounds_toArray, List.set_cons_zero, List.set_cons_succ]
            refine wpT_skip (o := ⟨some 41, Op.move (Operand.tmp 5), 2, "l05_sparse.go:218", #[{ on := 3, ground := Ground.guard }], some (3, true)⟩) rfl (by rfl) ?_
            simp only [Act.put, List.setIfInBounds_toArray, List.set_cons_zero, List.set_cons_succ]
            refine wpT_skip (o := ⟨some 42, Op.move (Operand.tmp 0), 68, "l05_sparse.go:218", #[{ on := 3, ground := Ground.guard }], some (3, true)⟩) rfl (by rfl) ?_
            simp only [Act.put, List.setIfInBounds_toArray, List.set_cons_zero, List.set_cons_succ]
            refine wpT_skip (o := ⟨some 43, Op.nilCheck (Operand.tmp 42), 0, "l05_sparse.go:218", #[{ on := 7, ground := Ground.data }, { on := 3, ground := Ground.guard }], some (3, true)⟩) rfl (by rfl) ?_
            simp only [Act.put, List.setIfInBounds_toArray, List.set_cons_zero, List.set_cons_succ]
            refine wpT_skip (o := ⟨some 44, Op.fieldAddr 27 (Operand.tmp 43) 0, 0, "l05_sparse.go:218", #[{ on := 8, ground := Ground.data }, { on := 3, ground := Ground.guard }], some (3, true)⟩) rfl (by rfl) ?_
            simp only [Act.put, List.setIfInBounds_toArray, List.set_cons_zero, List.set_cons_succ]
            refine wpT_skip (o := ⟨some 45, Op.load 2 (Operand.tmp 44), 2, "l05_sparse.go:218", #[{ on := 9, ground := Ground.data }, { on := 3, ground := Ground.guard }], some (3, true)⟩) rfl (by rfl) ?_
            simp only [Act.put, List.setIfInBounds_toArray, List.set_cons_zero, List.set_cons_succ]
            refine wpT_skip (o := ⟨some 46, Op.binOp BinOp.mul 2 (Operand.tmp 41) (Operand.tmp 45) 2, 2, "l05_sparse.go:218", #[{ on := 6, ground := Ground.data }, { on := 10, ground := Ground.data }, { on := 3, ground := Ground.guard }], some (3, true)⟩) rfl (by rfl) ?_
            simp only [Act.put, List.setIfInBounds_toArray, List.set_cons_zero, List.set_cons_succ]
            refine wpT_skip (o := ⟨some 47, Op.move (Operand.tmp 6), 2, "l05_sparse.go:218", #[{ on := 3, ground := Ground.guard }], some (3, true)⟩) rfl (by rfl) ?_
            simp only [Act.put, List.setIfInBounds_toArray, List.set_cons_zero, List.set_cons_succ]
            refine wpT_skip (o := ⟨some 48, Op.binOp BinOp.add 2 (Operand.tmp 46) (Operand.tmp 47) 2, 2, "l05_sparse.go:218", #[{ on := 11, ground := Ground.data }, { on := 12, ground := Ground.data }, { on := 3, ground := Ground.guard }], some (3, true)⟩) rfl (by rfl) ?_
            simp only [Act.put, List.setIfInBounds_toArray, List.set_cons_zero, List.set_cons_succ]
            refine wpT_skip (o := ⟨some 49, Op.indexAddr 69 (Operand.tmp 40) (Operand.tmp 48), 0, "l05_sparse.go:218", #[{ on := 5, ground := Ground.data }, { on := 13, ground := Ground.data }, { on := 3, ground := Ground.guard }], some (3, true)⟩) rfl (by rfl) ?_
            simp only [Act.put, List.setIfInBounds_toArray, List.set_cons_zero, List.set_cons_succ]
            refine wpT_skip (o := ⟨some 50, Op.load 4 (Operand.tmp 49), 4, "l05_sparse.go:218", #[{ on := 14, ground := Ground.data }, { on := 3, ground := Ground.guard }], some (3, true)⟩) rfl (by rfl) ?_
            simp only [Act.put, List.setIfInBounds_toArray, List.set_cons_zero, List.set_cons_succ]
            refine wpT_skip (o := ⟨some 51, Op.move (Operand.tmp 50), 4, "l05_sparse.go:218", #[{ on := 15, ground := Ground.data }, { on := 3, ground := Ground.chain }, { on := 3, ground := Ground.guard }], some (3, true)⟩) rfl (by rfl) ?_
            simp only [Act.put, List.setIfInBounds_toArray, List.set_cons_zero, List.set_cons_succ]
            refine wpT_skip (o := ⟨some 52, Op.fieldAddr 71 (Operand.tmp 3) 1, 0, "l05_sparse.go:218", #[{ on := 16, ground := Ground.guard }], some (16, false)⟩) rfl (by rfl) ?_
            simp only [Act.put, List.setIfInBounds_toArray, List.set_cons_zero, List.set_cons_succ]
            refine wpT_skip (o := ⟨some 53, Op.load 69 (Operand.tmp 52), 69, "l05_sparse.go:218", #[{ on := 17, ground := Ground.data }, { on := 16, ground := Ground.guard }], some (16, false)⟩) rfl (by rfl) ?_
            simp only [Act.put, List.setIfInBounds_toArray, List.set_cons_zero, List.set_cons_succ]
            refine wpT_skip (o := ⟨some 54, Op.move (Operand.tmp 6), 2, "l05_sparse.go:218", #[{ on := 16, ground := Ground.guard }], some (16, false)⟩) rfl (by rfl) ?_
            simp only [Act.put, List.setIfInBounds_toArray, List.set_cons_zero, List.set_cons_succ]
            refine wpT_skip (o := ⟨some 55, Op.move (Operand.tmp 0), 68, "l05_sparse.go:218", #[{ on := 16, ground := Ground.guard }], some (16, false)⟩) rfl (by rfl) ?_
            simp only [Act.put, List.setIfInBounds_toArray, List.set_cons_zero, List.set_cons_succ]
            refine wpT_skip (o := ⟨some 56, Op.nilCheck (Operand.tmp 55), 0, "l05_sparse.go:218", #[{ on := 20, ground := Ground.data }, { on := 16, ground := Ground.guard }], some (16, false)⟩) rfl (by rfl) ?_
            simp only [Act.put, List.setIfInBounds_toArray, List.set_cons_zero, List.set_cons_succ]
            refine wpT_skip (o := ⟨some 57, Op.fieldAddr 27 (Operand.tmp 56) 0, 0, "l05_sparse.go:218", #[{ on := 21, ground := Ground.data }, { on := 16, ground := Ground.guard }], some (16, false)⟩) rfl (by rfl) ?_
            simp only [Act.put, List.setIfInBounds_toArray, List.set_cons_zero, List.set_cons_succ]
            refine wpT_skip (o := ⟨some 58, Op.load 2 (Operand.tmp 57), 2, "l05_sparse.go:218", #[{ on := 22, ground := Ground.data }, { on := 16, ground := Ground.guard }], some (16, false)⟩) rfl (by rfl) ?_
            simp only [Act.put, List.setIfInBounds_toArray, List.set_cons_zero, List.set_cons_succ]
            refine wpT_skip (o := ⟨some 59, Op.binOp BinOp.mul 2 (Operand.tmp 54) (Operand.tmp 58) 2, 2, "l05_sparse.go:218", #[{ on := 19, ground := Ground.data }, { on := 23, ground := Ground.data }, { on := 16, ground := Ground.guard }], some (16, false)⟩) rfl (by rfl) ?_
            simp only [Act.put, List.setIfInBounds_toArray, List.set_cons_zero, List.set_cons_succ]
            refine wpT_skip (o := ⟨some 60, Op.move (Operand.tmp 5), 2, "l05_sparse.go:218", #[{ on := 16, ground := Ground.guard }], some (16, false)⟩) rfl (by rfl) ?_
            simp only [Act.put, List.setIfInBounds_toArray, List.set_cons_zero, List.set_cons_succ]
            refine wpT_skip (o := ⟨some 61, Op.binOp BinOp.add 2 (Operand.tmp 59) (Operand.tmp 60) 2, 2, "l05_sparse.go:218", #[{ on := 24, ground := Ground.data }, { on := 25, ground := Ground.data }, { on := 16, ground := Ground.guard }], some (16, false)⟩) rfl (by rfl) ?_
            simp only [Act.put, List.setIfInBounds_toArray, List.set_cons_zero, List.set_cons_succ]
            refine wpT_skip (o := ⟨some 62, Op.indexAddr 69 (Operand.tmp 53) (Operand.tmp 61), 0, "l05_sparse.go:218", #[{ on := 18, ground := Ground.data }, { on := 26, ground := Ground.data }, { on := 16, ground := Ground.guard }], some (16, false)⟩) rfl (by rfl) ?_
            simp only [Act.put, List.setIfInBounds_toArray, List.set_cons_zero, List.set_cons_succ]
            refine wpT_skip (o := ⟨some 63, Op.load 4 (Operand.tmp 62), 4, "l05_sparse.go:218", #[{ on := 27, ground := Ground.data }, { on := 16, ground := Ground.guard }], some (16, false)⟩) rfl (by rfl) ?_
            simp only [Act.put, List.setIfInBounds_toArray, List.set_cons_zero, List.set_cons_succ]
            refine wpT_skip (o := ⟨some 64, Op.pick (Operand.tmp 51) (Operand.const (Value.bool true)) (Operand.tmp 63), 4, "l05_sparse.go:218", #[{ on := 16, ground := Ground.data }, { on := 28, ground := Ground.data }, { on := 3, ground := Ground.guard }], some (3, true)⟩) rfl (by rfl) ?_
            simp only [Act.put, List.setIfInBounds_toArray, List.set_cons_zero, List.set_cons_succ]
            refine' wpT_det (o := ⟨some 65, Op.pick (Operand.tmp 38) (Operand.tmp 64) (Operand.const (Value.bool false)), 4, "l05_sparse.go:218", #[{ on := 3, ground := Ground.data }, { on := 29, ground := Ground.data }], none⟩) rfl (by rfl) (by rfl) (fun w' hw' => ?_) ?_; rotate_left
            · go_simp <;> first | rfl | exact ⟨rfl, rfl⟩
            simp only [Act.put, List.setIfInBounds_toArray, List.set_cons_zero, List.set_cons_succ]
            refine wpT_nil (fun w6 hw' hF => ?_)
            refine wpList_nil ?_
            have hx2 := hw'.undrew
            go_wp2_with fail
            go_roundw
            case rel => exact ⟨k + 1, by omega, by go_num, by rw [← gb_congr (fun a b _ _ => upB_no HB.out a b)]; exact og.ext hx2, hx.trans hx2⟩
            case measure => simp [intOf]; omega
          · have e' : ((i : Int) != k) = true := by simp; omega
            cases h1 : (M i k).isSome with
            | false =>
              rw [h1] at hd1
              cases h2 : (M k i).isSome with
              | false =>
                rw [h2] at hd2
                have HB : Hid (nbM M i k = false) := by show nbM M i k = false; unfold nbM; rw [h1, h2]; simp
                clear h1 h2
                go_wp2_with fail
                refine wp_region_T (cs := []) [0, 1, 2, 3, 4, 5, 6, 7, 8, 9, 10, 11, 12, 13, 14, 15, 16, 17, 18, 19, 20, 21, 22, 23, 24, 25, 26, 27, 28, 29, 30] [] [] [] (fun _ _ => False) (fun _ _ _ => True) (by kernel_rfl) (by kernel_rfl) (fun _ _ _ _ _ _ => trivial) ?_
                refine' wpT_det (o := ⟨some 35, Op.move (Operand.tmp 5), 2, "l05_sparse.go:218", #[], none⟩) rfl (by rfl) (by rfl) (fun w' hw' => ?_) ?_; rotate_left
                · go_simp <;> first | rfl | exact ⟨rfl, rfl⟩
                simp only [Act.put, List.setIfInBounds_toArray, List.set_cons_zero, List.set_cons_succ]
                refine' wpT_det (o := ⟨some 36, Op.move (Operand.tmp 6), 2, "l05_sparse.go:218", #[], none⟩) rfl (by rfl) (by rfl) (fun w' hw' => ?_) ?_; rotate_left
                · go_simp <;> first | rfl | exact ⟨rfl, rfl⟩
                simp only [Act.put, List.setIfInBounds_toArray, List.set_cons_zero, List.set_cons_succ]
                refine' wpT_det (o := ⟨some 37, Op.binOp BinOp.neq 2 (Operand.tmp 35) (Operand.tmp 36) 2, 4, "l05_sparse.go:218", #[{ on := 0, ground := Ground.data }, { on := 1, ground := Ground.data }], none⟩) rfl (by rfl) (by rfl) (fun w' hw' => ?_) ?_; rotate_left
                · go_simp <;> first | rfl | exact ⟨rfl, rfl⟩
                simp only [Act.put, List.setIfInBounds_toArray, List.set_cons_zero, List.set_cons_succ]
                refine' wpT_det (o := ⟨some 38, Op.move (Operand.tmp 37), 4, "l05_sparse.go:218", #[{ on := 2, ground := Ground.data }], none⟩) rfl (by rfl) (by rfl) (fun w' hw' => ?_) ?_; rotate_left
                · go_simp <;> first | rfl | exact ⟨rfl, rfl⟩
                simp only [Act.put, List.setIfInBounds_toArray, List.set_cons_zero, List.set_cons_succ]
                refine' wpT_det (o := ⟨some 39, Op.fieldAddr 71 (Operand.tmp 3) 1, 0, "l05_sparse.go:218", #[{ on := 3, ground := Ground.guard }], some (3, true)⟩) rfl (by rfl) (by rfl) (fun w' hw' => ?_) ?_; rotate_left
                · go_simp <;> first | rfl | exact ⟨rfl, rfl⟩
                simp only [Act.put, List.setIfInBounds_toArray, List.set_cons_zero, List.set_cons_succ]
                refine' wpT_det (o := ⟨some 40, Op.load 69 (Operand.tmp 39), 69, "l05_sparse.go:218", #[{ on := 4, ground := Ground.data }, { on := 3, ground := Ground.guard }], some (3, true)⟩) rfl (by rfl) (by rfl) (fun w' hw' => ?_) ?_; rotate_left
                · have c0_ := Ext.cell hw' c0; have z1_ := Ext.cell hw' z1; have hd1_ := Ext.cell hw' hd1; have hd2_ := Ext.cell hw' hd2; go_simp <;> first | rfl | exact ⟨rfl, rfl⟩
                simp only [Act.put, List.setIfInBounds_toArray, List.set_cons_zero, List.set_cons_succ]
                refine' wpT_det (o := ⟨some 41, Op.move (Operand.tmp 5), 2, "l05_sparse.go:218", #[{ on := 3, ground := Ground.guard }], some (3, true)⟩) rfl (by rfl) (by rfl) (fun w' hw' => ?_) ?_; rotate_left
                · go_simp <;> first | rfl | exact ⟨rfl, rfl⟩
                simp only [Act.put, List.setIfInBounds_toArray, List.set_cons_zero, List.set_cons_succ]
                refine' wpT_det (o := ⟨some 42, Op.move (Operand.tmp 0), 68, "l05_sparse.go:218", #[{ on := 3, ground := Ground.guard }], some (3, true)⟩) rfl (by rfl) (by rfl) (fun w' hw' => ?_) ?_; rotate_left
                · go_simp <;> first | rfl | exact ⟨rfl, rfl⟩
                simp only [Act.put, List.setIfInBounds_toArray, List.set_cons_zero, List.set_cons_succ]
                refine' wpT_det (o := ⟨some 43, Op.nilCheck (Operand.tmp 42), 0, "l05_sparse.go:218", #[{ on := 7, ground := Ground.data }, { on := 3, ground := Ground.guard }], some (3, true)⟩) rfl (by rfl) (by rfl) (fun w' hw' => ?_) ?_; rotate_left
                · go_simp <;> first | rfl | exact ⟨rfl, rfl⟩
                simp only [Act.put, List.setIfInBounds_toArray, List.set_cons_zero, List.set_cons_succ]
                refine' wpT_det (o := ⟨some 44, Op.fieldAddr 27 (Operand.tmp 43) 0, 0, "l05_sparse.go:218", #[{ on := 8, ground := Ground.data }, { on := 3, ground := Ground.guard }], some (3, true)⟩) rfl (by rfl) (by rfl) (fun w' hw' => ?_) ?_; rotate_left
                · go_simp <;> first | rfl | exact ⟨rfl, rfl⟩
                simp only [Act.put, List.setIfInBounds_toArray, List.set_cons_zero, List.set_cons_succ]
                refine' wpT_det (o := ⟨some 45, Op.load 2 (Operand.tmp 44), 2, "l05_sparse.go:218", #[{ on := 9, ground := Ground.data }, { on := 3, ground := Ground.guard }], some (3, true)⟩) rfl (by rfl) (by rfl) (fun w' hw' => ?_) ?_; rotate_left
                · have c0_ := Ext.cell hw' c0; have z1_ := Ext.cell hw' z1; have hd1_ := Ext.cell hw' hd1; have hd2_ := Ext.cell hw' hd2; go_simp <;> first | rfl | exact ⟨rfl, rfl⟩
                simp only [Act.put, List.setIfInBounds_toArray, List.set_cons_zero, List.set_cons_succ]
                refine' wpT_det (o := ⟨some 46, Op.binOp BinOp.mul 2 (Operand.tmp 41) (Operand.tmp 45) 2, 2, "l05_sparse.go:218", #[{ on := 6, ground := Ground.data }, { on := 10, ground := Ground.data }, { on := 3, ground := Ground.guard }], some (3, true)⟩) rfl (by rfl) (by rfl) (fun w' hw' => ?_) ?_; rotate_left
                · go_simp <;> first | rfl | exact ⟨rfl, rfl⟩
                simp only [Act.put, List.setIfInBounds_toArray, List.set_cons_zero, List.set_cons_succ]
                refine' wpT_det (o := ⟨some 47, Op.move (Operand.tmp 6), 2, "l05_sparse.go:218", #[{ on := 3, ground := Ground.guard }], some (3, true)⟩) rfl (by rfl) (by rfl) (fun w' hw' => ?_) ?_; rotate_left
                · go_simp <;> first | rfl | exact ⟨rfl, rfl⟩
                simp only [Act.put, List.setIfInBounds_toArray, List.set_cons_zero, List.set_cons_succ]
                refine' wpT_det (o := ⟨some 48, Op.binOp BinOp.add 2 (Operand.tmp 46) (Operand.tmp 47) 2, 2, "l05_sparse.go:218", #[{ on := 11, ground := Ground.data }, { on := 12, ground := Ground.data }, { on := 3, ground := Ground.guard }], some (3, true)⟩) rfl (by rfl) (by rfl) (fun w' hw' => ?_) ?_; rotate_left
                · go_simp <;> first | rfl | exact ⟨rfl, rfl⟩
                simp only [Act.put, List.setIfInBounds_toArray, List.set_cons_zero, List.set_cons_succ]
                refine' wpT_det (o := ⟨some 49, Op.indexAddr 69 (Operand.tmp 40) (Operand.tmp 48), 0, "l05_sparse.go:218", #[{ on := 5, ground := Ground.data }, { on := 13, ground := Ground.data }, { on := 3, ground := Ground.guard }], some (3, true)⟩) rfl (by rfl) (by rfl) (fun w' hw' => ?_) ?_; rotate_left
                · go_simp <;> first | rfl | exact ⟨rfl, rfl⟩
                simp only [Act.put, List.setIfInBounds_toArray, List.set_cons_zero, List.set_cons_succ]
                refine' wpT_det (o := ⟨some 50, Op.load 4 (Operand.tmp 49), 4, "l05_sparse.go:218", #[{ on := 14, ground := Ground.data }, { on := 3, ground := Ground.guard }], some (3, true)⟩) rfl (by rfl) (by rfl) (fun w' hw' => ?_) ?_; rotate_left
                · have c0_ := Ext.cell hw' c0; have z1_ := Ext.cell hw' z1; have hd1_ := Ext.cell hw' hd1; have hd2_ := Ext.cell hw' hd2; go_simp <;> first | rfl | exact ⟨rfl, rfl⟩
                simp only [Act.put, List.setIfInBounds_toArray, List.set_cons_zero, List.set_cons_succ]
                refine' wpT_det (o := ⟨some 51, Op.move (Operand.tmp 50), 4, "l05_sparse.go:218", #[{ on := 15, ground := Ground.data }, { on := 3, ground := Ground.chain }, { on := 3, ground := Ground.guard }], some (3, true)⟩) rfl (by rfl) (by rfl) (fun w' hw' => ?_) ?_; rotate_left
                · go_simp <;> first | rfl | exact ⟨rfl, rfl⟩
                simp only [Act.put, List.setIfInBounds_toArray, List.set_cons_zero, List.set_cons_succ]
                refine' wpT_det (o := ⟨some 52, Op.fieldAddr 71 (Operand.tmp 3) 1, 0, "l05_sparse.go:218", #[{ on := 16, ground := Ground.guard }], some (16, false)⟩) rfl (by rfl) (by rfl) (fun w' hw' => ?_) ?_; rotate_left
                · go_simp <;> first | rfl | exact ⟨rfl, rfl⟩
                simp only [Act.put, List.setIfInBounds_toArray, List.set_cons_zero, List.set_cons_succ]
                refine' wpT_det (o := ⟨some 53, Op.load 69 (Operand.tmp 52), 69, "l05_sparse.go:218", #[{ on := 17, ground := Ground.data }, { on := 16, ground := Ground.guard }], some (16, false)⟩) rfl (by rfl) (by rfl) (fun w' hw' => ?_) ?_; rotate_left
                · have c0_ := Ext.cell hw' c0; have z1_ := Ext.cell hw' z1; have hd1_ := Ext.cell hw' hd1; have hd2_ := Ext.cell hw' hd2; go_simp <;> first | rfl | exact ⟨rfl, rfl⟩
                simp only [Act.put, List.setIfInBounds_toArray, List.set_cons_zero, List.set_cons_succ]
                refine' wpT_det (o := ⟨some 54, Op.move (Operand.tmp 6), 2, "l05_sparse.go:218", #[{ on := 16, ground := Ground.guard }], some (16, false)⟩) rfl (by rfl) (by rfl) (fun w' hw' => ?_) ?_; rotate_left
                · go_simp <;> first | rfl | exact ⟨rfl, rfl⟩
                simp only [Act.put, List.setIfInBounds_toArray, List.set_cons_zero, List.set_cons_succ]
                refine' wpT_det (o := ⟨some 55, Op.move (Operand.tmp 0), 68, "l05_sparse.go:218", #[{ on := 16, ground := Ground.guard }], some (16, false)⟩) rfl (by rfl) (by rfl) (fun w' hw' => ?_) ?_; rotate_left
                · go_simp <;> first | rfl | exact ⟨rfl, rfl⟩
                simp only [Act.put, List.setIfInBounds_toArray, List.set_cons_zero, List.set_cons_succ]
                refine' wpT_det (o := ⟨some 56, Op.nilCheck (Operand.tmp 55), 0, "l05_sparse.go:218", #[{ on := 20, ground := Ground.data }, { on := 16, ground := Ground.guard }], some (16, false)⟩) rfl (by rfl) (by rfl) (fun w' hw' => ?_) ?_; rotate_left
                · go_simp <;> first | rfl | exact ⟨rfl, rfl⟩
                simp only [Act.put, List.setIfInBounds_toArray, List.set_cons_zero, List.set_cons_succ]
                refine' wpT_det (o := ⟨some 57, Op.fieldAddr 27 (Operand.tmp 56) 0, 0, "l05_sparse.go:218", #[{ on := 21, ground := Ground.data }, { on := 16, ground := Ground.guard }], some (16, false)⟩) rfl (by rfl) (by rfl) (fun w' hw' => ?_) ?_; rotate_left
                · go_simp <;> first | rfl | exact ⟨rfl, rfl⟩
                simp only [Act.put, List.setIfInBounds_toArray, List.set_cons_zero, List.set_cons_succ]
                refine' wpT_det (o := ⟨some 58, Op.load 2 (Operand.tmp 57), 2, "l05_sparse.go:218", #[{ on := 22, ground := Ground.data }, { on := 16, ground := Ground.guard }], some (16, false)⟩) rfl (by rfl) (by rfl) (fun w' hw' => ?_) ?_; rotate_left
                · have c0_ := Ext.cell hw' c0; have z1_ := Ext.cell hw' z1; have hd1_ := Ext.cell hw' hd1; have hd2_ := Ext.cell hw' hd2; go_simp <;> first | rfl | exact ⟨rfl, rfl⟩
                simp only [Act.put, List.setIfInBounds_toArray, List.set_cons_zero, List.set_cons_succ]
                refine' wpT_det (o := ⟨some 59, Op.binOp BinOp.mul 2 (Operand.tmp 54) (Operand.tmp 58) 2, 2, "l05_sparse.go:218", #[{ on := 19, ground := Ground.data }, { on := 23, ground := Ground.data }, { on := 16, ground := Ground.guard }], some (16, false)⟩) rfl (by rfl) (by rfl) (fun w' hw' => ?_) ?_; rotate_left
                · go_simp <;> first | rfl | exact ⟨rfl, rfl⟩
                simp only [Act.put, List.setIfInBounds_toArray, List.set_cons_zero, List.set_cons_succ]
                refine' wpT_det (o := ⟨some 60, Op.move (Operand.tmp 5), 2, "l05_sparse.go:218", #[{ on := 16, ground := Ground.guard }], some (16, false)⟩) rfl (by rfl) (by rfl) (fun w' hw' => ?_) ?_; rotate_left
                · go_simp <;> first | rfl | exact ⟨rfl, rfl⟩
                simp only [Act.put, List.setIfInBounds_toArray, List.set_cons_zero, List.set_cons_succ]
                refine' wpT_det (o := ⟨some 61, Op.binOp BinOp.add 2 (Operand.tmp 59) (Operand.tmp 60) 2, 2, "l05_sparse.go:218", #[{ on := 24, ground := Ground.data }, { on := 25, ground := Ground.data }, { on := 16, ground := Ground.guard }], some (16, false)⟩) rfl (by rfl) (by rfl) (fun w' hw' => ?_) ?_; rotate_left
                · go_simp <;> first | rfl | exact ⟨rfl, rfl⟩
                simp only [Act.put, List.setIfInBounds_toArray, List.set_cons_zero, List.set_cons_succ]
                refine' wpT_det (o := ⟨some 62, Op.indexAddr 69 (Operand.tmp 53) (Operand.tmp 61), 0, "l05_sparse.go:218", #[{ on := 18, ground := Ground.data }, { on := 26, ground := Ground.data }, { on := 16, ground := Ground.guard }], some (16, false)⟩) rfl (by rfl) (by rfl) (fun w' hw' => ?_) ?_; rotate_left
                · go_simp <;> first | rfl | exact ⟨rfl, rfl⟩
                simp only [Act.put, List.setIfInBounds_toArray, List.set_cons_zero, List.set_cons_succ]
                refine' wpT_det (o := ⟨some 63, Op.load 4 (Operand.tmp 62), 4, "l05_sparse.go:218", #[{ on := 27, ground := Ground.data }, { on := 16, ground := Ground.guard }], some (16, false)⟩) rfl (by rfl) (by rfl) (fun w' hw' => ?_) ?_; rotate_left
                · have c0_ := Ext.cell hw' c0; have z1_ := Ext.cell hw' z1; have hd1_ := Ext.cell hw' hd1; have hd2_ := Ext.cell hw' hd2; go_simp <;> first | rfl | exact ⟨rfl, rfl⟩
                simp only [Act.put, List.setIfInBounds_toArray, List.set_cons_zero, List.set_cons_succ]
                refine' wpT_det (o := ⟨some 64, Op.pick (Operand.tmp 51) (Operand.const (Value.bool true)) (Operand.tmp 63), 4, "l05_sparse.go:218", #[{ on := 16, ground := Ground.data }, { on := 28, ground := Ground.data }, { on := 3, ground := Ground.guard }], some (3, true)⟩) rfl (by rfl) (by rfl) (fun w' hw' => ?_) ?_; rotate_left
                · go_simp <;> first | rfl | exact ⟨rfl, rfl⟩
                simp only [Act.put, List.setIfInBounds_toArray, List.set_cons_zero, List.set_cons_succ]
                refine' wpT_det (o := ⟨some 65, Op.pick (Operand.tmp 38) (Operand.tmp 64) (Operand.const (Value.bool false)), 4, "l05_sparse.go:218", #[{ on := 3, ground := Ground.data }, { on := 29, ground := Ground.data }], none⟩) rfl (by rfl) (by rfl) (fun w' hw' => ?_) ?_; rotate_left
                · go_simp <;> first | rfl | exact ⟨rfl, rfl⟩
                simp only [Act.put, List.setIfInBounds_toArray, List.set_cons_zero, List.set_cons_succ]
                refine wpT_nil (fun w6 hw' hF => ?_)
                refine wpList_nil ?_
                have hx2 := hw'.undrew
                go_wp2_with fail
                go_roundw
                case rel => exact ⟨k + 1, by omega, by go_num, by rw [← gb_congr (fun a b _ _ => upB_no HB.out a b)]; exact og.ext hx2, hx.trans hx2⟩
                case measure => simp [intOf]; omega
              | true =>
                rw [h2] at hd2
                have HB : Hid (nbM M i k = true) := by show nbM M i k = true; unfold nbM; rw [h1, h2, decide_eq_false e]; rfl
                clear h1 h2
                go_wp2_with fail
                refine wp_region_T (cs := []) [0, 1, 2, 3, 4, 5, 6, 7, 8, 9, 10, 11, 12, 13, 14, 15, 16, 17, 18, 19, 20, 21, 22, 23, 24, 25, 26, 27, 28, 29, 30] [] [] [] (fun _ _ => False) (fun _ _ _ => True) (by kernel_rfl) (by kernel_rfl) (fun _ _ _ _ _ _ => trivial) ?_
                refine' wpT_det (o := ⟨some 35, Op.move (Operand.tmp 5), 2, "l05_sparse.go:218", #[], none⟩) rfl (by rfl) (by rfl) (fun w' hw' => ?_) ?_; rotate_left
                · go_simp <;> first | rfl | exact ⟨rfl, rfl⟩
                simp only [Act.put, List.setIfInBounds_toArray, List.set_cons_zero, List.set_cons_succ]
                refine' wpT_det (o := ⟨some 36, Op.move (Operand.tmp 6), 2, "l05_sparse.go:218", #[], none⟩) rfl (by rfl) (by rfl) (fun w' hw' => ?_) ?_; rotate_left
                · go_simp <;> first | rfl | exact ⟨rfl, rfl⟩
                simp only [Act.put, List.setIfInBounds_toArray, List.set_cons_zero, List.set_cons_succ]
                refine' wpT_det (o := ⟨some 37, Op.binOp BinOp.neq 2 (Operand.tmp 35) (Operand.tmp 36) 2, 4, "l05_sparse.go:218", #[{ on := 0, ground := Ground.data }, { on := 1, ground := Ground.data }], none⟩) rfl (by rfl) (by rfl) (fun w' hw' => ?_) ?_; rotate_left
                · go_simp <;> first | rfl | exact ⟨rfl, rfl⟩
                simp only [Act.put, List.setIfInBounds_toArray, List.set_cons_zero, List.set_cons_succ]
                refine' wpT_det (o := ⟨some 38, Op.move (Operand.tmp 37), 4, "l05_sparse.go:218", #[{ on := 2, ground := Ground.data }], none⟩) rfl (by rfl) (by rfl) (fun w' hw' => ?_) ?_; rotate_left
                · go_simp <;> first | rfl | exact ⟨rfl, rfl⟩
                simp only [Act.put, List.setIfInBounds_toArray, List.set_cons_zero, List.set_cons_succ]
                refine' wpT_det (o := ⟨some 39, Op.fieldAddr 71 (Operand.tmp 3) 1, 0, "l05_sparse.go:218", #[{ on := 3, ground := Ground.guard }], some (3, true)⟩) rfl (by rfl) (by rfl) (fun w' hw' => ?_) ?_; rotate_left
                · go_simp <;> first | rfl | exact ⟨rfl, rfl⟩
                simp only [Act.put, List.setIfInBounds_toArray, List.set_cons_zero, List.set_cons_succ]
                refine' wpT_det (o := ⟨some 40, Op.load 69 (Operand.tmp 39), 69, "l05_sparse.go:218", #[{ on := 4, ground := Ground.data }, { on := 3, ground := Ground.guard }], some (3, true)⟩) rfl (by rfl) (by rfl) (fun w' hw' => ?_) ?_; rotate_left
                · have c0_ := Ext.cell hw' c0; have z1_ := Ext.cell hw' z1; have hd1_ := Ext.cell hw' hd1; have hd2_ := Ext.cell hw' hd2; go_simp <;> first | rfl | exact ⟨rfl, rfl⟩
                simp only [Act.put, List.setIfInBounds_toArray, List.set_cons_zero, List.set_cons_succ]
                refine' wpT_det (o := ⟨some 41, Op.move (Operand.tmp 5), 2, "l05_sparse.go:218", #[{ on := 3, ground := Ground.guard }], some (3, true)⟩) rfl (by rfl) (by rfl) (fun w' hw' => ?_) ?_; rotate_left
                · go_simp <;> first | rfl | exact ⟨rfl, rfl⟩
                simp only [Act.put, List.setIfInBounds_toArray, List.set_cons_zero, List.set_cons_succ]
                refine' wpT_det (o := ⟨some 42, Op.move (Operand.tmp 0), 68, "l05_sparse.go:218", #[{ on := 3, ground := Ground.guard }], some (3, true)⟩) rfl (by rfl) (by rfl) (fun w' hw' => ?_) ?_; rotate_left
                · go_simp <;> first | rfl | exact ⟨rfl, rfl⟩
                simp only [Act.put, List.setIfInBounds_toArray, List.set_cons_zero, List.set_cons_succ]
                refine' wpT_det (o := ⟨some 43, Op.nilCheck (Operand.tmp 42), 0, "l05_sparse.go:218", #[{ on := 7, ground := Ground.data }, { on := 3, ground := Ground.guard }], some (3, true)⟩) rfl (by rfl) (by rfl) (fun w' hw' => ?_) ?_; rotate_left
                · go_simp <;> first | rfl | exact ⟨rfl, rfl⟩
                simp only [Act.put, List.setIfInBounds_toArray, List.set_cons_zero, List.set_cons_succ]
                refine' wpT_det (o := ⟨some 44, Op.fieldAddr 27 (Operand.tmp 43) 0, 0, "l05_sparse.go:218", #[{ on := 8, ground := Ground.data }, { on := 3, ground := Ground.guard }], some (3, true)⟩) rfl (by rfl) (by rfl) (fun w' hw' => ?_) ?_; rotate_left
                · go_simp <;> first | rfl | exact ⟨rfl, rfl⟩
                simp only [Act.put, List.setIfInBounds_toArray, List.set_cons_zero, List.set_cons_succ]
                refine' wpT_det (o := ⟨some 45, Op.load 2 (Operand.tmp 44), 2, "l05_sparse.go:218", #[{ on := 9, ground := Ground.data }, { on := 3, ground := Ground.guard }], some (3, true)⟩) rfl (by rfl) (by rfl) (fun w' hw' => ?_) ?_; rotate_left
                · have c0_ := Ext.cell hw' c0; have z1_ := Ext.cell hw' z1; have hd1_ := Ext.cell hw' hd1; have hd2_ := Ext.cell hw' hd2; go_simp <;> first | rfl | exact ⟨rfl, rfl⟩
                simp only [Act.put, List.setIfInBounds_toArray, List.set_cons_zero, List.set_cons_succ]
                refine' wpT_det (o := ⟨some 46, Op.binOp BinOp.mul 2 (Operand.tmp 41) (Operand.tmp 45) 2, 2, "l05_sparse.go:218", #[{ on := 6, ground := Ground.data }, { on := 10, ground := Ground.data }, { on := 3, ground := Ground.guard }], some (3, true)⟩) rfl (by rfl) (by rfl) (fun w' hw' => ?_) ?_; rotate_left
                · go_simp <;> first | rfl | exact ⟨rfl, rfl⟩
                simp only [Act.put, List.setIfInBounds_toArray, List.set_cons_zero, List.set_cons_succ]
                refine' wpT_det (o := ⟨some 47, Op.move (Operand.tmp 6), 2, "l05_sparse.go:218", #[{ on := 3, ground := Ground.guard }], some (3, true)⟩) rfl (by rfl) (by rfl) (fun w' hw' => ?_) ?_; rotate_left
                · go_simp <;> first | rfl | exact ⟨rfl, rfl⟩
                simp only [Act.put, List.setIfInBounds_toArray, List.set_cons_zero, List.set_cons_succ]
                refine' wpT_det (o := ⟨some 48, Op.binOp BinOp.add 2 (Operand.tmp 46) (Operand.tmp 47) 2, 2, "l05_sparse.go:218", #[{ on := 11, ground := Ground.data }, { on := 12, ground := Ground.data }, { on := 3, ground := Ground.guard }], some (3, true)⟩) rfl (by rfl) (by rfl) (fun w' hw' => ?_) ?_; rotate_left
                · go_simp <;> first | rfl | exact ⟨rfl, rfl⟩
                simp only [Act.put, List.setIfInBounds_toArray, List.set_cons_zero, List.set_cons_succ]
                refine' wpT_det (o := ⟨some 49, Op.indexAddr 69 (Operand.tmp 40) (Operand.tmp 48), 0, "l05_sparse.go:218", #[{ on := 5, ground := Ground.data }, { on := 13, ground := Ground.data }, { on := 3, ground := Ground.guard }], some (3, true)⟩) rfl (by rfl) (by rfl) (fun w' hw' => ?_) ?_; rotate_left
                · go_simp <;> first | rfl | exact ⟨rfl, rfl⟩
                simp only [Act.put, List.setIfInBounds_toArray, List.set_cons_zero, List.set_cons_succ]
                refine' wpT_det (o := ⟨some 50, Op.load 4 (Operand.tmp 49), 4, "l05_sparse.go:218", #[{ on := 14, ground := Ground.data }, { on := 3, ground := Ground.guard }], some (3, true)⟩) rfl (by rfl) (by rfl) (fun w' hw' => ?_) ?_; rotate_left
                · have c0_ := Ext.cell hw' c0; have z1_ := Ext.cell hw' z1; have hd1_ := Ext.cell hw' hd1; have hd2_ := Ext.cell hw' hd2; go_simp <;> first | rfl | exact ⟨rfl, rfl⟩
                simp only [Act.put, List.setIfInBounds_toArray, List.set_cons_zero, List.set_cons_succ]
                refine' wpT_det (o := ⟨some 51, Op.move (Operand.tmp 50), 4, "l05_sparse.go:218", #[{ on := 15, ground := Ground.data }, { on := 3, ground := Ground.chain }, { on := 3, ground := Ground.guard }], some (3, true)⟩) rfl (by rfl) (by rfl) (fun w' hw' => ?_) ?_; rotate_left
                · go_simp <;> first | rfl | exact ⟨rfl, rfl⟩
                simp only [Act.put, List.setIfInBounds_toArray, List.set_cons_zero, List.set_cons_succ]
                refine' wpT_det (o := ⟨some 52, Op.fieldAddr 71 (Operand.tmp 3) 1, 0, "l05_sparse.go:218", #[{ on := 16, ground := Ground.guard }], some (16, false)⟩) rfl (by rfl) (by rfl) (fun w' hw' => ?_) ?_; rotate_left
                · go_simp <;> first | rfl | exact ⟨rfl, rfl⟩
                simp only [Act.put, List.setIfInBounds_toArray, List.set_cons_zero, List.set_cons_succ]
                refine' wpT_det (o := ⟨some 53, Op.load 69 (Operand.tmp 52), 69, "l05_sparse.go:218", #[{ on := 17, ground := Ground.data }, { on := 16, ground := Ground.guard }], some (16, false)⟩) rfl (by rfl) (by rfl) (fun w' hw' => ?_) ?_; rotate_left
                · have c0_ := Ext.cell hw' c0; have z1_ := Ext.cell hw' z1; have hd1_ := Ext.cell hw' hd1; have hd2_ := Ext.cell hw' hd2; go_simp <;> first | rfl | exact ⟨rfl, rfl⟩
                simp only [Act.put, List.setIfInBounds_toArray, List.set_cons_zero, List.set_cons_succ]
                refine' wpT_det (o := ⟨some 54, Op.move (Operand.tmp 6), 2, "l05_sparse.go:218", #[{ on := 16, ground := Ground.guard }], some (16, false)⟩) rfl (by rfl) (by rfl) (fun w' hw' => ?_) ?_; rotate_left
                · go_simp <;> first | rfl | exact ⟨rfl, rfl⟩
                simp only [Act.put, List.setIfInBounds_toArray, List.set_cons_zero, List.set_cons_succ]
                refine' wpT_det (o := ⟨some 55, Op.move (Operand.tmp 0), 68, "l05_sparse.go:218", #[{ on := 16, ground := Ground.guard }], some (16, false)⟩) rfl (by rfl) (by rfl) (fun w' hw' => ?_) ?_; rotate_left
                · go_simp <;> first | rfl | exact ⟨rfl, rfl⟩
                simp only [Act.put, List.setIfInBounds_toArray, List.set_cons_zero, List.set_cons_succ]
                refine' wpT_det (o := ⟨some 56, Op.nilCheck (Operand.tmp 55), 0, "l05_sparse.go:218", #[{ on := 20, ground := Ground.data }, { on := 16, ground := Ground.guard }], some (16, false)⟩) rfl (by rfl) (by rfl) (fun w' hw' => ?_) ?_; rotate_left
                · go_simp <;> first | rfl | exact ⟨rfl, rfl⟩
                simp only [Act.put, List.setIfInBounds_toArray, List.set_cons_zero, List.set_cons_succ]
                refine' wpT_det (o := ⟨some 57, Op.fieldAddr 27 (Operand.tmp 56) 0, 0, "l05_sparse.go:218", #[{ on := 21, ground := Ground.data }, { on := 16, ground := Ground.guard }], some (16, false)⟩) rfl (by rfl) (by rfl) (fun w' hw' => ?_) ?_; rotate_left
                · go_simp <;> first | rfl | exact ⟨rfl, rfl⟩
                simp only [Act.put, List.setIfInBounds_toArray, List.set_cons_zero, List.set_cons_succ]
                refine' wpT_det (o := ⟨some 58, Op.load 2 (Operand.tmp 57), 2, "l05_sparse.go:218", #[{ on := 22, ground := Ground.data }, { on := 16, ground := Ground.guard }], some (16, false)⟩) rfl (by rfl) (by rfl) (fun w' hw' => ?_) ?_; rotate_left
                · have c0_ := Ext.cell hw' c0; have z1_ := Ext.cell hw' z1; have hd1_ := Ext.cell hw' hd1; have hd2_ := Ext.cell hw' hd2; go_simp <;> first | rfl | exact ⟨rfl, rfl⟩
                simp only [Act.put, List.setIfInBounds_toArray, List.set_cons_zero, List.set_cons_succ]
                refine' wpT_det (o := ⟨some 59, Op.binOp BinOp.mul 2 (Operand.tmp 54) (Operand.tmp 58) 2, 2, "l05_sparse.go:218", #[{ on := 19, ground := Ground.data }, { on := 23, ground := Ground.data }, { on := 16, ground := Ground.guard }], some (16, false)⟩) rfl (by rfl) (by rfl) (fun w' hw' => ?_) ?_; rotate_left
                · go_simp <;> first | rfl | exact ⟨rfl, rfl⟩
                simp only [Act.put, List.setIfInBounds_toArray, List.set_cons_zero, List.set_cons_succ]
                refine' wpT_det (o := ⟨some 60, Op.move (Operand.tmp 5), 2, "l05_sparse.go:218", #[{ on := 16, ground := Ground.guard }], some (16, false)⟩) rfl (by rfl) (by rfl) (fun w' hw' => ?_) ?_; rotate_left
                · go_simp <;> first | rfl | exact ⟨rfl, rfl⟩
                simp only [Act.put, List.setIfInBounds_toArray, List.set_cons_zero, List.set_cons_succ]
                refine' wpT_det (o := ⟨some 61, Op.binOp BinOp.add 2 (Operand.tmp 59) (Operand.tmp 60) 2, 2, "l05_sparse.go:218", #[{ on := 24, ground := Ground.data }, { on := 25, ground := Ground.data }, { on := 16, ground := Ground.guard }], some (16, false)⟩) rfl (by rfl) (by rfl) (fun w' hw' => ?_) ?_; rotate_left
                · go_simp <;> first | rfl | exact ⟨rfl, rfl⟩
                simp only [Act.put, List.setIfInBounds_toArray, List.set_cons_zero, List.set_cons_succ]
                refine' wpT_det (o := ⟨some 62, Op.indexAddr 69 (Operand.tmp 53) (Operand.tmp 61), 0, "l05_sparse.go:218", #[{ on := 18, ground := Ground.data }, { on := 26, ground := Ground.data }, { on := 16, ground := Ground.guard }], some (16, false)⟩) rfl (by rfl) (by rfl) (fun w' hw' => ?_) ?_; rotate_left
                · go_simp <;> first | rfl | exact ⟨rfl, rfl⟩
                simp only [Act.put, List.setIfInBounds_toArray, List.set_cons_zero, List.set_cons_succ]
                refine' wpT_det (o := ⟨some 63, Op.load 4 (Operand.tmp 62), 4, "l05_sparse.go:218", #[{ on := 27, ground := Ground.data }, { on := 16, ground := Ground.guard }], some (16, false)⟩) rfl (by rfl) (by rfl) (fun w' hw' => ?_) ?_; rotate_left
                · have c0_ := Ext.cell hw' c0; have z1_ := Ext.cell hw' z1; have hd1_ := Ext.cell hw' hd1; have hd2_ := Ext.cell hw' hd2; go_simp <;> first | rfl | exact ⟨rfl, rfl⟩
                simp only [Act.put, List.setIfInBounds_toArray, List.set_cons_zero, List.set_cons_succ]
                refine' wpT_det (o := ⟨some 64, Op.pick (Operand.tmp 51) (Operand.const (Value.bool true)) (Operand.tmp 63), 4, "l05_sparse.go:218", #[{ on := 16, ground := Ground.data }, { on := 28, ground := Ground.data }, { on := 3, ground := Ground.guard }], some (3, true)⟩) rfl (by rfl) (by rfl) (fun w' hw' => ?_) ?_; rotate_left
                · go_simp <;> first | rfl | exact ⟨rfl, rfl⟩
                simp only [Act.put, List.setIfInBounds_toArray, List.set_cons_zero, List.set_cons_succ]
                refine' wpT_det (o := ⟨some 65, Op.pick (Operand.tmp 38) (Operand.tmp 64) (Operand.const (Value.bool false)), 4, "l05_sparse.go:218", #[{ on := 3, ground := Ground.data }, { on := 29, ground := Ground.data }], none⟩) rfl (by rfl) (by rfl) (fun w' hw' => ?_) ?_; rotate_left
                · go_simp <;> first | rfl | exact ⟨rfl, rfl⟩
                simp only [Act.put, List.setIfInBounds_toArray, List.set_cons_zero, List.set_cons_succ]
                refine wpT_nil (fun w6 hw' hF => ?_)
                refine wpList_nil ?_
                have hx2 := hw'.undrew
                clear hF hw' hd1 hd2 z1 c0
                replace og := og.ext hx2
                replace hx := hx.trans hx2
                clear hx2
                have c0 := hx.cell (hx0.cell HA.out.1)
                obtain ⟨hc, hf⟩ := og.at_ (i * n + k) i7
                rw [bools_get (by rw [gb_length, ← HN.out]; exact i7)] at hc
                have hsb := store_bool Try.prog true hc hf
                obtain ⟨s1, s2⟩ := og.stored (i * n + k) (.bool true)
                rw [← bools_set, gb_set hlt hlk ((upB_at (nbM M) i k).trans HB.out) (fun a b _ h => upB_other h)] at s1
                have hx3 := s2.ext hx og
                go_wp2_with fail
                go_roundw
                case rel => exact ⟨k + 1, by omega, by go_num, s1, hx3⟩
                case measure => simp [intOf]; omega
            | true =>
              rw [h1] at hd1
              have HB : Hid (nbM M i k = true) := by show nbM M i k = true; unfold nbM; rw [h1, decide_eq_false e]; rfl
              clear h1
              go_wp2_with fail
              refine wp_region_T (cs := []) [0, 1, 2, 3, 4, 5, 6, 7, 8, 9, 10, 11, 12, 13, 14, 15, 16, 17, 18, 19, 20, 21, 22, 23, 24, 25, 26, 27, 28, 29, 30] [] [] [] (fun _ _ => False) (fun _ _ _ => True) (by kernel_rfl) (by kernel_rfl) (fun _ _ _ _ _ _ => trivial) ?_
              refine' wpT_det (o := ⟨some 35, Op.move (Operand.tmp 5), 2, "l05_sparse.go:218", #[], none⟩) rfl (by rfl) (by rfl) (fun w' hw' => ?_) ?_; rotate_left
              · go_simp <;> first | rfl | exact ⟨rfl, rfl⟩
              simp only [Act.put, List.setIfInBounds_toArray, List.set_cons_zero, List.set_cons_succ]
              refine' wpT_det (o := ⟨some 36, Op.move (Operand.tmp 6), 2, "l05_sparse.go:218", #[], none⟩) rfl (by rfl) (by rfl) (fun w' hw' => ?_) ?_; rotate_left
              · go_simp <;> first | rfl | exact ⟨rfl, rfl⟩
              simp only [Act.put, List.setIfInBounds_toArray, List.set_cons_zero, List.set_cons_succ]
              refine' wpT_det (o := ⟨some 37, Op.binOp BinOp.neq 2 (Operand.tmp 35) (Operand.tmp 36) 2, 4, "l05_sparse.go:218", #[{ on := 0, ground := Ground.data }, { on := 1, ground := Ground.data }], none⟩) rfl (by rfl) (by rfl) (fun w' hw' => ?_) ?_; rotate_left
              · go_simp <;> first | rfl | exact ⟨rfl, rfl⟩
              simp only [Act.put, List.setIfInBounds_toArray, List.set_cons_zero, List.set_cons_succ]
              refine' wpT_det (o := ⟨some 38, Op.move (Operand.tmp 37), 4, "l05_sparse.go:218", #[{ on := 2, ground := Ground.data }], none⟩) rfl (by rfl) (by rfl) (fun w' hw' => ?_) ?_; rotate_left
              · go_simp <;> first | rfl | exact ⟨rfl, rfl⟩
              simp only [Act.put, List.setIfInBounds_toArray, List.set_cons_zero, List.set_cons_succ]
              refine' wpT_det (o := ⟨some 39, Op.fieldAddr 71 (Operand.tmp 3) 1, 0, "l05_sparse.go:218", #[{ on := 3, ground := Ground.guard }], some (3, true)⟩) rfl (by rfl) (by rfl) (fun w' hw' => ?_) ?_; rotate_left
              · go_simp <;> first | rfl | exact ⟨rfl, rfl⟩
              simp only [Act.put, List.setIfInBounds_toArray, List.set_cons_zero, List.set_cons_succ]
              refine' wpT_det (o := ⟨some 40, Op.load 69 (Operand.tmp 39), 69, "l05_sparse.go:218", #[{ on := 4, ground := Ground.data }, { on := 3, ground := Ground.guard }], some (3, true)⟩) rfl (by rfl) (by rfl) (fun w' hw' => ?_) ?_; rotate_left
              · have c0_ := Ext.cell hw' c0; have z1_ := Ext.cell hw' z1; have hd1_ := Ext.cell hw' hd1; go_simp <;> first | rfl | exact ⟨rfl, rfl⟩
              simp only [Act.put, List.setIfInBounds_toArray, List.set_cons_zero, List.set_cons_succ]
              refine' wpT_det (o := ⟨some 41, Op.move (Operand.tmp 5), 2, "l05_sparse.go:218", #[{ on := 3, ground := Ground.guard }], some (3, true)⟩) rfl (by rfl) (by rfl) (fun w' hw' => ?_) ?_; rotate_left
              · go_simp <;> first | rfl | exact ⟨rfl, rfl⟩
              simp only [Act.put, List.setIfInBounds_toArray, List.set_cons_zero, List.set_cons_succ]
              refine' wpT_det (o := ⟨some 42, Op.move (Operand.tmp 0), 68, "l05_sparse.go:218", #[{ on := 3, ground := Ground.guard }], some (3, true)⟩) rfl (by rfl) (by rfl) (fun w' hw' => ?_) ?_; rotate_left
              · go_simp <;> first | rfl | exact ⟨rfl, rfl⟩
              simp only [Act.put, List.setIfInBounds_toArray, List.set_cons_zero, List.set_cons_succ]
              refine' wpT_det (o := ⟨some 43, Op.nilCheck (Operand.tmp 42), 0, "l05_sparse.go:218", #[{ on := 7, ground := Ground.data }, { on := 3, ground := Ground.guard }], some (3, true)⟩) rfl (by rfl) (by rfl) (fun w' hw' => ?_) ?_; rotate_left
              · go_simp <;> first | rfl | exact ⟨rfl, rfl⟩
              simp only [Act.put, List.setIfInBounds_toArray, List.set_cons_zero, List.set_cons_succ]
              refine' wpT_det (o := ⟨some 44, Op.fieldAddr 27 (Operand.tmp 43) 0, 0, "l05_sparse.go:218", #[{ on := 8, ground := Ground.data }, { on := 3, ground := Ground.guard }], some (3, true)⟩) rfl (by rfl) (by rfl) (fun w' hw' => ?_) ?_; rotate_left
              · go_simp <;> first | rfl | exact ⟨rfl, rfl⟩
              simp only [Act.put, List.setIfInBounds_toArray, List.set_cons_zero, List.set_cons_succ]
              refine' wpT_det (o := ⟨some 45, Op.load 2 (Operand.tmp 44), 2, "l05_sparse.go:218", #[{ on := 9, ground := Ground.data }, { on := 3, ground := Ground.guard }], some (3, true)⟩) rfl (by rfl) (by rfl) (fun w' hw' => ?_) ?_; rotate_left
              · have c0_ := Ext.cell hw' c0; have z1_ := Ext.cell hw' z1; have hd1_ := Ext.cell hw' hd1; go_simp <;> first | rfl | exact ⟨rfl, rfl⟩
              simp only [Act.put, List.setIfInBounds_toArray, List.set_cons_zero, List.set_cons_succ]
              refine' wpT_det (o := ⟨some 46, Op.binOp BinOp.mul 2 (Operand.tmp 41) (Operand.tmp 45) 2, 2, "l05_sparse.go:218", #[{ on := 6, ground := Ground.data }, { on := 10, ground := Ground.data }, { on := 3, ground := Ground.guard }], some (3, true)⟩) rfl (by rfl) (by rfl) (fun w' hw' => ?_) ?_; rotate_left
              · go_simp <;> first | rfl | exact ⟨rfl, rfl⟩
              simp only [Act.put, List.setIfInBounds_toArray, List.set_cons_zero, List.set_cons_succ]
              refine' wpT_det (o := ⟨some 47, Op.move (Operand.tmp 6), 2, "l05_sparse.go:218", #[{ on := 3, ground := Ground.guard }], some (3, true)⟩) rfl (by rfl) (by rfl) (fun w' hw' => ?_) ?_; rotate_left
              · go_simp <;> first | rfl | exact ⟨rfl, rfl⟩
              simp only [Act.put, List.setIfInBounds_toArray, List.set_cons_zero, List.set_cons_succ]
              refine' wpT_det (o := ⟨some 48, Op.binOp BinOp.add 2 (Operand.tmp 46) (Operand.tmp 47) 2, 2, "l05_sparse.go:218", #[{ on := 11, ground := Ground.data }, { on := 12, ground := Ground.data }, { on := 3, ground := Ground.guard }], some (3, true)⟩) rfl (by rfl) (by rfl) (fun w' hw' => ?_) ?_; rotate_left
              · go_simp <;> first | rfl | exact ⟨rfl, rfl⟩
              simp only [Act.put, List.setIfInBounds_toArray, List.set_cons_zero, List.set_cons_succ]
              refine' wpT_det (o := ⟨some 49, Op.indexAddr 69 (Operand.tmp 40) (Operand.tmp 48), 0, "l05_sparse.go:218", #[{ on := 5, ground := Ground.data }, { on := 13, ground := Ground.data }, { on := 3, ground := Ground.guard }], some (3, true)⟩) rfl (by rfl) (by rfl) (fun w' hw' => ?_) ?_; rotate_left
              · go_simp <;> first | rfl | exact ⟨rfl, rfl⟩
              simp only [Act.put, List.setIfInBounds_toArray, List.set_cons_zero, List.set_cons_succ]
              refine' wpT_det (o := ⟨some 50, Op.load 4 (Operand.tmp 49), 4, "l05_sparse.go:218", #[{ on := 14, ground := Ground.data }, { on := 3, ground := Ground.guard }], some (3, true)⟩) rfl (by rfl) (by rfl) (fun w' hw' => ?_) ?_; rotate_left
              · have c0_ := Ext.cell hw' c0; have z1_ := Ext.cell hw' z1; have hd1_ := Ext.cell hw' hd1; go_simp <;> first | rfl | exact ⟨rfl, rfl⟩
              simp only [Act.put, List.setIfInBounds_toArray, List.set_cons_zero, List.set_cons_succ]
              refine' wpT_det (o := ⟨some 51, Op.move (Operand.tmp 50), 4, "l05_sparse.go:218", #[{ on := 15, ground := Ground.data }, { on := 3, ground := Ground.chain }, { on := 3, ground := Ground.guard }], some (3, true)⟩) rfl (by rfl) (by rfl) (fun w' hw' => ?_) ?_; rotate_left
              · go_simp <;> first | rfl | exact ⟨rfl, rfl⟩
              simp only [Act.put, List.setIfInBounds_toArray, List.set_cons_zero, List.set_cons_succ]
              refine wpT_skip (o := ⟨some 52, Op.fieldAddr 71 (Operand.tmp 3) 1, 0, "l05_sparse.go:218", #[{ on := 16, ground := Ground.guard }], some (16, false)⟩) rfl (by rfl) ?_
              simp only [Act.put, List.setIfInBounds_toArray, List.set_cons_zero, List.set_cons_succ]
              refine wpT_skip (o := ⟨some 53, Op.load 69 (Operand.tmp 52), 69, "l05_sparse.go:218", #[{ on := 17, ground := Ground.data }, { on := 16, ground := Ground.guard }], some (16, false)⟩) rfl (by rfl) ?_
              simp only [Act.put, List.setIfInBounds_toArray, List.set_cons_zero, List.set_cons_succ]
              refine wpT_skip (o := ⟨some 54, Op.move (Operand.tmp 6), 2, "l05_sparse.go:218", #[{ on := 16, ground := Ground.guard }], some (16, false)⟩) rfl (by rfl) ?_
              simp only [Act.put, List.setIfInBounds_toArray, List.set_cons_zero, List.set_cons_succ]
              refine wpT_skip (o := ⟨some 55, Op.move (Operand.tmp 0), 68, "l05_sparse.go:218", #[{ on := 16, ground := Ground.guard }], some (16, false)⟩) rfl (by rfl) ?_
              simp only [Act.put, List.setIfInBounds_toArray, List.set_cons_zero, List.set_cons_succ]
              refine wpT_skip (o := ⟨some 56, Op.nilCheck (Operand.tmp 55), 0, "l05_sparse.go:218", #[{ on := 20, ground := Ground.data }, { on := 16, ground := Ground.guard }], some (16, false)⟩) rfl (by rfl) ?_
              simp only [Act.put, List.setIfInBounds_toArray, List.set_cons_zero, List.set_cons_succ]
              refine wpT_skip (o := ⟨some 57, Op.fieldAddr 27 (Operand.tmp 56) 0, 0, "l05_sparse.go:218", #[{ on := 21, ground := Ground.data }, { on := 16, ground := Ground.guard }], some (16, false)⟩) rfl (by rfl) ?_
              simp only [Act.put, List.setIfInBounds_toArray, List.set_cons_zero, List.set_cons_succ]
              refine wpT_skip (o := ⟨some 58, Op.load 2 (Operand.tmp 57), 2, "l05_sparse.go:218", #[{ on := 22, ground := Ground.data }, { on := 16, ground := Ground.guard }], some (16, false)⟩) rfl (by rfl) ?_
              simp only [Act.put, List.setIfInBounds_toArray, List.set_cons_zero, List.set_cons_succ]
              refine wpT_skip (o := ⟨some 59, Op.binOp BinOp.mul 2 (Operand.tmp 54) (Operand.tmp 58) 2, 2, "l05_sparse.go:218", #[{ on := 19, ground := Ground.data }, { on := 23, ground := Ground.data }, { on := 16, ground := Ground.guard }], some (16, false)⟩) rfl (by rfl) ?_
              simp only [Act.put, List.setIfInBounds_toArray, List.set_cons_zero, List.set_cons_succ]
              refine wpT_skip (o := ⟨some 60, Op.move (Operand.tmp 5), 2, "l05_sparse.go:218", #[{ on := 16, ground := Ground.guard }], some (16, false)⟩) rfl (by rfl) ?_
              simp only [Act.put, List.setIfInBounds_toArray, List.set_cons_zero, List.set_cons_succ]
              refine wpT_skip (o := ⟨some 61, Op.binOp BinOp.add 2 (Operand.tmp 59) (Operand.tmp 60) 2, 2, "l05_sparse.go:218", #[{ on := 24, ground := Ground.data }, { on := 25, ground := Ground.data }, { on := 16, ground := Ground.guard }], some (16, false)⟩) rfl (by rfl) ?_
              simp only [Act.put, List.setIfInBounds_toArray, List.set_cons_zero, List.set_cons_succ]
              refine wpT_skip (o := ⟨some 62, Op.indexAddr 69 (Operand.tmp 53) (Operand.tmp 61), 0, "l05_sparse.go:218", #[{ on := 18, ground := Ground.data }, { on := 26, ground := Ground.data }, { on := 16, ground := Ground.guard }], some (16, false)⟩) rfl (by rfl) ?_
              simp only [Act.put, List.setIfInBounds_toArray, List.set_cons_zero, List.set_cons_succ]
              refine wpT_skip (o := ⟨some 63, Op.load 4 (Operand.tmp 62), 4, "l05_sparse.go:218", #[{ on := 27, ground := Ground.data }, { on := 16, ground := Ground.guard }], some (16, false)⟩) rfl (by rfl) ?_
              simp only [Act.put, List.setIfInBounds_toArray, List.set_cons_zero, List.set_cons_succ]
              refine' wpT_det (o := ⟨some 64, Op.pick (Operand.tmp 51) (Operand.const (Value.bool true)) (Operand.tmp 63), 4, "l05_sparse.go:218", #[{ on := 16, ground := Ground.data }, { on := 28, ground := Ground.data }, { on := 3, ground := Ground.guard }], some (3, true)⟩) rfl (by rfl) (by rfl) (fun w' hw' => ?_) ?_; rotate_left
              · go_simp <;> first | rfl | exact ⟨rfl, rfl⟩
              simp only [Act.put, List.setIfInBounds_toArray, List.set_cons_zero, List.set_cons_succ]
              refine' wpT_det (o := ⟨some 65, Op.pick (Operand.tmp 38) (Operand.tmp 64) (Operand.const (Value.bool false)), 4, "l05_sparse.go:218", #[{ on := 3, ground := Ground.data }, { on := 29, ground := Ground.data }], none⟩) rfl (by rfl) (by rfl) (fun w' hw' => ?_) ?_; rotate_left
              · go_simp <;> first | rfl | exact ⟨rfl, rfl⟩
              simp only [Act.put, List.setIfInBounds_toArray, List.set_cons_zero, List.set_cons_succ]
              refine wpT_nil (fun w6 hw' hF => ?_)
              refine wpList_nil ?_
              have hx2 := hw'.undrew
              clear hF hw' hd1 hd2 z1 c0
              replace og := og.ext hx2
              replace hx := hx.trans hx2
              clear hx2
              have c0 := hx.cell (hx0.cell HA.out.1)
              obtain ⟨hc, hf⟩ := og.at_ (i * n + k) i7
              rw [bools_get (by rw [gb_length, ← HN.out]; exact i7)] at hc
              have hsb := store_bool Try.prog true hc hf
              obtain ⟨s1, s2⟩ := og.stored (i * n + k) (.bool true)
              rw [← bools_set, gb_set hlt hlk ((upB_at (nbM M) i k).trans HB.out) (fun a b _ h => upB_other h)] at s1
              have hx3 := s2.ext hx og
              go_wp2_with fail
              go_roundw
              case rel => exact ⟨k + 1, by omega, by go_num, s1, hx3⟩
              case measure => simp [intOf]; omega
        · obtain rfl : k = n := by omega
          rw [gb_congr (upB_row (nbM M) i)] at og
          go_wp2_with fail
          go_roundw
          case rel => exact ⟨i + 1, by omega, by go_num, og, hx⟩
          case measure => simp [intOf]; omega
    · obtain rfl : i = n := by omega
      rw [gb_congr (upB_all (nbM M))] at og
      go_wp2_with fail
      go_ret
      exact ⟨_, _, rfl, og.base hW, hx0.trans hx⟩

end Go.Proofs.Ytkifpligpobiaaa
