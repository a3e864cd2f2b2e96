
/- Full squares. -/

import Derived.Test.YtkifpligpobiaaaV4

import Derived.Test.YtkifpligpobiaaaP2

import Derived.Test.YtkifpligpobiaaaSB1
set_option linter.unusedVariables false
set_option linter.unusedSimpArgs false

namespace Go.Proofs.Ytkifpligpobiaaa

open Go.RowKit


theorem info_bool : (Try.prog.info? 4).map (fun i => (i.zero, i.size, i.bytes)) = some (some (.bool false), 1, 1) := by kernel_rfl

/-- A full square with rows of its own. -/
def RetFu (w : World) (n : Nat) (M : Sqr) (e : Ending) (w' : World) : Prop := ∃ A k V q ys, e = .returned (.agg #[.int .i64 n, .slice A (n * n) k, .slice V (n * n) q]) ∧ cfs ys = nb n M ∧ Own w' w.heap.size 4 (.slice A (n * n) k) (bools (tb n M)) ∧ Own w' w.heap.size 43 (.slice V (n * n) q) (flts ys) ∧ Ext w w'

set_option maxRecDepth 20000 in
set_option maxHeartbeats 1000000 in
theorem l05Blank_any (n : Nat) (hn : n ≤ 32) (w : World) :
    Calls Try.prog 73 #[.int .i64 n] w (RetFu w n noneM) := by
  have h1 : n * n ≤ 32 * 32 := Nat.mul_le_mul hn hn
  have e : (n : Int) * n = ((n * n : Nat) : Int) := by simp
  have hwm : IntKind.i64.wrap ((n : Int) * n) = ((n * n : Nat) : Int) := by rw [e]; exact IntWalk.i64_in _ (by omega)
  unfold RetFu
  rw [tb_none, nb_none, bools_replicate]
  obtain ⟨N, hN⟩ : ∃ N, N = n * n := ⟨_, rfl⟩
  rw [← hN] at hwm h1 ⊢
  clear hN e
  have hmb := run_make_row' (P := Try.prog) 69 4 (.bool false) 1 Try.underlying69 info_bool rfl .i64 .i64 N (by omega) (by omega)
  have hmk := run_make_row' (P := Try.prog) 23 43 (.float .f32 0) 4 Try.underlying23 info_f32 rfl .i64 .i64 N (by omega) (by omega)
  go_enter Try.func73, Try.ntmps73
  go_upto_region 1 with (fail)
  go_upto_region 1 with (fail)
  have hx0 : Ext w (w.alloc (.cells #[.int .i64 0, .slice none 0 0, .slice none 0 0] 71)) := (Ext.refl _).alloc _
  have b0 := Blk.new w #[.int .i64 0, .slice none 0 0, .slice none 0 0] 71
  obtain ⟨w0, hw0⟩ : ∃ w0 : World, w0 = w.alloc (.cells #[.int .i64 0, .slice none 0 0, .slice none 0 0] 71) := ⟨_, rfl⟩
  rw [← hw0] at hx0 b0 ⊢
  clear hw0
  refine wp_region_T (cs := []) [0, 1, 2, 3, 4, 5, 6, 7, 8, 9] [10] [4, 8] [] (fun i__ v => match i__ with | 4 => ∃ g, v = .slice (some ⟨g, 0, none⟩) N N | 8 => ∃ g, v = .slice (some ⟨g, 0, none⟩) N N | _ => False) (fun i__ v w' => match i__ with | 4 => OwnF w' w0.heap.size 4 v [] (List.replicate N (.bool false)) | 8 => OwnF w' w0.heap.size 43 v [] (List.replicate N (.float .f32 0)) | _ => True) (by kernel_rfl) (by kernel_rfl) (by intro i v w' w2 h hx; revert h; (try dsimp only); split <;> intro h <;> first | trivial | exact OwnF.ext h hx) ?_
  refine' wpT_det (o := ⟨some 3, Op.move (Operand.tmp 0), 2, "l05_sparse.go:42", #[], none⟩) rfl (by rfl) (by rfl) (fun w' hw' => ?_) ?_; rotate_left
  · go_simp <;> first | rfl | exact ⟨rfl, rfl⟩
  simp only [Act.put, List.setIfInBounds_toArray, List.set_cons_zero, List.set_cons_succ]
  refine' wpT_det (o := ⟨some 4, Op.move (Operand.tmp 0), 2, "l05_sparse.go:42", #[], none⟩) rfl (by rfl) (by rfl) (fun w' hw' => ?_) ?_; rotate_left
  · go_simp <;> first | rfl | exact ⟨rfl, rfl⟩
  simp only [Act.put, List.setIfInBounds_toArray, List.set_cons_zero, List.set_cons_succ]
  refine' wpT_det (o := ⟨some 5, Op.move (Operand.tmp 0), 2, "l05_sparse.go:42", #[], none⟩) rfl (by rfl) (by rfl) (fun w' hw' => ?_) ?_; rotate_left
  · go_simp <;> first | rfl | exact ⟨rfl, rfl⟩
  simp only [Act.put, List.setIfInBounds_toArray, List.set_cons_zero, List.set_cons_succ]
  refine' wpT_det (o := ⟨some 6, Op.binOp BinOp.mul 2 (Operand.tmp 4) (Operand.tmp 5) 2, 2, "l05_sparse.go:42", #[{ on := 1, ground := Ground.data }, { on := 2, ground := Ground.data }], none⟩) rfl (by rfl) (by rfl) (fun w' hw' => ?_) ?_; rotate_left
  · go_simp <;> first | rfl | exact ⟨rfl, rfl⟩
  simp only [Act.put, List.setIfInBounds_toArray, List.set_cons_zero, List.set_cons_succ]
  refine wpT_nd (o := ⟨some 7, Op.makeSlice 69 (Operand.tmp 6) (Operand.tmp 6), 69, "l05_sparse.go:42", #[{ on := 3, ground := Ground.data }, { on := 3, ground := Ground.data }], none⟩) rfl (by rfl) (by rfl) (fun w' hw' hF R__ hGo => ?_) ⟨_, 0, rfl⟩ ?_
  · go_simp; exact gives_value rfl (hGo _ _ ((Ext.refl _).alloc _) ⟨_, rfl⟩ (OwnF.of ((Own.made _ _ (.bool false) N rfl (by omega)).base hw'.size) rfl))
  rintro _ ⟨g1, rfl⟩
  simp only [Act.put, List.setIfInBounds_toArray, List.set_cons_zero, List.set_cons_succ]
  refine' wpT_det (o := ⟨some 8, Op.move (Operand.tmp 0), 2, "l05_sparse.go:42", #[], none⟩) rfl (by rfl) (by rfl) (fun w' hw' => ?_) ?_; rotate_left
  · go_simp <;> first | rfl | exact ⟨rfl, rfl⟩
  simp only [Act.put, List.setIfInBounds_toArray, List.set_cons_zero, List.set_cons_succ]
  refine' wpT_det (o := ⟨some 9, Op.move (Operand.tmp 0), 2, "l05_sparse.go:42", #[], none⟩) rfl (by rfl) (by rfl) (fun w' hw' => ?_) ?_; rotate_left
  · go_simp <;> first | rfl | exact ⟨rfl, rfl⟩
  simp only [Act.put, List.setIfInBounds_toArray, List.set_cons_zero, List.set_cons_succ]
  refine' wpT_det (o := ⟨some 10, Op.binOp BinOp.mul 2 (Operand.tmp 8) (Operand.tmp 9) 2, 2, "l05_sparse.go:42", #[{ on := 5, ground := Ground.data }, { on := 6, ground := Ground.data }], none⟩) rfl (by rfl) (by rfl) (fun w' hw' => ?_) ?_; rotate_left
  · go_simp <;> first | rfl | exact ⟨rfl, rfl⟩
  simp only [Act.put, List.setIfInBounds_toArray, List.set_cons_zero, List.set_cons_succ]
  refine wpT_nd (o := ⟨some 11, Op.makeSlice 23 (Operand.tmp 10) (Operand.tmp 10), 23, "l05_sparse.go:42", #[{ on := 7, ground := Ground.data }, { on := 7, ground := Ground.data }], none⟩) rfl (by rfl) (by rfl) (fun w' hw' hF R__ hGo => ?_) ⟨_, 0, rfl⟩ ?_
  · go_simp; exact gives_value rfl (hGo _ _ ((Ext.refl _).alloc _) ⟨_, rfl⟩ (OwnF.of ((Own.made _ _ (.float .f32 0) N rfl (by omega)).base hw'.size) rfl))
  rintro _ ⟨g2, rfl⟩
  simp only [Act.put, List.setIfInBounds_toArray, List.set_cons_zero, List.set_cons_succ]
  refine' wpT_det (o := ⟨some 12, Op.build 71 #[(0, Operand.tmp 3), (1, Operand.tmp 7), (2, Operand.tmp 11)], 71, "l05_sparse.go:42", #[{ on := 0, ground := Ground.data }, { on := 4, ground := Ground.data }, { on := 8, ground := Ground.data }], none⟩) rfl (by rfl) (by rfl) (fun w' hw' => ?_) ?_; rotate_left
  · go_simp <;> first | rfl | exact ⟨rfl, rfl⟩
  simp only [Act.put, List.setIfInBounds_toArray, List.set_cons_zero, List.set_cons_succ]
  refine wpT_nil (fun w' hw' hF => ?_)
  show wpList _ _ _ [(⟨none, Op.store 71 (Operand.tmp 2) (Operand.tmp 12), 0, "l05_sparse.go:42", #[{ on := 9, ground := Ground.data }, { on := 0, ground := Ground.phase }, { on := 1, ground := Ground.phase }, { on := 2, ground := Ground.phase }, { on := 3, ground := Ground.phase }, { on := 4, ground := Ground.phase }, { on := 5, ground := Ground.phase }, { on := 6, ground := Ground.phase }, { on := 7, ground := Ground.phase }, { on := 8, ground := Ground.phase }, { on := 9, ground := Ground.phase }], none⟩ : Oper)] _ _
  have o1 := (hF 4 _ rfl) _ _ _ rfl
  have o2 := (hF 8 _ rfl) _ _ _ rfl
  have hx := hw'.undrew
  clear hF hw' hmb hmk
  replace o1 := o1.base hx0.size
  replace o2 := o2.base hx0.size
  replace b0 := b0.ext hx
  replace hx0 := hx0.trans hx
  clear hx
  have z0 := b0.cell 0 rfl
  have z1 := b0.cell 1 rfl
  have z2 := b0.cell 2 rfl
  have f0 := b0.free 0
  have f1 := b0.free 1
  have f2 := b0.free 2
  have hq := b0.lt
  go_wp2_with fail
  have c0 := b0.set 0 (.int .i64 n)
  have c1 := c0.set 1 (.slice (some ⟨g1, 0, none⟩) N N)
  have c2 := c1.set 2 (.slice (some ⟨g2, 0, none⟩) N N)
  have p1 := ((o1.setBlk b0 (by decide) 0 (.int .i64 n)).setBlk c0 (by decide) 1 (.slice (some ⟨g1, 0, none⟩) N N)).setBlk c1 (by decide) 2 (.slice (some ⟨g2, 0, none⟩) N N)
  have p2 := ((o2.setBlk b0 (by decide) 0 (.int .i64 n)).setBlk c0 (by decide) 1 (.slice (some ⟨g1, 0, none⟩) N N)).setBlk c1 (by decide) 2 (.slice (some ⟨g2, 0, none⟩) N N)
  have x2 := ((hx0.set (p := ⟨w.heap.size, 0, none⟩) (Nat.le_refl _) (.int .i64 n)).set (p := ⟨w.heap.size, 1, none⟩) (Nat.le_refl _) (.slice (some ⟨g1, 0, none⟩) N N)).set (p := ⟨w.heap.size, 2, none⟩) (Nat.le_refl _) (.slice (some ⟨g2, 0, none⟩) N N)
  have r0 := c2.cell 0 rfl
  have r1 := c2.cell 1 rfl
  have r2 := c2.cell 2 rfl
  refine bodyPost_ret (v := .agg #[.int .i64 n, .slice (some ⟨g1, 0, none⟩) N N, .slice (some ⟨g2, 0, none⟩) N N]) (by simp only [results, Try.results73]; simp [go_sem, r0, r1, r2]) rfl ⟨_, _, _, _, List.replicate N 0, rfl, by simp [cfs, c32_0], p1, by rw [flts_replicate]; exact p2, x2⟩

end Go.Proofs.Ytkifpligpobiaaa
