
/- A product is added to a number of a map. -/

import Derived.Test.YtkifpligpobiaaaK8

import Derived.Test.YtkifpligpobiaaaK7

import Derived.Test.YtkifpligpobiaaaK6

import Derived.Test.YtkifpligpobiaaaM3
set_option linter.unusedVariables false
set_option linter.unusedSimpArgs false

namespace Go.Proofs.Ytkifpligpobiaaa

open Go.RowKit


/-- A number is added at a place. -/
def accM (M : Sqr) (i j : Nat) (v : Option Nat) : Sqr := updM M i j (some (fadd ((M i j).getD (some 0)) v))
theorem gb_ext {w w' w'' : World} {row : Option Nat} (h : w.grownBy w' row) (hx : Ext w' w'') : w.grownBy w'' row :=
  ⟨hx.os.trans h.os, hx.tape.trans h.tape, hx.output.trans h.output, Nat.le_trans h.size hx.size, fun i hi hn => (hx.block i (Nat.lt_of_lt_of_le hi h.size)).trans (h.block i hi hn)⟩
theorem gb_trans {w w' w'' : World} {row : Option Nat} (h : w.grownBy w' row) (k : w'.grownBy w'' row) : w.grownBy w'' row :=
  ⟨k.os.trans h.os, k.tape.trans h.tape, k.output.trans h.output, Nat.le_trans h.size k.size, fun i hi hn => (k.block i (Nat.lt_of_lt_of_le hi h.size) hn).trans (h.block i hi hn)⟩
theorem gb_refl (w : World) (row : Option Nat) : w.grownBy w row := (Ext.refl w).grown row
theorem blk_ne {w : World} {b b' : Nat} {cs : Array Value} {T : TypeId} (h : Blk w b' cs T) (hb : ∃ n cnt M, MapV w b cnt n M) : b' ≠ b := by
  obtain ⟨n, cnt, M, hm⟩ := hb
  exact hm.notCells h

set_option maxRecDepth 20000 in
set_option maxHeartbeats 8000000 in
theorem mul11_any (N : Nat) (hn : N ≤ 32) (wb w : World) (hxb : Ext wb w) (b : Nat) (hbb : wb.heap.size ≤ b) (i j x y pm pi px : Nat) (M : Sqr) (hi : i < N) (hj : j < N) (hm : MapV w b (N * N) N M)
    (cm : Blk w pm #[.map (some b)] 92) (ci : Blk w pi #[.int .i64 i] 2) (cx : Blk w px #[.float .f32 x] 43) :
    Calls Try.prog 120 #[.int .i64 j, .float .f32 y, .pointer (some ⟨pm, 0, none⟩), .pointer (some ⟨pi, 0, none⟩), .pointer (some ⟨px, 0, none⟩)] w fun e w' => e = .returned (.tuple #[]) ∧ MapV w' b (N * N) N (accM M i j (fmul (c32 x) (c32 y))) ∧ w.grownBy w' (some b) := by
  have n1 := hm.notCells cm
  have n2 := hm.notCells ci
  have n3 := hm.notCells cx
  unfold accM
  obtain ⟨d0, hd0⟩ : ∃ d0, d0 = (M i j).getD (some 0) := ⟨_, rfl⟩
  have HD0 := Lib.hid hd0
  rw [← hd0]
  clear hd0
  go_enter Try.func120, Try.ntmps120
  go_upto_region 1 with (fail)
  refine wp_region_TW (cs := [(9, [21])]) [0, 1, 2, 3, 4, 5, 6, 7, 8, 9, 10] [11] [0, 1, 4, 5, 7, 8, 9] [(0, [22]), (1, [22]), (5, [22]), (4, [20]), (9, [21])] (fun i__ v => match i__ with | 0 => v = (.map (some b)) | 1 => v = (.int .i64 i) | 4 => ∃ r, v = .float .f32 r ∧ c32 r = d0 | 5 => v = (.float .f32 x) | 7 => ∃ r, v = .float .f32 r ∧ c32 r = (fmul (c32 x) (c32 y)) | 8 => ∃ r, v = .float .f32 r ∧ c32 r = (fadd d0 (fmul (c32 x) (c32 y))) | 9 => ∃ v0 st, v = .tuple #[v0, goInt st] | _ => False) (fun i__ v w' => match i__ with | 9 => ∀ v0 st, v = .tuple #[v0, goInt st] → b < w'.heap.size ∧ ∀ w2 r, w2.heap[b]? = w'.heap[b]? → ∃ w3, (Instr.entryStore 92 (.map (some b)) (goInt st) (.float .f32 r)).run Try.prog w2 = .ok () w3 ∧ w2.grownBy w3 (some b) ∧ MapV w3 b (N * N) N (updM M i j (some (c32 r))) | 20 => ∃ Mx cnt, MapV w' b cnt N Mx ∧ (Mx i j).getD (some 0) = d0 | 21 => MapV w' b (N * N) N M | 22 => Blk w' pm #[.map (some b)] 92 ∧ Blk w' pi #[.int .i64 i] 2 ∧ Blk w' px #[.float .f32 x] 43 | 23 => w.grownBy w' (some b) | _ => True) wb (Ext.drew hxb) (phi [20, 21, 22, 23]) (phi_all (τ := (fun i__ v w' => match i__ with | 9 => ∀ v0 st, v = .tuple #[v0, goInt st] → b < w'.heap.size ∧ ∀ w2 r, w2.heap[b]? = w'.heap[b]? → ∃ w3, (Instr.entryStore 92 (.map (some b)) (goInt st) (.float .f32 r)).run Try.prog w2 = .ok () w3 ∧ w2.grownBy w3 (some b) ∧ MapV w3 b (N * N) N (updM M i j (some (c32 r))) | 20 => ∃ Mx cnt, MapV w' b cnt N Mx ∧ (Mx i j).getD (some 0) = d0 | 21 => MapV w' b (N * N) N M | 22 => Blk w' pm #[.map (some b)] 92 ∧ Blk w' pi #[.int .i64 i] 2 ∧ Blk w' px #[.float .f32 x] 43 | 23 => w.grownBy w' (some b) | _ => True)) (allOf_cons (⟨M, _, hm.ext (Ext.drew (Ext.refl _)), HD0.out.symm⟩) (allOf_cons (hm.ext (Ext.drew (Ext.refl _))) (allOf_cons (⟨cm.ext (Ext.drew (Ext.refl _)), ci.ext (Ext.drew (Ext.refl _)), cx.ext (Ext.drew (Ext.refl _))⟩) (allOf_cons ((Ext.drew (Ext.refl _)).grown _) allOf_nil))))) (by kernel_rfl) (by kernel_rfl) (by intro i v w' w2 h hx; revert h; (try dsimp only); split <;> intro h <;> first | trivial | exact (by first | exact (let ⟨Mx, c, k1, k2⟩ := h; ⟨Mx, c, k1.ext hx, k2⟩) | exact MapV.ext h hx | exact ⟨h.1.ext hx, h.2.1.ext hx, h.2.2.ext hx⟩ | exact gb_ext h hx | exact (fun v0 st e => ⟨Nat.lt_of_lt_of_le (h v0 st e).1 hx.size, fun w2 r hw2 => (h v0 st e).2 w2 r (hw2.trans (hx.block b (h v0 st e).1))⟩))) ?_
  refine wpT_nd (o := ⟨some 7, Op.load 92 (Operand.tmp 2), 92, "l05_sparse.go:174", #[], none⟩) rfl (by rfl) (by rfl) (fun w' hw' hF R__ hGo => ?_) ⟨_, rfl⟩ ?_
  · have z_ := (hF 22 (by simp [uses]) undef rfl).1.cell 0 rfl; go_simp; exact gives_value rfl (hGo _ _ (Ext.refl _) rfl trivial)
  intro v hv
  obtain rfl : v = (.map (some b)) := hv
  simp only [Act.put, List.setIfInBounds_toArray, List.set_cons_zero, List.set_cons_succ]
  refine wpT_nd (o := ⟨some 8, Op.load 2 (Operand.tmp 3), 2, "l05_sparse.go:174", #[], none⟩) rfl (by rfl) (by rfl) (fun w' hw' hF R__ hGo => ?_) ⟨_, rfl⟩ ?_
  · have z_ := (hF 22 (by simp [uses]) undef rfl).2.1.cell 0 rfl; go_simp; exact gives_value rfl (hGo _ _ (Ext.refl _) rfl trivial)
  intro v hv
  obtain rfl : v = (.int .i64 i) := hv
  simp only [Act.put, List.setIfInBounds_toArray, List.set_cons_zero, List.set_cons_succ]
  refine' wpT_det (o := ⟨some 9, Op.move (Operand.tmp 0), 2, "l05_sparse.go:174", #[], none⟩) rfl (by rfl) (by rfl) (fun w' hw' => ?_) ?_; rotate_left
  · go_simp <;> first | rfl | exact ⟨rfl, rfl⟩
  simp only [Act.put, List.setIfInBounds_toArray, List.set_cons_zero, List.set_cons_succ]
  refine' wpT_det (o := ⟨some 10, Op.build 95 #[(0, Operand.tmp 8), (1, Operand.tmp 9)], 95, "l05_sparse.go:174", #[{ on := 1, ground := Ground.data }, { on := 2, ground := Ground.data }], none⟩) rfl (by rfl) (by rfl) (fun w' hw' => ?_) ?_; rotate_left
  · go_simp <;> first | rfl | exact ⟨rfl, rfl⟩
  simp only [Act.put, List.setIfInBounds_toArray, List.set_cons_zero, List.set_cons_succ]
  refine wpT_nd (o := ⟨some 11, Op.lookup 92 (Operand.tmp 7) (Operand.tmp 10) false, 43, "l05_sparse.go:174", #[{ on := 0, ground := Ground.data }, { on := 3, ground := Ground.data }], none⟩) rfl (by rfl) (by rfl) (fun w' hw' hF R__ hGo => ?_) (by obtain ⟨r, hr, hc⟩ := hm.look1 hn hi hj; exact ⟨_, r, rfl, hc.trans HD0.out.symm⟩) ?_
  · obtain ⟨Mx, cn, k1, k2⟩ : ∃ Mx cnt, MapV w' b cnt N Mx ∧ (Mx i j).getD (some 0) = d0 := hF 20 (by simp [uses]) undef rfl; obtain ⟨r, hr, hc⟩ := k1.look1 hn hi hj; simp only [placeV] at hr; go_simp; exact gives_value rfl (hGo _ _ (Ext.refl _) ⟨_, rfl, hc.trans k2⟩ trivial)
  rintro _ ⟨f4, rfl, hf4⟩
  simp only [Act.put, List.setIfInBounds_toArray, List.set_cons_zero, List.set_cons_succ]
  refine wpT_nd (o := ⟨some 12, Op.load 43 (Operand.tmp 4), 43, "l05_sparse.go:174", #[], none⟩) rfl (by rfl) (by rfl) (fun w' hw' hF R__ hGo => ?_) ⟨_, rfl⟩ ?_
  · have z_ := (hF 22 (by simp [uses]) undef rfl).2.2.cell 0 rfl; go_simp; exact gives_value rfl (hGo _ _ (Ext.refl _) rfl trivial)
  intro v hv
  obtain rfl : v = (.float .f32 x) := hv
  simp only [Act.put, List.setIfInBounds_toArray, List.set_cons_zero, List.set_cons_succ]
  refine' wpT_det (o := ⟨some 13, Op.move (Operand.tmp 1), 43, "l05_sparse.go:174", #[], none⟩) rfl (by rfl) (by rfl) (fun w' hw' => ?_) ?_; rotate_left
  · go_simp <;> first | rfl | exact ⟨rfl, rfl⟩
  simp only [Act.put, List.setIfInBounds_toArray, List.set_cons_zero, List.set_cons_succ]
  refine wpT_nd (o := ⟨some 14, Op.call { callee := Callee.value (Operand.func 121), args := #[Operand.tmp 12, Operand.tmp 13], argTypes := #[43, 43] }, 43, "l05_sparse.go:174", #[{ on := 5, ground := Ground.data }, { on := 6, ground := Ground.data }], none⟩) rfl (by rfl) (by rfl) (fun w' hw' hF R__ hGo => ?_) (by obtain ⟨r, hr⟩ : ∃ r, c32 r = (fmul (c32 x) (c32 y)) := ex_fop _ _ _; exact ⟨_, r, rfl, hr⟩) ?_
  · go_simp
    refine gives_enter rfl ?_
    refine (mul_any x y _).mono ?_
    rintro e w2 ⟨r, rfl, hr, hx⟩
    exact ⟨_, rfl, hGo _ _ hx ⟨r, rfl, hr⟩ trivial⟩
  rintro _ ⟨f7, rfl, hf7⟩
  simp only [Act.put, List.setIfInBounds_toArray, List.set_cons_zero, List.set_cons_succ]
  refine wpT_nd (o := ⟨some 15, Op.binOp BinOp.add 43 (Operand.tmp 11) (Operand.tmp 14) 43, 43, "l05_sparse.go:174", #[{ on := 4, ground := Ground.data }, { on := 7, ground := Ground.data }], none⟩) rfl (by rfl) (by rfl) (fun w' hw' hF R__ hGo => ?_) (by obtain ⟨r, hr⟩ := ex_d .add ((by rw [hf4, hf7]) : fop .add .f32 (c32 (f4)) (c32 (f7)) = (fadd d0 (fmul (c32 x) (c32 y)))); exact ⟨_, r, rfl, hr⟩) ?_
  · exact gives_f .add (.inl rfl) _ _ _ _ rfl (f4) (f7) rfl rfl (fadd d0 (fmul (c32 x) (c32 y))) (by rw [hf4, hf7]) (fun r w2 hx hc => hGo _ _ hx ⟨r, rfl, hc⟩ trivial)
  rintro _ ⟨f8, rfl, hf8⟩
  simp only [Act.put, List.setIfInBounds_toArray, List.set_cons_zero, List.set_cons_succ]
  refine wpT_mv (o := ⟨some 16, Op.mapEntry 92 (Operand.tmp 7) (Operand.tmp 10), 0, "l05_sparse.go:174", #[{ on := 0, ground := Ground.data }, { on := 3, ground := Ground.data }, { on := 7, ground := Ground.chain }, { on := 0, ground := Ground.phase }, { on := 1, ground := Ground.phase }, { on := 2, ground := Ground.phase }, { on := 3, ground := Ground.phase }, { on := 4, ground := Ground.textOnly Departure.mapOpAssignEntry }, { on := 5, ground := Ground.phase }, { on := 6, ground := Ground.phase }, { on := 7, ground := Ground.phase }, { on := 8, ground := Ground.textOnly Departure.mapOpAssignEntry }], none⟩) rfl (by rfl) (by rfl) (fun w' hw' hF R__ hGo => ?_) ⟨_, undef, 0, rfl⟩ ?_
  · have k1 : MapV w' b (N * N) N M := hF 21 (by simp [uses]) undef rfl; obtain ⟨v0, st, w9, hr, hg, hsz, ⟨Mx, hMx, hMd⟩, hst⟩ := k1.entry hn hi hj; simp only [placeV] at hr; have lb := k1.lt; go_simp; exact gives_value rfl (hGo _ _ (MapV.ge hg hw' hbb) (fun kk u hk hk2 h => by (revert hk hk2 h; (try dsimp only); split <;> intro hk hk2 h <;> first | trivial | (exfalso; apply hk; simp [uses]; done) | (exfalso; exact hk2 rfl) | exact ⟨Mx, _, hMx, hMd.trans HD0.out.symm⟩ | exact ⟨h.1.grown hg n1, h.2.1.grown hg n2, h.2.2.grown hg n3⟩ | exact gb_trans h hg)) ⟨_, _, rfl⟩ (fun v1 s1 e1 => by (simp only [Value.tuple.injEq] at e1; have e2 := congrArg (fun a : Array Value => a[1]?) e1; simp only [List.getElem?_toArray, List.getElem?_cons_succ, List.getElem?_cons_zero, Option.some.injEq] at e2; rw [← e2]; exact ⟨by omega, hst⟩)))
  rintro _ ⟨v0, st, rfl⟩
  simp only [Act.put, List.setIfInBounds_toArray, List.set_cons_zero, List.set_cons_succ]
  refine' wpT_det (o := ⟨some 17, Op.extract (Operand.tmp 16) 1, 3, "l05_sparse.go:174", #[{ on := 9, ground := Ground.data }], none⟩) rfl (by rfl) (by rfl) (fun w' hw' => ?_) ?_; rotate_left
  · go_simp <;> first | rfl | exact ⟨rfl, rfl⟩
  simp only [Act.put, List.setIfInBounds_toArray, List.set_cons_zero, List.set_cons_succ]
  refine wpT_nil (fun w5 hw' hF => ?_)
  show wpList _ _ _ [(⟨none, Op.entryStore 92 (Operand.tmp 7) (Operand.tmp 17) (Operand.tmp 15), 0, "l05_sparse.go:174", #[{ on := 0, ground := Ground.data }, { on := 10, ground := Ground.data }, { on := 8, ground := Ground.data }, { on := 9, ground := Ground.chain }, { on := 0, ground := Ground.phase }, { on := 1, ground := Ground.phase }, { on := 2, ground := Ground.phase }, { on := 3, ground := Ground.phase }, { on := 4, ground := Ground.phase }, { on := 5, ground := Ground.phase }, { on := 6, ground := Ground.phase }, { on := 7, ground := Ground.phase }, { on := 8, ground := Ground.phase }, { on := 9, ground := Ground.phase }, { on := 10, ground := Ground.phase }], none⟩ : Oper)] _ _
  have h9 := (hF 9 _ rfl v0 st rfl).2 w5 f8 rfl
  have hg5 : w.grownBy w5 (some b) := hF 23 undef rfl
  obtain ⟨w6, hr6, hg6, hm6⟩ := h9
  clear hF hw'
  have hr7 := hr6
  simp only [goInt] at hr7
  go_wp2_with fail
  refine bodyPost_end (v := .tuple #[]) (by simp only [results, Try.results120]; simp [go_sem]) rfl ⟨rfl, ?_, gb_trans hg5 hg6⟩
  rw [hf8] at hm6
  exact hm6

end Go.Proofs.Ytkifpligpobiaaa
