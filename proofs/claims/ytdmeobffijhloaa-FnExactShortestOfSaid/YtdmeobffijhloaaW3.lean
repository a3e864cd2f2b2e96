
/- slices.Repeat of a list of one number, up to four times. -/

import Derived.Test.YtdmeobffijhloaaW2

import Derived.Test.YtdmeobffijhloaaE1

import Derived.Laws.CopyRow
set_option linter.unusedVariables false
set_option linter.unusedSimpArgs false

namespace Go.Proofs.Ytdmeobffijhloaa

open Go.RowKit


theorem own_full {w : World} {base gb r : Nat} {e : TypeId} {vs : List Value} (h : Own w base e (.slice (some ⟨gb, 0, none⟩) r r) vs) : w.heap[gb]? = some (.cells vs.toArray e (0, 0)) ∧ base ≤ gb := by
  have hl := h.len
  rcases h.row.2 with ⟨h1, h0⟩ | ⟨g, cap, cur, h1, hb, hg, _, _, hsz, ht⟩
  · simp at h1
  · simp only [Value.slice.injEq, Option.some.injEq, Addr.mk.injEq, and_true] at h1
    obtain ⟨rfl, _, rfl⟩ := h1
    refine ⟨?_, hb⟩
    rw [hg]
    have : cur.toList = vs := by
      rw [← ht, List.take_of_length_le]
      have : cur.toList.length = cur.size := by simp
      omega
    rw [← this]
theorem own_of_row {w : World} {base gb r : Nat} {e : TypeId} {vs : List Value} (hl : vs.length = r) (hr : r ≤ 1048576) (hb : base ≤ gb) (h : w.heap[gb]? = some (.cells vs.toArray e (0, 0))) : Own w base e (.slice (some ⟨gb, 0, none⟩) r r) vs := by
  subst hl
  exact ⟨⟨by simp, .inr ⟨gb, vs.length, vs.toArray, rfl, hb, h, Nat.le_refl _, by unfold maxLen; omega, by simp, by simp⟩⟩, hr⟩
/-- The first n are z, the others nought. -/
def repL (z : Int) (r n : Nat) : List Int := List.replicate n z ++ List.replicate (r - n) 0
theorem repL_length {z : Int} {r n : Nat} (h : n ≤ r) : (repL z r n).length = r := by simp [repL]; omega
theorem repL_get {z : Int} {r n j : Nat} (h : n ≤ r) (hj : j < r) : (repL z r n)[j]? = some (if j < n then z else 0) := by
  unfold repL
  rw [List.getElem?_append]
  simp only [List.length_replicate]
  by_cases e : j < n
  · rw [if_pos e, if_pos e, List.getElem?_replicate, if_pos e]
  · rw [if_neg e, if_neg e, List.getElem?_replicate, if_pos (by omega)]
/-- A copy into the row. -/
theorem copy_rep {w : World} {base gb r n m d s c : Nat} {z : Int} {ad : Addr} (ty : TypeId) (hr : r ≤ 1048576) (hd : n + d = r) (hm : m = Nat.min s d) (ho : Own w base 2 (.slice (some ⟨gb, 0, none⟩) r r) (ints (repL z r n)))
    (hsrc : ∀ j, j < m → w.cell? (ad.add j) = some (.int .i64 z)) :
    ∃ w', (Builtin.copy_ #[22, 22] ty #[.slice (some ⟨gb, n, none⟩) d d, .slice (some ad) s c]).run Try.prog w = .ok (.int .i64 (m : Nat)) w' ∧ Own w' base 2 (.slice (some ⟨gb, 0, none⟩) r r) (ints (repL z r (n + m))) ∧ Wr w w' (.slice (some ⟨gb, 0, none⟩) r r) := by
  obtain ⟨hg, hb⟩ := own_full ho
  have hmd : m ≤ d := by rw [hm]; exact Nat.min_le_right _ _
  have hlen : (ints (repL z r n)).length = r := by rw [ints_length, repL_length (by omega)]
  have hrun := run_copy_row (P := Try.prog) w 22 22 ty 2 gb n d d ad s c (ints (repL z r n)).toArray 2 (List.replicate m (.int .i64 z)) Try.underlying22 (by kernel_rfl) hg (by simp [hm]) (by
    intro j v hj
    have hj' : j < m := by
      have := (List.getElem?_eq_some_iff.1 hj).1
      simpa using this
    rw [List.getElem?_replicate, if_pos hj'] at hj
    cases hj
    exact hsrc j hj') (by simp [hlen]; omega) (by intro v hv; rw [List.eq_of_mem_replicate hv]; rfl)
  have e : (ints (repL z r n)).toArray.toList.take n ++ List.replicate m (Value.int .i64 z) ++ (ints (repL z r n)).toArray.toList.drop (n + (List.replicate m (Value.int .i64 z)).length) = ints (repL z r (n + m)) := by
    apply List.ext_getElem?
    intro i
    simp only [List.length_replicate]
    rw [List.append_assoc, List.getElem?_append, List.getElem?_append]
    simp only [List.length_take, List.length_replicate, List.getElem?_take, List.getElem?_drop, List.getElem?_replicate]
    rw [hlen, Nat.min_eq_left (by omega)]
    by_cases hi : i < r
    · have hR : (ints (repL z r (n + m)))[i]? = some (.int .i64 (if i < n + m then z else 0)) := by unfold ints; rw [List.getElem?_map, repL_get (by omega) hi]; rfl
      have hL : ∀ j, j < r → (ints (repL z r n))[j]? = some (.int .i64 (if j < n then z else 0)) := fun j hj => by unfold ints; rw [List.getElem?_map, repL_get (by omega) hj]; rfl
      rw [hR]
      by_cases h1 : i < n
      · rw [if_pos h1, if_pos h1, if_pos (by omega), hL i hi, if_pos h1]
      · rw [if_neg h1]
        by_cases h2 : i - n < m
        · rw [if_pos h2, if_pos h2, if_pos (by omega)]
        · rw [if_neg h2, hL _ (by omega), if_neg (by omega), if_neg (by omega)]
    · rw [if_neg (by omega), if_neg (by omega), List.getElem?_eq_none (by omega), List.getElem?_eq_none (by rw [ints_length, repL_length (by omega)]; omega)]
  rw [e] at hrun
  refine ⟨_, by rw [hrun]; simp [goInt], own_of_row (by rw [ints_length, repL_length (by omega)]) hr hb (setRow_heap w gb _ _ 2 _ hg), ⟨rfl, rfl, rfl, by simp [World.setRow], fun k hk hne => setRow_other w gb k _ (fun e => hne (by rw [e]; rfl))⟩⟩

theorem allOf_nil {τ : Nat → Value → World → Prop} {w : World} : allOf τ w [] := trivial
theorem allOf_cons {τ : Nat → Value → World → Prop} {w : World} {k : Nat} {l : List Nat} (h : τ k undef w) (h' : allOf τ w l) : allOf τ w (k :: l) := ⟨h, h'⟩
theorem rep_src {w : World} {base gb r n m : Nat} {z : Int} (ho : Own w base 2 (.slice (some ⟨gb, 0, none⟩) r r) (ints (repL z r n))) (hm : m ≤ n ∧ n ≤ r) : ∀ j, j < m → w.cell? ((⟨gb, 0, none⟩ : Addr).add j) = some (.int .i64 z) := by
  intro j hj
  have h := (ho.at_ j (by omega)).1
  have hR : (ints (repL z r n))[j]? = some (.int .i64 z) := by unfold ints; rw [List.getElem?_map, repL_get (by omega) (by omega), if_pos (by omega)]; rfl
  rw [hR] at h
  cases j with
  | zero => exact h
  | succ j => rw [Addr.add_succ']; simpa using h

set_option maxRecDepth 20000 in
set_option maxHeartbeats 4000000 in
theorem repeat_any (r : Nat) (hr1 : 1 ≤ r) (hr4 : r ≤ 4) (z : Int) (g : Nat) (w : World) (hg : Blk w g #[.int .i64 z] 2) :
    Calls Try.prog 35 #[.slice (some ⟨g, 0, none⟩) 1 1, .int .i64 r] w fun e w' => e = .returned (.slice (some ⟨w.heap.size, 0, none⟩) r r) ∧ Own w' w.heap.size 2 (.slice (some ⟨w.heap.size, 0, none⟩) r r) (ints (List.replicate r z)) ∧ Ext w w' := by
  have cM : Calls Try.prog 41 #[.int .u64 1, .int .u64 r] w fun e w' => e = .returned (.tuple #[.int .u64 0, .int .u64 r]) ∧ w' = w := by
    have h := Any.bits_Mul mulA 1 r (by omega) (by omega) w
    rw [Nat.one_mul, Nat.div_eq_of_lt (by omega), Nat.mod_eq_of_lt (by omega)] at h
    exact h
  have hmk := run_make_row' (P := Try.prog) 22 2 (.int .i64 0) 8 Try.underlying22 info_i64 rfl .i64 .i64 r (by omega) (by omega)
  have hx0 : Ext w (w.alloc (.cells (madeCells #[.int .i64 0] r) 2)) := (Ext.refl _).alloc _
  have hown0 := Own.made w 2 (.int .i64 0) r rfl (by omega)
  rw [← ints_replicate, show List.replicate r (0 : Int) = repL z r 0 from by simp [repL]] at hown0
  obtain ⟨w1, hrun, ho, hw1⟩ := copy_rep (ad := ⟨g, 0, none⟩) (m := 1) (s := 1) (c := 1) (d := r) 3 (by omega) (by omega) (by simp [Nat.min_def]; omega) hown0 (by
    intro j hj
    obtain rfl : j = 0 := by omega
    exact (hg.ext hx0).cell 0 rfl)
  have hx1 := hw1.ext hx0 hown0
  go_enter Try.func35, Try.ntmps35
  clear hown0 hx0 hw1
  go_wp2_with (go_at_call 41; refine cM.mono ?_; rintro e wb ⟨rfl, rfl⟩)
  obtain ⟨gb, hgb⟩ : ∃ gb, gb = wb.heap.size := ⟨_, rfl⟩
  have hst : Own w1 wb.heap.size 2 (.slice (some ⟨gb, 0, none⟩) r r) (ints (repL z r 1)) := by rw [hgb]; simpa using ho
  have HGB := Lib.hid hgb
  rw [← hgb]
  clear hgb ho hmk hrun cM
  go_loopw [8] (fun u wr => ∃ n : Nat, 1 ≤ n ∧ n ≤ r ∧ u = .int .i64 n ∧ Own wr wb.heap.size 2 (.slice (some ⟨gb, 0, none⟩) r r) (ints (repL z r n)) ∧ Ext wb wr) (fun u _ => r - (intOf u).toNat)
  case atStart => exact ⟨1, Nat.le_refl _, hr1, rfl, hst, hx1⟩
  case round =>
    rename World => wA
    clear hst hx1
    obtain ⟨n, hn1, hnr, rfl, ho, hx⟩ := hrel
    by_cases hlt : n < r
    · have hcases : (r = 2 ∧ n = 1) ∨ (r = 3 ∧ n = 1) ∨ (r = 3 ∧ n = 2) ∨ (r = 4 ∧ n = 1) ∨ (r = 4 ∧ n = 2) ∨ (r = 4 ∧ n = 3) := by omega
      rcases hcases with ⟨rfl, rfl⟩ | ⟨rfl, rfl⟩ | ⟨rfl, rfl⟩ | ⟨rfl, rfl⟩ | ⟨rfl, rfl⟩ | ⟨rfl, rfl⟩
      · go_upto_region 9 with (fail)
        refine wp_region_TW (cs := [(7, [20])]) [0, 1, 2, 3, 4, 5, 6, 7, 8, 9] [] [7] [(7, [20])] (fun i__ v => match i__ with | 7 => v = (.int .i64 1) | _ => False) (fun i__ v w' => match i__ with | 7 => Own w' wb.heap.size 2 (.slice (some ⟨gb, 0, none⟩) 2 2) (ints (repL z 2 2)) | 20 => Own w' wb.heap.size 2 (.slice (some ⟨gb, 0, none⟩) 2 2) (ints (repL z 2 1)) | _ => True) wb (Ext.drew hx) (phi [20]) (phi_all (τ := (fun i__ v w' => match i__ with | 7 => Own w' wb.heap.size 2 (.slice (some ⟨gb, 0, none⟩) 2 2) (ints (repL z 2 2)) | 20 => Own w' wb.heap.size 2 (.slice (some ⟨gb, 0, none⟩) 2 2) (ints (repL z 2 1)) | _ => True)) (allOf_cons (ho.ext (Ext.drew (Ext.refl _))) allOf_nil)) (by kernel_rfl) (by kernel_rfl) (by intro i v w' w2 h hx; revert h; (try dsimp only); split <;> intro h <;> first | trivial | exact (by first | exact Own.ext h hx)) ?_
        refine' wpT_det (o := ⟨some 38, Op.move (Operand.tmp 8), 3, "slices.go:528", #[], none⟩) rfl (by rfl) (by rfl) (fun w' hw' => ?_) ?_; rotate_left
        · go_simp <;> first | rfl | exact ⟨rfl, rfl⟩
        simp only [Act.put, List.setIfInBounds_toArray, List.set_cons_zero, List.set_cons_succ]
        refine' wpT_det (o := ⟨some 39, Op.move (Operand.tmp 7), 22, "slices.go:528", #[], none⟩) rfl (by rfl) (by rfl) (fun w' hw' => ?_) ?_; rotate_left
        · go_simp <;> first | rfl | exact ⟨rfl, rfl⟩
        simp only [Act.put, List.setIfInBounds_toArray, List.set_cons_zero, List.set_cons_succ]
        refine' wpT_det (o := ⟨some 40, Op.move (Operand.tmp 8), 3, "slices.go:528", #[], none⟩) rfl (by rfl) (by rfl) (fun w' hw' => ?_) ?_; rotate_left
        · go_simp <;> first | rfl | exact ⟨rfl, rfl⟩
        simp only [Act.put, List.setIfInBounds_toArray, List.set_cons_zero, List.set_cons_succ]
        refine' wpT_det (o := ⟨some 41, Op.slice 22 (Operand.tmp 39) (some (Operand.tmp 40)) none none, 22, "slices.go:528", #[{ on := 1, ground := Ground.data }, { on := 2, ground := Ground.data }], none⟩) rfl (by rfl) (by rfl) (fun w' hw' => ?_) ?_; rotate_left
        · go_simp <;> first | rfl | exact ⟨rfl, rfl⟩
        simp only [Act.put, List.setIfInBounds_toArray, List.set_cons_zero, List.set_cons_succ]
        refine' wpT_det (o := ⟨some 42, Op.move (Operand.tmp 7), 22, "slices.go:528", #[], none⟩) rfl (by rfl) (by rfl) (fun w' hw' => ?_) ?_; rotate_left
        · go_simp <;> first | rfl | exact ⟨rfl, rfl⟩
        simp only [Act.put, List.setIfInBounds_toArray, List.set_cons_zero, List.set_cons_succ]
        refine' wpT_det (o := ⟨some 43, Op.move (Operand.tmp 8), 3, "slices.go:528", #[], none⟩) rfl (by rfl) (by rfl) (fun w' hw' => ?_) ?_; rotate_left
        · go_simp <;> first | rfl | exact ⟨rfl, rfl⟩
        simp only [Act.put, List.setIfInBounds_toArray, List.set_cons_zero, List.set_cons_succ]
        refine' wpT_det (o := ⟨some 44, Op.slice 22 (Operand.tmp 42) none (some (Operand.tmp 43)) none, 22, "slices.go:528", #[{ on := 4, ground := Ground.data }, { on := 5, ground := Ground.data }], none⟩) rfl (by rfl) (by rfl) (fun w' hw' => ?_) ?_; rotate_left
        · go_simp <;> first | rfl | exact ⟨rfl, rfl⟩
        simp only [Act.put, List.setIfInBounds_toArray, List.set_cons_zero, List.set_cons_succ]
        refine wpT_mv (o := ⟨some 45, Op.call { callee := Callee.builtin Builtin.copy, args := #[Operand.tmp 41, Operand.tmp 44], argTypes := #[22, 22] }, 3, "slices.go:528", #[{ on := 3, ground := Ground.data }, { on := 6, ground := Ground.data }], none⟩) rfl (by rfl) (by rfl) (fun w' hw' hF R__ hGo => ?_) ⟨_, rfl⟩ ?_
        · have oB : Own w' wb.heap.size 2 (.slice (some ⟨gb, 0, none⟩) 2 2) (ints (repL z 2 1)) := hF 20 (by simp [uses]) undef rfl; obtain ⟨w9, hrun, o2, hw9⟩ := copy_rep (r := 2) (n := 1) (m := 1) (d := 1) (s := 1) (c := 2) (ad := ⟨gb, 0, none⟩) 3 (by omega) (by omega) rfl oB (rep_src oB (by omega)); go_simp; exact gives_value rfl (hGo _ _ (hw9.ext hw' oB) (fun kk u hk hk2 h => by (revert hk hk2 h; (try dsimp only); split <;> intro hk hk2 h <;> first | trivial | (exfalso; apply hk; simp [uses]; done) | (exfalso; exact hk2 rfl))) rfl o2)
        intro v hv
        obtain rfl : v = (.int .i64 1) := hv
        simp only [Act.put, List.setIfInBounds_toArray, List.set_cons_zero, List.set_cons_succ]
        refine' wpT_det (o := ⟨some 46, Op.binOp BinOp.add 3 (Operand.tmp 38) (Operand.tmp 45) 3, 3, "slices.go:528", #[{ on := 0, ground := Ground.data }, { on := 7, ground := Ground.data }], none⟩) rfl (by rfl) (by rfl) (fun w' hw' => ?_) ?_; rotate_left
        · go_simp <;> first | rfl | exact ⟨rfl, rfl⟩
        simp only [Act.put, List.setIfInBounds_toArray, List.set_cons_zero, List.set_cons_succ]
        refine' wpT_det (o := ⟨some 8, Op.assign (Operand.tmp 46), 3, "slices.go:528", #[{ on := 8, ground := Ground.data }, { on := 7, ground := Ground.chain }, { on := 0, ground := Ground.phase }, { on := 1, ground := Ground.phase }, { on := 2, ground := Ground.phase }, { on := 3, ground := Ground.phase }, { on := 4, ground := Ground.phase }, { on := 5, ground := Ground.phase }, { on := 6, ground := Ground.phase }, { on := 7, ground := Ground.phase }, { on := 8, ground := Ground.phase }], none⟩) rfl (by rfl) (by rfl) (fun w' hw' => ?_) ?_; rotate_left
        · go_simp <;> first | rfl | exact ⟨rfl, rfl⟩
        simp only [Act.put, List.setIfInBounds_toArray, List.set_cons_zero, List.set_cons_succ]
        refine wpT_nil (fun w5 hw' hF => ?_)
        refine wpList_nil ?_
        have o5 : Own w5 wb.heap.size 2 (.slice (some ⟨gb, 0, none⟩) 2 2) (ints (repL z 2 2)) := hF 7 _ rfl
        have hx5 : Ext wb w5 := hw'
        clear hF hw' ho hx
        go_wp2_with fail
        go_roundw
        case rel => exact ⟨2, by omega, by omega, by go_num, o5, hx5⟩
        case measure => simp [intOf, show IntKind.i64.wrap 2 = 2 from IntWalk.i64_in _ (by omega)]
      · go_upto_region 9 with (fail)
        refine wp_region_TW (cs := [(7, [20])]) [0, 1, 2, 3, 4, 5, 6, 7, 8, 9] [] [7] [(7, [20])] (fun i__ v => match i__ with | 7 => v = (.int .i64 1) | _ => False) (fun i__ v w' => match i__ with | 7 => Own w' wb.heap.size 2 (.slice (some ⟨gb, 0, none⟩) 3 3) (ints (repL z 3 2)) | 20 => Own w' wb.heap.size 2 (.slice (some ⟨gb, 0, none⟩) 3 3) (ints (repL z 3 1)) | _ => True) wb (Ext.drew hx) (phi [20]) (phi_all (τ := (fun i__ v w' => match i__ with | 7 => Own w' wb.heap.size 2 (.slice (some ⟨gb, 0, none⟩) 3 3) (ints (repL z 3 2)) | 20 => Own w' wb.heap.size 2 (.slice (some ⟨gb, 0, none⟩) 3 3) (ints (repL z 3 1)) | _ => True)) (allOf_cons (ho.ext (Ext.drew (Ext.refl _))) allOf_nil)) (by kernel_rfl) (by kernel_rfl) (by intro i v w' w2 h hx; revert h; (try dsimp only); split <;> intro h <;> first | trivial | exact (by first | exact Own.ext h hx)) ?_
        refine' wpT_det (o := ⟨some 38, Op.move (Operand.tmp 8), 3, "slices.go:528", #[], none⟩) rfl (by rfl) (by rfl) (fun w' hw' => ?_) ?_; rotate_left
        · go_simp <;> first | rfl | exact ⟨rfl, rfl⟩
        simp only [Act.put, List.setIfInBounds_toArray, List.set_cons_zero, List.set_cons_succ]
        refine' wpT_det (o := ⟨some 39, Op.move (Operand.tmp 7), 22, "slices.go:528", #[], none⟩) rfl (by rfl) (by rfl) (fun w' hw' => ?_) ?_; rotate_left
        · go_simp <;> first | rfl | exact ⟨rfl, rfl⟩
        simp only [Act.put, List.setIfInBounds_toArray, List.set_cons_zero, List.set_cons_succ]
        refine' wpT_det (o := ⟨some 40, Op.move (Operand.tmp 8), 3, "slices.go:528", #[], none⟩) rfl (by rfl) (by rfl) (fun w' hw' => ?_) ?_; rotate_left
        · go_simp <;> first | rfl | exact ⟨rfl, rfl⟩
        simp only [Act.put, List.setIfInBounds_toArray, List.set_cons_zero, List.set_cons_succ]
        refine' wpT_det (o := ⟨some 41, Op.slice 22 (Operand.tmp 39) (some (Operand.tmp 40)) none none, 22, "slices.go:528", #[{ on := 1, ground := Ground.data }, { on := 2, ground := Ground.data }], none⟩) rfl (by rfl) (by rfl) (fun w' hw' => ?_) ?_; rotate_left
        · go_simp <;> first | rfl | exact ⟨rfl, rfl⟩
        simp only [Act.put, List.setIfInBounds_toArray, List.set_cons_zero, List.set_cons_succ]
        refine' wpT_det (o := ⟨some 42, Op.move (Operand.tmp 7), 22, "slices.go:528", #[], none⟩) rfl (by rfl) (by rfl) (fun w' hw' => ?_) ?_; rotate_left
        · go_simp <;> first | rfl | exact ⟨rfl, rfl⟩
        simp only [Act.put, List.setIfInBounds_toArray, List.set_cons_zero, List.set_cons_succ]
        refine' wpT_det (o := ⟨some 43, Op.move (Operand.tmp 8), 3, "slices.go:528", #[], none⟩) rfl (by rfl) (by rfl) (fun w' hw' => ?_) ?_; rotate_left
        · go_simp <;> first | rfl | exact ⟨rfl, rfl⟩
        simp only [Act.put, List.setIfInBounds_toArray, List.set_cons_zero, List.set_cons_succ]
        refine' wpT_det (o := ⟨some 44, Op.slice 22 (Operand.tmp 42) none (some (Operand.tmp 43)) none, 22, "slices.go:528", #[{ on := 4, ground := Ground.data }, { on := 5, ground := Ground.data }], none⟩) rfl (by rfl) (by rfl) (fun w' hw' => ?_) ?_; rotate_left
        · go_simp <;> first | rfl | exact ⟨rfl, rfl⟩
        simp only [Act.put, List.setIfInBounds_toArray, List.set_cons_zero, List.set_cons_succ]
        refine wpT_mv (o := ⟨some 45, Op.call { callee := Callee.builtin Builtin.copy, args := #[Operand.tmp 41, Operand.tmp 44], argTypes := #[22, 22] }, 3, "slices.go:528", #[{ on := 3, ground := Ground.data }, { on := 6, ground := Ground.data }], none⟩) rfl (by rfl) (by rfl) (fun w' hw' hF R__ hGo => ?_) ⟨_, rfl⟩ ?_
        · have oB : Own w' wb.heap.size 2 (.slice (some ⟨gb, 0, none⟩) 3 3) (ints (repL z 3 1)) := hF 20 (by simp [uses]) undef rfl; obtain ⟨w9, hrun, o2, hw9⟩ := copy_rep (r := 3) (n := 1) (m := 1) (d := 2) (s := 1) (c := 3) (ad := ⟨gb, 0, none⟩) 3 (by omega) (by omega) rfl oB (rep_src oB (by omega)); go_simp; exact gives_value rfl (hGo _ _ (hw9.ext hw' oB) (fun kk u hk hk2 h => by (revert hk hk2 h; (try dsimp only); split <;> intro hk hk2 h <;> first | trivial | (exfalso; apply hk; simp [uses]; done) | (exfalso; exact hk2 rfl))) rfl o2)
        intro v hv
        obtain rfl : v = (.int .i64 1) := hv
        simp only [Act.put, List.setIfInBounds_toArray, List.set_cons_zero, List.set_cons_succ]
        refine' wpT_det (o := ⟨some 46, Op.binOp BinOp.add 3 (Operand.tmp 38) (Operand.tmp 45) 3, 3, "slices.go:528", #[{ on := 0, ground := Ground.data }, { on := 7, ground := Ground.data }], none⟩) rfl (by rfl) (by rfl) (fun w' hw' => ?_) ?_; rotate_left
        · go_simp <;> first | rfl | exact ⟨rfl, rfl⟩
        simp only [Act.put, List.setIfInBounds_toArray, List.set_cons_zero, List.set_cons_succ]
        refine' wpT_det (o := ⟨some 8, Op.assign (Operand.tmp 46), 3, "slices.go:528", #[{ on := 8, ground := Ground.data }, { on := 7, ground := Ground.chain }, { on := 0, ground := Ground.phase }, { on := 1, ground := Ground.phase }, { on := 2, ground := Ground.phase }, { on := 3, ground := Ground.phase }, { on := 4, ground := Ground.phase }, { on := 5, ground := Ground.phase }, { on := 6, ground := Ground.phase }, { on := 7, ground := Ground.phase }, { on := 8, ground := Ground.phase }], none⟩) rfl (by rfl) (by rfl) (fun w' hw' => ?_) ?_; rotate_left
        · go_simp <;> first | rfl | exact ⟨rfl, rfl⟩
        simp only [Act.put, List.setIfInBounds_toArray, List.set_cons_zero, List.set_cons_succ]
        refine wpT_nil (fun w5 hw' hF => ?_)
        refine wpList_nil ?_
        have o5 : Own w5 wb.heap.size 2 (.slice (some ⟨gb, 0, none⟩) 3 3) (ints (repL z 3 2)) := hF 7 _ rfl
        have hx5 : Ext wb w5 := hw'
        clear hF hw' ho hx
        go_wp2_with fail
        go_roundw
        case rel => exact ⟨2, by omega, by omega, by go_num, o5, hx5⟩
        case measure => simp [intOf, show IntKind.i64.wrap 2 = 2 from IntWalk.i64_in _ (by omega)]
      · go_upto_region 9 with (fail)
        refine wp_region_TW (cs := [(7, [20])]) [0, 1, 2, 3, 4, 5, 6, 7, 8, 9] [] [7] [(7, [20])] (fun i__ v => match i__ with | 7 => v = (.int .i64 1) | _ => False) (fun i__ v w' => match i__ with | 7 => Own w' wb.heap.size 2 (.slice (some ⟨gb, 0, none⟩) 3 3) (ints (repL z 3 3)) | 20 => Own w' wb.heap.size 2 (.slice (some ⟨gb, 0, none⟩) 3 3) (ints (repL z 3 2)) | _ => True) wb (Ext.drew hx) (phi [20]) (phi_all (τ := (fun i__ v w' => match i__ with | 7 => Own w' wb.heap.size 2 (.slice (some ⟨gb, 0, none⟩) 3 3) (ints (repL z 3 3)) | 20 => Own w' wb.heap.size 2 (.slice (some ⟨gb, 0, none⟩) 3 3) (ints (repL z 3 2)) | _ => True)) (allOf_cons (ho.ext (Ext.drew (Ext.refl _))) allOf_nil)) (by kernel_rfl) (by kernel_rfl) (by intro i v w' w2 h hx; revert h; (try dsimp only); split <;> intro h <;> first | trivial | exact (by first | exact Own.ext h hx)) ?_
        refine' wpT_det (o := ⟨some 38, Op.move (Operand.tmp 8), 3, "slices.go:528", #[], none⟩) rfl (by rfl) (by rfl) (fun w' hw' => ?_) ?_; rotate_left
        · go_simp <;> first | rfl | exact ⟨rfl, rfl⟩
        simp only [Act.put, List.setIfInBounds_toArray, List.set_cons_zero, List.set_cons_succ]
        refine' wpT_det (o := ⟨some 39, Op.move (Operand.tmp 7), 22, "slices.go:528", #[], none⟩) rfl (by rfl) (by rfl) (fun w' hw' => ?_) ?_; rotate_left
        · go_simp <;> first | rfl | exact ⟨rfl, rfl⟩
        simp only [Act.put, List.setIfInBounds_toArray, List.set_cons_zero, List.set_cons_succ]
        refine' wpT_det (o := ⟨some 40, Op.move (Operand.tmp 8), 3, "slices.go:528", #[], none⟩) rfl (by rfl) (by rfl) (fun w' hw' => ?_) ?_; rotate_left
        · go_simp <;> first | rfl | exact ⟨rfl, rfl⟩
        simp only [Act.put, List.setIfInBounds_toArray, List.set_cons_zero, List.set_cons_succ]
        refine' wpT_det (o := ⟨some 41, Op.slice 22 (Operand.tmp 39) (some (Operand.tmp 40)) none none, 22, "slices.go:528", #[{ on := 1, ground := Ground.data }, { on := 2, ground := Ground.data }], none⟩) rfl (by rfl) (by rfl) (fun w' hw' => ?_) ?_; rotate_left
        · go_simp <;> first | rfl | exact ⟨rfl, rfl⟩
        simp only [Act.put, List.setIfInBounds_toArray, List.set_cons_zero, List.set_cons_succ]
        refine' wpT_det (o := ⟨some 42, Op.move (Operand.tmp 7), 22, "slices.go:528", #[], none⟩) rfl (by rfl) (by rfl) (fun w' hw' => ?_) ?_; rotate_left
        · go_simp <;> first | rfl | exact ⟨rfl, rfl⟩
        simp only [Act.put, List.setIfInBounds_toArray, List.set_cons_zero, List.set_cons_succ]
        refine' wpT_det (o := ⟨some 43, Op.move (Operand.tmp 8), 3, "slices.go:528", #[], none⟩) rfl (by rfl) (by rfl) (fun w' hw' => ?_) ?_; rotate_left
        · go_simp <;> first | rfl | exact ⟨rfl, rfl⟩
        simp only [Act.put, List.setIfInBounds_toArray, List.set_cons_zero, List.set_cons_succ]
        refine' wpT_det (o := ⟨some 44, Op.slice 22 (Operand.tmp 42) none (some (Operand.tmp 43)) none, 22, "slices.go:528", #[{ on := 4, ground := Ground.data }, { on := 5, ground := Ground.data }], none⟩) rfl (by rfl) (by rfl) (fun w' hw' => ?_) ?_; rotate_left
        · go_simp <;> first | rfl | exact ⟨rfl, rfl⟩
        simp only [Act.put, List.setIfInBounds_toArray, List.set_cons_zero, List.set_cons_succ]
        refine wpT_mv (o := ⟨some 45, Op.call { callee := Callee.builtin Builtin.copy, args := #[Operand.tmp 41, Operand.tmp 44], argTypes := #[22, 22] }, 3, "slices.go:528", #[{ on := 3, ground := Ground.data }, { on := 6, ground := Ground.data }], none⟩) rfl (by rfl) (by rfl) (fun w' hw' hF R__ hGo => ?_) ⟨_, rfl⟩ ?_
        · have oB : Own w' wb.heap.size 2 (.slice (some ⟨gb, 0, none⟩) 3 3) (ints (repL z 3 2)) := hF 20 (by simp [uses]) undef rfl; obtain ⟨w9, hrun, o2, hw9⟩ := copy_rep (r := 3) (n := 2) (m := 1) (d := 1) (s := 2) (c := 3) (ad := ⟨gb, 0, none⟩) 3 (by omega) (by omega) rfl oB (rep_src oB (by omega)); go_simp; exact gives_value rfl (hGo _ _ (hw9.ext hw' oB) (fun kk u hk hk2 h => by (revert hk hk2 h; (try dsimp only); split <;> intro hk hk2 h <;> first | trivial | (exfalso; apply hk; simp [uses]; done) | (exfalso; exact hk2 rfl))) rfl o2)
        intro v hv
        obtain rfl : v = (.int .i64 1) := hv
        simp only [Act.put, List.setIfInBounds_toArray, List.set_cons_zero, List.set_cons_succ]
        refine' wpT_det (o := ⟨some 46, Op.binOp BinOp.add 3 (Operand.tmp 38) (Operand.tmp 45) 3, 3, "slices.go:528", #[{ on := 0, ground := Ground.data }, { on := 7, ground := Ground.data }], none⟩) rfl (by rfl) (by rfl) (fun w' hw' => ?_) ?_; rotate_left
        · go_simp <;> first | rfl | exact ⟨rfl, rfl⟩
        simp only [Act.put, List.setIfInBounds_toArray, List.set_cons_zero, List.set_cons_succ]
        refine' wpT_det (o := ⟨some 8, Op.assign (Operand.tmp 46), 3, "slices.go:528", #[{ on := 8, ground := Ground.data }, { on := 7, ground := Ground.chain }, { on := 0, ground := Ground.phase }, { on := 1, ground := Ground.phase }, { on := 2, ground := Ground.phase }, { on := 3, ground := Ground.phase }, { on := 4, ground := Ground.phase }, { on := 5, ground := Ground.phase }, { on := 6, ground := Ground.phase }, { on := 7, ground := Ground.phase }, { on := 8, ground := Ground.phase }], none⟩) rfl (by rfl) (by rfl) (fun w' hw' => ?_) ?_; rotate_left
        · go_simp <;> first | rfl | exact ⟨rfl, rfl⟩
        simp only [Act.put, List.setIfInBounds_toArray, List.set_cons_zero, List.set_cons_succ]
        refine wpT_nil (fun w5 hw' hF => ?_)
        refine wpList_nil ?_
        have o5 : Own w5 wb.heap.size 2 (.slice (some ⟨gb, 0, none⟩) 3 3) (ints (repL z 3 3)) := hF 7 _ rfl
        have hx5 : Ext wb w5 := hw'
        clear hF hw' ho hx
        go_wp2_with fail
        go_roundw
        case rel => exact ⟨3, by omega, by omega, by go_num, o5, hx5⟩
        case measure => simp [intOf, show IntKind.i64.wrap 3 = 3 from IntWalk.i64_in _ (by omega)]
      · go_upto_region 9 with (fail)
        refine wp_region_TW (cs := [(7, [20])]) [0, 1, 2, 3, 4, 5, 6, 7, 8, 9] [] [7] [(7, [20])] (fun i__ v => match i__ with | 7 => v = (.int .i64 1) | _ => False) (fun i__ v w' => match i__ with | 7 => Own w' wb.heap.size 2 (.slice (some ⟨gb, 0, none⟩) 4 4) (ints (repL z 4 2)) | 20 => Own w' wb.heap.size 2 (.slice (some ⟨gb, 0, none⟩) 4 4) (ints (repL z 4 1)) | _ => True) wb (Ext.drew hx) (phi [20]) (phi_all (τ := (fun i__ v w' => match i__ with | 7 => Own w' wb.heap.size 2 (.slice (some ⟨gb, 0, none⟩) 4 4) (ints (repL z 4 2)) | 20 => Own w' wb.heap.size 2 (.slice (some ⟨gb, 0, none⟩) 4 4) (ints (repL z 4 1)) | _ => True)) (allOf_cons (ho.ext (Ext.drew (Ext.refl _))) allOf_nil)) (by kernel_rfl) (by kernel_rfl) (by intro i v w' w2 h hx; revert h; (try dsimp only); split <;> intro h <;> first | trivial | exact (by first | exact Own.ext h hx)) ?_
        refine' wpT_det (o := ⟨some 38, Op.move (Operand.tmp 8), 3, "slices.go:528", #[], none⟩) rfl (by rfl) (by rfl) (fun w' hw' => ?_) ?_; rotate_left
        · go_simp <;> first | rfl | exact ⟨rfl, rfl⟩
        simp only [Act.put, List.setIfInBounds_toArray, List.set_cons_zero, List.set_cons_succ]
        refine' wpT_det (o := ⟨some 39, Op.move (Operand.tmp 7), 22, "slices.go:528", #[], none⟩) rfl (by rfl) (by rfl) (fun w' hw' => ?_) ?_; rotate_left
        · go_simp <;> first | rfl | exact ⟨rfl, rfl⟩
        simp only [Act.put, List.setIfInBounds_toArray, List.set_cons_zero, List.set_cons_succ]
        refine' wpT_det (o := ⟨some 40, Op.move (Operand.tmp 8), 3, "slices.go:528", #[], none⟩) rfl (by rfl) (by rfl) (fun w' hw' => ?_) ?_; rotate_left
        · go_simp <;> first | rfl | exact ⟨rfl, rfl⟩
        simp only [Act.put, List.setIfInBounds_toArray, List.set_cons_zero, List.set_cons_succ]
        refine' wpT_det (o := ⟨some 41, Op.slice 22 (Operand.tmp 39) (some (Operand.tmp 40)) none none, 22, "slices.go:528", #[{ on := 1, ground := Ground.data }, { on := 2, ground := Ground.data }], none⟩) rfl (by rfl) (by rfl) (fun w' hw' => ?_) ?_; rotate_left
        · go_simp <;> first | rfl | exact ⟨rfl, rfl⟩
        simp only [Act.put, List.setIfInBounds_toArray, List.set_cons_zero, List.set_cons_succ]
        refine' wpT_det (o := ⟨some 42, Op.move (Operand.tmp 7), 22, "slices.go:528", #[], none⟩) rfl (by rfl) (by rfl) (fun w' hw' => ?_) ?_; rotate_left
        · go_simp <;> first | rfl | exact ⟨rfl, rfl⟩
        simp only [Act.put, List.setIfInBounds_toArray, List.set_cons_zero, List.set_cons_succ]
        refine' wpT_det (o := ⟨some 43, Op.move (Operand.tmp 8), 3, "slices.go:528", #[], none⟩) rfl (by rfl) (by rfl) (fun w' hw' => ?_) ?_; rotate_left
        · go_simp <;> first | rfl | exact ⟨rfl, rfl⟩
        simp only [Act.put, List.setIfInBounds_toArray, List.set_cons_zero, List.set_cons_succ]
        refine' wpT_det (o := ⟨some 44, Op.slice 22 (Operand.tmp 42) none (some (Operand.tmp 43)) none, 22, "slices.go:528", #[{ on := 4, ground := Ground.data }, { on := 5, ground := Ground.data }], none⟩) rfl (by rfl) (by rfl) (fun w' hw' => ?_) ?_; rotate_left
        · go_simp <;> first | rfl | exact ⟨rfl, rfl⟩
        simp only [Act.put, List.setIfInBounds_toArray, List.set_cons_zero, List.set_cons_succ]
        refine wpT_mv (o := ⟨some 45, Op.call { callee := Callee.builtin Builtin.copy, args := #[Operand.tmp 41, Operand.tmp 44], argTypes := #[22, 22] }, 3, "slices.go:528", #[{ on := 3, ground := Ground.data }, { on := 6, ground := Ground.data }], none⟩) rfl (by rfl) (by rfl) (fun w' hw' hF R__ hGo => ?_) ⟨_, rfl⟩ ?_
        · have oB : Own w' wb.heap.size 2 (.slice (some ⟨gb, 0, none⟩) 4 4) (ints (repL z 4 1)) := hF 20 (by simp [uses]) undef rfl; obtain ⟨w9, hrun, o2, hw9⟩ := copy_rep (r := 4) (n := 1) (m := 1) (d := 3) (s := 1) (c := 4) (ad := ⟨gb, 0, none⟩) 3 (by omega) (by omega) rfl oB (rep_src oB (by omega)); go_simp; exact gives_value rfl (hGo _ _ (hw9.ext hw' oB) (fun kk u hk hk2 h => by (revert hk hk2 h; (try dsimp only); split <;> intro hk hk2 h <;> first | trivial | (exfalso; apply hk; simp [uses]; done) | (exfalso; exact hk2 rfl))) rfl o2)
        intro v hv
        obtain rfl : v = (.int .i64 1) := hv
        simp only [Act.put, List.setIfInBounds_toArray, List.set_cons_zero, List.set_cons_succ]
        refine' wpT_det (o := ⟨some 46, Op.binOp BinOp.add 3 (Operand.tmp 38) (Operand.tmp 45) 3, 3, "slices.go:528", #[{ on := 0, ground := Ground.data }, { on := 7, ground := Ground.data }], none⟩) rfl (by rfl) (by rfl) (fun w' hw' => ?_) ?_; rotate_left
        · go_simp <;> first | rfl | exact ⟨rfl, rfl⟩
        simp only [Act.put, List.setIfInBounds_toArray, List.set_cons_zero, List.set_cons_succ]
        refine' wpT_det (o := ⟨some 8, Op.assign (Operand.tmp 46), 3, "slices.go:528", #[{ on := 8, ground := Ground.data }, { on := 7, ground := Ground.chain }, { on := 0, ground := Ground.phase }, { on := 1, ground := Ground.phase }, { on := 2, ground := Ground.phase }, { on := 3, ground := Ground.phase }, { on := 4, ground := Ground.phase }, { on := 5, ground := Ground.phase }, { on := 6, ground := Ground.phase }, { on := 7, ground := Ground.phase }, { on := 8, ground := Ground.phase }], none⟩) rfl (by rfl) (by rfl) (fun w' hw' => ?_) ?_; rotate_left
        · go_simp <;> first | rfl | exact ⟨rfl, rfl⟩
        simp only [Act.put, List.setIfInBounds_toArray, List.set_cons_zero, List.set_cons_succ]
        refine wpT_nil (fun w5 hw' hF => ?_)
        refine wpList_nil ?_
        have o5 : Own w5 wb.heap.size 2 (.slice (some ⟨gb, 0, none⟩) 4 4) (ints (repL z 4 2)) := hF 7 _ rfl
        have hx5 : Ext wb w5 := hw'
        clear hF hw' ho hx
        go_wp2_with fail
        go_roundw
        case rel => exact ⟨2, by omega, by omega, by go_num, o5, hx5⟩
        case measure => simp [intOf, show IntKind.i64.wrap 2 = 2 from IntWalk.i64_in _ (by omega)]
      · go_upto_region 9 with (fail)
        refine wp_region_TW (cs := [(7, [20])]) [0, 1, 2, 3, 4, 5, 6, 7, 8, 9] [] [7] [(7, [20])] (fun i__ v => match i__ with | 7 => v = (.int .i64 2) | _ => False) (fun i__ v w' => match i__ with | 7 => Own w' wb.heap.size 2 (.slice (some ⟨gb, 0, none⟩) 4 4) (ints (repL z 4 4)) | 20 => Own w' wb.heap.size 2 (.slice (some ⟨gb, 0, none⟩) 4 4) (ints (repL z 4 2)) | _ => True) wb (Ext.drew hx) (phi [20]) (phi_all (τ := (fun i__ v w' => match i__ with | 7 => Own w' wb.heap.size 2 (.slice (some ⟨gb, 0, none⟩) 4 4) (ints (repL z 4 4)) | 20 => Own w' wb.heap.size 2 (.slice (some ⟨gb, 0, none⟩) 4 4) (ints (repL z 4 2)) | _ => True)) (allOf_cons (ho.ext (Ext.drew (Ext.refl _))) allOf_nil)) (by kernel_rfl) (by kernel_rfl) (by intro i v w' w2 h hx; revert h; (try dsimp only); split <;> intro h <;> first | trivial | exact (by first | exact Own.ext h hx)) ?_
        refine' wpT_det (o := ⟨some 38, Op.move (Operand.tmp 8), 3, "slices.go:528", #[], none⟩) rfl (by rfl) (by rfl) (fun w' hw' => ?_) ?_; rotate_left
        · go_simp <;> first | rfl | exact ⟨rfl, rfl⟩
        simp only [Act.put, List.setIfInBounds_toArray, List.set_cons_zero, List.set_cons_succ]
        refine' wpT_det (o := ⟨some 39, Op.move (Operand.tmp 7), 22, "slices.go:528", #[], none⟩) rfl (by rfl) (by rfl) (fun w' hw' => ?_) ?_; rotate_left
        · go_simp <;> first | rfl | exact ⟨rfl, rfl⟩
        simp only [Act.put, List.setIfInBounds_toArray, List.set_cons_zero, List.set_cons_succ]
        refine' wpT_det (o := ⟨some 40, Op.move (Operand.tmp 8), 3, "slices.go:528", #[], none⟩) rfl (by rfl) (by rfl) (fun w' hw' => ?_) ?_; rotate_left
        · go_simp <;> first | rfl | exact ⟨rfl, rfl⟩
        simp only [Act.put, List.setIfInBounds_toArray, List.set_cons_zero, List.set_cons_succ]
        refine' wpT_det (o := ⟨some 41, Op.slice 22 (Operand.tmp 39) (some (Operand.tmp 40)) none none, 22, "slices.go:528", #[{ on := 1, ground := Ground.data }, { on := 2, ground := Ground.data }], none⟩) rfl (by rfl) (by rfl) (fun w' hw' => ?_) ?_; rotate_left
        · go_simp <;> first | rfl | exact ⟨rfl, rfl⟩
        simp only [Act.put, List.setIfInBounds_toArray, List.set_cons_zero, List.set_cons_succ]
        refine' wpT_det (o := ⟨some 42, Op.move (Operand.tmp 7), 22, "slices.go:528", #[], none⟩) rfl (by rfl) (by rfl) (fun w' hw' => ?_) ?_; rotate_left
        · go_simp <;> first | rfl | exact ⟨rfl, rfl⟩
        simp only [Act.put, List.setIfInBounds_toArray, List.set_cons_zero, List.set_cons_succ]
        refine' wpT_det (o := ⟨some 43, Op.move (Operand.tmp 8), 3, "slices.go:528", #[], none⟩) rfl (by rfl) (by rfl) (fun w' hw' => ?_) ?_; rotate_left
        · go_simp <;> first | rfl | exact ⟨rfl, rfl⟩
        simp only [Act.put, List.setIfInBounds_toArray, List.set_cons_zero, List.set_cons_succ]
        refine' wpT_det (o := ⟨some 44, Op.slice 22 (Operand.tmp 42) none (some (Operand.tmp 43)) none, 22, "slices.go:528", #[{ on := 4, ground := Ground.data }, { on := 5, ground := Ground.data }], none⟩) rfl (by rfl) (by rfl) (fun w' hw' => ?_) ?_; rotate_left
        · go_simp <;> first | rfl | exact ⟨rfl, rfl⟩
        simp only [Act.put, List.setIfInBounds_toArray, List.set_cons_zero, List.set_cons_succ]
        refine wpT_mv (o := ⟨some 45, Op.call { callee := Callee.builtin Builtin.copy, args := #[Operand.tmp 41, Operand.tmp 44], argTypes := #[22, 22] }, 3, "slices.go:528", #[{ on := 3, ground := Ground.data }, { on := 6, ground := Ground.data }], none⟩) rfl (by rfl) (by rfl) (fun w' hw' hF R__ hGo => ?_) ⟨_, rfl⟩ ?_
        · have oB : Own w' wb.heap.size 2 (.slice (some ⟨gb, 0, none⟩) 4 4) (ints (repL z 4 2)) := hF 20 (by simp [uses]) undef rfl; obtain ⟨w9, hrun, o2, hw9⟩ := copy_rep (r := 4) (n := 2) (m := 2) (d := 2) (s := 2) (c := 4) (ad := ⟨gb, 0, none⟩) 3 (by omega) (by omega) rfl oB (rep_src oB (by omega)); go_simp; exact gives_value rfl (hGo _ _ (hw9.ext hw' oB) (fun kk u hk hk2 h => by (revert hk hk2 h; (try dsimp only); split <;> intro hk hk2 h <;> first | trivial | (exfalso; apply hk; simp [uses]; done) | (exfalso; exact hk2 rfl))) rfl o2)
        intro v hv
        obtain rfl : v = (.int .i64 2) := hv
        simp only [Act.put, List.setIfInBounds_toArray, List.set_cons_zero, List.set_cons_succ]
        refine' wpT_det (o := ⟨some 46, Op.binOp BinOp.add 3 (Operand.tmp 38) (Operand.tmp 45) 3, 3, "slices.go:528", #[{ on := 0, ground := Ground.data }, { on := 7, ground := Ground.data }], none⟩) rfl (by rfl) (by rfl) (fun w' hw' => ?_) ?_; rotate_left
        · go_simp <;> first | rfl | exact ⟨rfl, rfl⟩
        simp only [Act.put, List.setIfInBounds_toArray, List.set_cons_zero, List.set_cons_succ]
        refine' wpT_det (o := ⟨some 8, Op.assign (Operand.tmp 46), 3, "slices.go:528", #[{ on := 8, ground := Ground.data }, { on := 7, ground := Ground.chain }, { on := 0, ground := Ground.phase }, { on := 1, ground := Ground.phase }, { on := 2, ground := Ground.phase }, { on := 3, ground := Ground.phase }, { on := 4, ground := Ground.phase }, { on := 5, ground := Ground.phase }, { on := 6, ground := Ground.phase }, { on := 7, ground := Ground.phase }, { on := 8, ground := Ground.phase }], none⟩) rfl (by rfl) (by rfl) (fun w' hw' => ?_) ?_; rotate_left
        · go_simp <;> first | rfl | exact ⟨rfl, rfl⟩
        simp only [Act.put, List.setIfInBounds_toArray, List.set_cons_zero, List.set_cons_succ]
        refine wpT_nil (fun w5 hw' hF => ?_)
        refine wpList_nil ?_
        have o5 : Own w5 wb.heap.size 2 (.slice (some ⟨gb, 0, none⟩) 4 4) (ints (repL z 4 4)) := hF 7 _ rfl
        have hx5 : Ext wb w5 := hw'
        clear hF hw' ho hx
        go_wp2_with fail
        go_roundw
        case rel => exact ⟨4, by omega, by omega, by go_num, o5, hx5⟩
        case measure => simp [intOf, show IntKind.i64.wrap 4 = 4 from IntWalk.i64_in _ (by omega)]
      · go_upto_region 9 with (fail)
        refine wp_region_TW (cs := [(7, [20])]) [0, 1, 2, 3, 4, 5, 6, 7, 8, 9] [] [7] [(7, [20])] (fun i__ v => match i__ with | 7 => v = (.int .i64 1) | _ => False) (fun i__ v w' => match i__ with | 7 => Own w' wb.heap.size 2 (.slice (some ⟨gb, 0, none⟩) 4 4) (ints (repL z 4 4)) | 20 => Own w' wb.heap.size 2 (.slice (some ⟨gb, 0, none⟩) 4 4) (ints (repL z 4 3)) | _ => True) wb (Ext.drew hx) (phi [20]) (phi_all (τ := (fun i__ v w' => match i__ with | 7 => Own w' wb.heap.size 2 (.slice (some ⟨gb, 0, none⟩) 4 4) (ints (repL z 4 4)) | 20 => Own w' wb.heap.size 2 (.slice (some ⟨gb, 0, none⟩) 4 4) (ints (repL z 4 3)) | _ => True)) (allOf_cons (ho.ext (Ext.drew (Ext.refl _))) allOf_nil)) (by kernel_rfl) (by kernel_rfl) (by intro i v w' w2 h hx; revert h; (try dsimp only); split <;> intro h <;> first | trivial | exact (by first | exact Own.ext h hx)) ?_
        refine' wpT_det (o := ⟨some 38, Op.move (Operand.tmp 8), 3, "slices.go:528", #[], none⟩) rfl (by rfl) (by rfl) (fun w' hw' => ?_) ?_; rotate_left
        · go_simp <;> first | rfl | exact ⟨rfl, rfl⟩
        simp only [Act.put, List.setIfInBounds_toArray, List.set_cons_zero, List.set_cons_succ]
        refine' wpT_det (o := ⟨some 39, Op.move (Operand.tmp 7), 22, "slices.go:528", #[], none⟩) rfl (by rfl) (by rfl) (fun w' hw' => ?_) ?_; rotate_left
        · go_simp <;> first | rfl | exact ⟨rfl, rfl⟩
        simp only [Act.put, List.setIfInBounds_toArray, List.set_cons_zero, List.set_cons_succ]
        refine' wpT_det (o := ⟨some 40, Op.move (Operand.tmp 8), 3, "slices.go:528", #[], none⟩) rfl (by rfl) (by rfl) (fun w' hw' => ?_) ?_; rotate_left
        · go_simp <;> first | rfl | exact ⟨rfl, rfl⟩
        simp only [Act.put, List.setIfInBounds_toArray, List.set_cons_zero, List.set_cons_succ]
        refine' wpT_det (o := ⟨some 41, Op.slice 22 (Operand.tmp 39) (some (Operand.tmp 40)) none none, 22, "slices.go:528", #[{ on := 1, ground := Ground.data }, { on := 2, ground := Ground.data }], none⟩) rfl (by rfl) (by rfl) (fun w' hw' => ?_) ?_; rotate_left
        · go_simp <;> first | rfl | exact ⟨rfl, rfl⟩
        simp only [Act.put, List.setIfInBounds_toArray, List.set_cons_zero, List.set_cons_succ]
        refine' wpT_det (o := ⟨some 42, Op.move (Operand.tmp 7), 22, "slices.go:528", #[], none⟩) rfl (by rfl) (by rfl) (fun w' hw' => ?_) ?_; rotate_left
        · go_simp <;> first | rfl | exact ⟨rfl, rfl⟩
        simp only [Act.put, List.setIfInBounds_toArray, List.set_cons_zero, List.set_cons_succ]
        refine' wpT_det (o := ⟨some 43, Op.move (Operand.tmp 8), 3, "slices.go:528", #[], none⟩) rfl (by rfl) (by rfl) (fun w' hw' => ?_) ?_; rotate_left
        · go_simp <;> first | rfl | exact ⟨rfl, rfl⟩
        simp only [Act.put, List.setIfInBounds_toArray, List.set_cons_zero, List.set_cons_succ]
        refine' wpT_det (o := ⟨some 44, Op.slice 22 (Operand.tmp 42) none (some (Operand.tmp 43)) none, 22, "slices.go:528", #[{ on := 4, ground := Ground.data }, { on := 5, ground := Ground.data }], none⟩) rfl (by rfl) (by rfl) (fun w' hw' => ?_) ?_; rotate_left
        · go_simp <;> first | rfl | exact ⟨rfl, rfl⟩
        simp only [Act.put, List.setIfInBounds_toArray, List.set_cons_zero, List.set_cons_succ]
        refine wpT_mv (o := ⟨some 45, Op.call { callee := Callee.builtin Builtin.copy, args := #[Operand.tmp 41, Operand.tmp 44], argTypes := #[22, 22] }, 3, "slices.go:528", #[{ on := 3, ground := Ground.data }, { on := 6, ground := Ground.data }], none⟩) rfl (by rfl) (by rfl) (fun w' hw' hF R__ hGo => ?_) ⟨_, rfl⟩ ?_
        · have oB : Own w' wb.heap.size 2 (.slice (some ⟨gb, 0, none⟩) 4 4) (ints (repL z 4 3)) := hF 20 (by simp [uses]) undef rfl; obtain ⟨w9, hrun, o2, hw9⟩ := copy_rep (r := 4) (n := 3) (m := 1) (d := 1) (s := 3) (c := 4) (ad := ⟨gb, 0, none⟩) 3 (by omega) (by omega) rfl oB (rep_src oB (by omega)); go_simp; exact gives_value rfl (hGo _ _ (hw9.ext hw' oB) (fun kk u hk hk2 h => by (revert hk hk2 h; (try dsimp only); split <;> intro hk hk2 h <;> first | trivial | (exfalso; apply hk; simp [uses]; done) | (exfalso; exact hk2 rfl))) rfl o2)
        intro v hv
        obtain rfl : v = (.int .i64 1) := hv
        simp only [Act.put, List.setIfInBounds_toArray, List.set_cons_zero, List.set_cons_succ]
        refine' wpT_det (o := ⟨some 46, Op.binOp BinOp.add 3 (Operand.tmp 38) (Operand.tmp 45) 3, 3, "slices.go:528", #[{ on := 0, ground := Ground.data }, { on := 7, ground := Ground.data }], none⟩) rfl (by rfl) (by rfl) (fun w' hw' => ?_) ?_; rotate_left
        · go_simp <;> first | rfl | exact ⟨rfl, rfl⟩
        simp only [Act.put, List.setIfInBounds_toArray, List.set_cons_zero, List.set_cons_succ]
        refine' wpT_det (o := ⟨some 8, Op.assign (Operand.tmp 46), 3, "slices.go:528", #[{ on := 8, ground := Ground.data }, { on := 7, ground := Ground.chain }, { on := 0, ground := Ground.phase }, { on := 1, ground := Ground.phase }, { on := 2, ground := Ground.phase }, { on := 3, ground := Ground.phase }, { on := 4, ground := Ground.phase }, { on := 5, ground := Ground.phase }, { on := 6, ground := Ground.phase }, { on := 7, ground := Ground.phase }, { on := 8, ground := Ground.phase }], none⟩) rfl (by rfl) (by rfl) (fun w' hw' => ?_) ?_; rotate_left
        · go_simp <;> first | rfl | exact ⟨rfl, rfl⟩
        simp only [Act.put, List.setIfInBounds_toArray, List.set_cons_zero, List.set_cons_succ]
        refine wpT_nil (fun w5 hw' hF => ?_)
        refine wpList_nil ?_
        have o5 : Own w5 wb.heap.size 2 (.slice (some ⟨gb, 0, none⟩) 4 4) (ints (repL z 4 4)) := hF 7 _ rfl
        have hx5 : Ext wb w5 := hw'
        clear hF hw' ho hx
        go_wp2_with fail
        go_roundw
        case rel => exact ⟨4, by omega, by omega, by go_num, o5, hx5⟩
        case measure => simp [intOf, show IntKind.i64.wrap 4 = 4 from IntWalk.i64_in _ (by omega)]
    · obtain rfl : n = r := by omega
      have hL : repL z n n = List.replicate n z := by simp [repL]
      rw [hL] at ho
      go_wp2_with fail
      go_ret
      obtain rfl := HGB.out
      exact ⟨rfl, ho, hx⟩

end Go.Proofs.Ytdmeobffijhloaa
