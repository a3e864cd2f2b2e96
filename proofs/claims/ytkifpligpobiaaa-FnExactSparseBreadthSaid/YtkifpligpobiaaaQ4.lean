
import Derived.Test.YtkifpligpobiaaaQ3
set_option linter.unusedVariables false
set_option linter.unusedSimpArgs false

namespace Go.Proofs.Ytkifpligpobiaaa

open Go.RowKit


/-- A full square in a block, to be read. -/
structure FAt (w : World) (b n N : Nat) (A : Option Addr) (k : Nat) (V : Option Addr) (q : Nat) (M : Sqr) (ys : List Nat) : Prop where
  c0 : w.cell? ⟨b, 0, none⟩ = some (.int .i64 n)
  c1 : w.cell? ⟨b, 1, none⟩ = some (.slice A N k)
  c2 : w.cell? ⟨b, 2, none⟩ = some (.slice V N q)
  ht : Rds w A N (bools (tb n M))
  hv : Rds w V N (flts ys)
  hy : cfs ys = nb n M
theorem FAt.ext {w w' : World} {b n N : Nat} {A : Option Addr} {k : Nat} {V : Option Addr} {q : Nat} {M : Sqr} {ys : List Nat} (h : FAt w b n N A k V q M ys) (hx : Ext w w') : FAt w' b n N A k V q M ys :=
  ⟨hx.cell h.c0, hx.cell h.c1, hx.cell h.c2, h.ht.below hx, h.hv.below hx, h.hy⟩
theorem FAt.of {w : World} {b n N : Nat} {T : TypeId} {A : Option Addr} {k : Nat} {V : Option Addr} {q : Nat} {M : Sqr} {ys : List Nat} (h : Blk w b #[.int .i64 n, .slice A N k, .slice V N q] T) (ht : Rds w A N (bools (tb n M))) (hv : Rds w V N (flts ys)) (hy : cfs ys = nb n M) : FAt w b n N A k V q M ys :=
  ⟨h.cell 0 rfl, h.cell 1 rfl, h.cell 2 rfl, ht, hv, hy⟩
theorem Rds.boolN {w : World} {A : Option Addr} {n : Nat} {ts : List Bool} (h : Rds w A n (bools ts)) (k : Nat) (h1 : k < n) : ∃ ad, A = some ad ∧ w.cell? (ad.add k) = some (.bool (rdb ts k)) := by
  obtain ⟨ad, e, hc⟩ := h.at' (by omega)
  refine ⟨ad, e, ?_⟩
  rw [hc _ h1, bools_get (by rw [h.blen]; exact h1)]

theorem Own.single (W : World) (e : TypeId) (v : Value) : Own (W.alloc (.cells #[v] e)) W.heap.size e (.slice (some ⟨W.heap.size, 0, none⟩) 1 1) [v] :=
  ⟨by simpa using World.ownsRow_lit (base := W.heap.size) (e := e) (size := 1) W #[v] 1 (Nat.le_refl _) (by unfold maxLen; omega) rfl, by simp⟩

set_option maxRecDepth 20000 in
set_option maxHeartbeats 8000000 in
theorem l05Close_any (b n N : Nat) (A : Option Addr) (k : Nat) (V : Option Addr) (q : Nat) (M : Sqr) (ys : List Nat) (hn1 : 1 ≤ n) (hn32 : n ≤ 32) (hN : N = n * n) (w : World) (ha : FAt w b n N A k V q M ys) :
    Calls Try.prog 74 #[.pointer (some ⟨b, 0, none⟩)] w (RetSqB w (giveSp n M)) := by
  have HN := Lib.hid hN
  have hN1 : 1 ≤ N := by rw [hN]; exact Nat.mul_pos hn1 hn1
  have hN2 : N ≤ 1024 := by rw [hN]; exact Nat.mul_le_mul hn32 hn32
  clear hN
  have HA := Lib.hid ha
  have a0 := ha.c0
  clear ha
  go_enter Try.func74, Try.ntmps74
  go_upto_region 1 with (fail)
  go_upto_region 1 with (fail)
  have hx0 : Ext w (w.alloc (.cells #[.int .i64 0, .slice none 0 0, .slice none 0 0, .slice none 0 0] 27)) := (Ext.refl _).alloc _
  have b0 := Blk.new w #[.int .i64 0, .slice none 0 0, .slice none 0 0, .slice none 0 0] 27
  obtain ⟨w0, hw0⟩ : ∃ w0 : World, w0 = w.alloc (.cells #[.int .i64 0, .slice none 0 0, .slice none 0 0, .slice none 0 0] 27) := ⟨_, rfl⟩
  rw [← hw0] at hx0 b0 ⊢
  clear hw0
  replace a0 := hx0.cell a0
  go_upto_region 2 with (fail)
  have hst : CL w0 (w0.heap.size + 1) n (clS n M 0) (clC n M (0 * n)) (clV n M (0 * n)) ((w0.alloc (.cells #[.int .i64 0] 2)).alloc (.cells #[.int .i64 n, .slice (some ⟨w0.heap.size, 0, none⟩) 1 1, .slice none 0 0, .slice none 0 0] 27)) := by
    have e1 : clS n M 0 = [0] := by simp [clS, clQ]
    have e2 : clC n M (0 * n) = [] := by simp [clC, clQ]
    have e3 : clV n M (0 * n) = [] := by simp [clV, clQ]
    rw [e1, e2, e3]
    refine ⟨some ⟨w0.heap.size, 0, none⟩, 1, none, 0, none, 0, [], rfl, ?_, ?_, Own.nil _ _ _, Own.nil _ _ _, (NeV.nil _ _ _).symm, ((Ext.refl _).alloc _).alloc _⟩
    · simpa using Blk.new (w0.alloc (.cells #[.int .i64 0] 2)) #[.int .i64 n, .slice (some ⟨w0.heap.size, 0, none⟩) 1 1, .slice none 0 0, .slice none 0 0] 27
    · exact (Own.single w0 2 (.int .i64 0)).ext ((Ext.refl _).alloc _)
  obtain ⟨w2, hw2⟩ : ∃ v : World, v = (w0.alloc (.cells #[.int .i64 0] 2)).alloc (.cells #[.int .i64 n, .slice (some ⟨w0.heap.size, 0, none⟩) 1 1, .slice none 0 0, .slice none 0 0] 27) := ⟨_, rfl⟩
  obtain ⟨bs, hbs⟩ : ∃ bs, bs = w0.heap.size + 1 := ⟨_, rfl⟩
  have hle : w0.heap.size ≤ bs := by omega
  rw [← hw2, ← hbs] at hst
  rw [← hw2, ← hbs]
  clear hw2 hbs a0
  go_wp2_with fail
  go_loopw [5] (fun u wr => ∃ i : Nat, i ≤ n ∧ u = .int .i64 i ∧ CL w0 bs n (clS n M i) (clC n M (i * n)) (clV n M (i * n)) wr) (fun u _ => n - (intOf u).toNat)
  case atStart => exact ⟨0, Nat.zero_le _, rfl, hst⟩
  case round =>
    rename World => wA
    clear hst
    obtain ⟨i, hi, rfl, hst⟩ := hrel
    have xA : Ext w wA := by obtain ⟨_, _, _, _, _, _, _, _, _, _, _, _, _, h6⟩ := hst; exact hx0.trans h6
    have c0 := xA.cell HA.out.c0
    by_cases hlt : i < n
    · have g1 : IntKind.i64.wrap ((i : Int) + 1) = (i : Int) + 1 := IntWalk.i64_in _ (by omega)
      go_wp2_with fail
      go_loopw [6] (fun u wr => ∃ k : Nat, k ≤ n ∧ u = .int .i64 k ∧ CL w0 bs n (clS n M i) (clC n M (i * n + k)) (clV n M (i * n + k)) wr) (fun u _ => n - (intOf u).toNat)
      case atStart => exact ⟨0, Nat.zero_le _, rfl, by rw [Nat.add_zero]; exact hst⟩
      case round =>
        rename World => wB
        clear hst xA c0
        obtain ⟨k, hk, rfl, hst⟩ := hrel
        have xB : Ext w wB := by obtain ⟨_, _, _, _, _, _, _, _, _, _, _, _, _, h6⟩ := hst; exact hx0.trans h6
        have c0 := xB.cell HA.out.c0
        have c1 := xB.cell HA.out.c1
        by_cases hlk : k < n
        · obtain ⟨i1, i2, i3, i4, i5, i6⟩ := ix32 hlt hlk hn32
          rw [← HN.out] at i4 i6
          have i7 : i * n + k < N := by omega
          have g4 : IntKind.i64.wrap ((k : Int) + 1) = (k : Int) + 1 := IntWalk.i64_in _ (by omega)
          obtain ⟨ad, rfl, hd⟩ := (HA.out.ht.below xB).boolN (i * n + k) i7
          rw [tb_at M hlt hlk] at hd
          cases hm : M i k with
          | none =>
            rw [hm] at hd
            simp only [Option.isSome_none] at hd
            go_wp2_with fail
            refine wp_region_T (cs := []) [0, 1, 2, 3, 4, 5, 6, 7, 8, 9, 10, 11, 12, 13] [] [] [] (fun _ _ => False) (fun _ _ _ => True) (by kernel_rfl) (by kernel_rfl) (fun _ _ _ _ _ _ => trivial) ?_
            refine' wpT_det (o := ⟨some 29, Op.move (Operand.tmp 0), 75, "l05_sparse.go:62", #[], none⟩) rfl (by rfl) (by rfl) (fun w' hw' => ?_) ?_; rotate_left
            · go_simp <;> first | rfl | exact ⟨rfl, rfl⟩
            simp only [Act.put, List.setIfInBounds_toArray, List.set_cons_zero, List.set_cons_succ]
            refine' wpT_det (o := ⟨some 30, Op.nilCheck (Operand.tmp 29), 0, "l05_sparse.go:62", #[{ on := 0, ground := Ground.data }], none⟩) rfl (by rfl) (by rfl) (fun w' hw' => ?_) ?_; rotate_left
            · go_simp <;> first | rfl | exact ⟨rfl, rfl⟩
            simp only [Act.put, List.setIfInBounds_toArray, List.set_cons_zero, List.set_cons_succ]
            refine' wpT_det (o := ⟨some 31, Op.fieldAddr 71 (Operand.tmp 30) 1, 0, "l05_sparse.go:62", #[{ on := 1, ground := Ground.data }], none⟩) rfl (by rfl) (by rfl) (fun w' hw' => ?_) ?_; rotate_left
            · go_simp <;> first | rfl | exact ⟨rfl, rfl⟩
            simp only [Act.put, List.setIfInBounds_toArray, List.set_cons_zero, List.set_cons_succ]
            refine' wpT_det (o := ⟨some 32, Op.load 69 (Operand.tmp 31), 69, "l05_sparse.go:62", #[{ on := 2, ground := Ground.data }], none⟩) rfl (by rfl) (by rfl) (fun w' hw' => ?_) ?_; rotate_left
            · have c0_ := Ext.cell hw' c0; have c1_ := Ext.cell hw' c1; have hd_ := Ext.cell hw' hd; go_simp <;> first | rfl | exact ⟨rfl, rfl⟩
            simp only [Act.put, List.setIfInBounds_toArray, List.set_cons_zero, List.set_cons_succ]
            refine' wpT_det (o := ⟨some 33, Op.move (Operand.tmp 5), 2, "l05_sparse.go:62", #[], none⟩) rfl (by rfl) (by rfl) (fun w' hw' => ?_) ?_; rotate_left
            · go_simp <;> first | rfl | exact ⟨rfl, rfl⟩
            simp only [Act.put, List.setIfInBounds_toArray, List.set_cons_zero, List.set_cons_succ]
            refine' wpT_det (o := ⟨some 34, Op.move (Operand.tmp 0), 75, "l05_sparse.go:62", #[], none⟩) rfl (by rfl) (by rfl) (fun w' hw' => ?_) ?_; rotate_left
            · go_simp <;> first | rfl | exact ⟨rfl, rfl⟩
            simp only [Act.put, List.setIfInBounds_toArray, List.set_cons_zero, List.set_cons_succ]
            refine' wpT_det (o := ⟨some 35, Op.nilCheck (Operand.tmp 34), 0, "l05_sparse.go:62", #[{ on := 5, ground := Ground.data }], none⟩) rfl (by rfl) (by rfl) (fun w' hw' => ?_) ?_; rotate_left
            · go_simp <;> first | rfl | exact ⟨rfl, rfl⟩
            simp only [Act.put, List.setIfInBounds_toArray, List.set_cons_zero, List.set_cons_succ]
            refine' wpT_det (o := ⟨some 36, Op.fieldAddr 71 (Operand.tmp 35) 0, 0, "l05_sparse.go:62", #[{ on := 6, ground := Ground.data }], none⟩) rfl (by rfl) (by rfl) (fun w' hw' => ?_) ?_; rotate_left
            · go_simp <;> first | rfl | exact ⟨rfl, rfl⟩
            simp only [Act.put, List.setIfInBounds_toArray, List.set_cons_zero, List.set_cons_succ]
            refine' wpT_det (o := ⟨some 37, Op.load 2 (Operand.tmp 36), 2, "l05_sparse.go:62", #[{ on := 7, ground := Ground.data }], none⟩) rfl (by rfl) (by rfl) (fun w' hw' => ?_) ?_; rotate_left
            · have c0_ := Ext.cell hw' c0; have c1_ := Ext.cell hw' c1; have hd_ := Ext.cell hw' hd; go_simp <;> first | rfl | exact ⟨rfl, rfl⟩
            simp only [Act.put, List.setIfInBounds_toArray, List.set_cons_zero, List.set_cons_succ]
            refine' wpT_det (o := ⟨some 38, Op.binOp BinOp.mul 2 (Operand.tmp 33) (Operand.tmp 37) 2, 2, "l05_sparse.go:62", #[{ on := 4, ground := Ground.data }, { on := 8, ground := Ground.data }], none⟩) rfl (by rfl) (by rfl) (fun w' hw' => ?_) ?_; rotate_left
            · go_simp <;> first | rfl | exact ⟨rfl, rfl⟩
            simp only [Act.put, List.setIfInBounds_toArray, List.set_cons_zero, List.set_cons_succ]
            refine' wpT_det (o := ⟨some 39, Op.move (Operand.tmp 6), 2, "l05_sparse.go:62", #[], none⟩) rfl (by rfl) (by rfl) (fun w' hw' => ?_) ?_; rotate_left
            · go_simp <;> first | rfl | exact ⟨rfl, rfl⟩
            simp only [Act.put, List.setIfInBounds_toArray, List.set_cons_zero, List.set_cons_succ]
            refine' wpT_det (o := ⟨some 40, Op.binOp BinOp.add 2 (Operand.tmp 38) (Operand.tmp 39) 2, 2, "l05_sparse.go:62", #[{ on := 9, ground := Ground.data }, { on := 10, ground := Ground.data }], none⟩) rfl (by rfl) (by rfl) (fun w' hw' => ?_) ?_; rotate_left
            · go_simp <;> first | rfl | exact ⟨rfl, rfl⟩
            simp only [Act.put, List.setIfInBounds_toArray, List.set_cons_zero, List.set_cons_succ]
            refine' wpT_det (o := ⟨some 41, Op.indexAddr 69 (Operand.tmp 32) (Operand.tmp 40), 0, "l05_sparse.go:62", #[{ on := 3, ground := Ground.data }, { on := 11, ground := Ground.data }], none⟩) rfl (by rfl) (by rfl) (fun w' hw' => ?_) ?_; rotate_left
            · go_simp <;> first | rfl | exact ⟨rfl, rfl⟩
            simp only [Act.put, List.setIfInBounds_toArray, List.set_cons_zero, List.set_cons_succ]
            refine' wpT_det (o := ⟨some 42, Op.load 4 (Operand.tmp 41), 4, "l05_sparse.go:62", #[{ on := 12, ground := Ground.data }], none⟩) rfl (by rfl) (by rfl) (fun w' hw' => ?_) ?_; rotate_left
            · have c0_ := Ext.cell hw' c0; have c1_ := Ext.cell hw' c1; have hd_ := Ext.cell hw' hd; go_simp <;> first | rfl | exact ⟨rfl, rfl⟩
            simp only [Act.put, List.setIfInBounds_toArray, List.set_cons_zero, List.set_cons_succ]
            refine wpT_nil (fun w' hw' hF => ?_)
            refine wpList_nil ?_
            go_wp2_with fail
            go_roundw
            case rel => exact ⟨k + 1, by omega, by go_num, by rw [clC_no hlk hm, clV_no hlk hm]; exact hst.ext hw'.undrew⟩
            case measure => simp [intOf]; omega
          | some v =>
            rw [hm] at hd
            simp only [Option.isSome_some] at hd
            go_wp2_with fail
            refine wp_region_T (cs := []) [0, 1, 2, 3, 4, 5, 6, 7, 8, 9, 10, 11, 12, 13] [] [] [] (fun _ _ => False) (fun _ _ _ => True) (by kernel_rfl) (by kernel_rfl) (fun _ _ _ _ _ _ => trivial) ?_
            refine' wpT_det (o := ⟨some 29, Op.move (Operand.tmp 0), 75, "l05_sparse.go:62", #[], none⟩) rfl (by rfl) (by rfl) (fun w' hw' => ?_) ?_; rotate_left
            · go_simp <;> first | rfl | exact ⟨rfl, rfl⟩
            simp only [Act.put, List.setIfInBounds_toArray, List.set_cons_zero, List.set_cons_succ]
            refine' wpT_det (o := ⟨some 30, Op.nilCheck (Operand.tmp 29), 0, "l05_sparse.go:62", #[{ on := 0, ground := Ground.data }], none⟩) rfl (by rfl) (by rfl) (fun w' hw' => ?_) ?_; rotate_left
            · go_simp <;> first | rfl | exact ⟨rfl, rfl⟩
            simp only [Act.put, List.setIfInBounds_toArray, List.set_cons_zero, List.set_cons_succ]
            refine' wpT_det (o := ⟨some 31, Op.fieldAddr 71 (Operand.tmp 30) 1, 0, "l05_sparse.go:62", #[{ on := 1, ground := Ground.data }], none⟩) rfl (by rfl) (by rfl) (fun w' hw' => ?_) ?_; rotate_left
            · go_simp <;> first | rfl | exact ⟨rfl, rfl⟩
            simp only [Act.put, List.setIfInBounds_toArray, List.set_cons_zero, List.set_cons_succ]
            refine' wpT_det (o := ⟨some 32, Op.load 69 (Operand.tmp 31), 69, "l05_sparse.go:62", #[{ on := 2, ground := Ground.data }], none⟩) rfl (by rfl) (by rfl) (fun w' hw' => ?_) ?_; rotate_left
            · have c0_ := Ext.cell hw' c0; have c1_ := Ext.cell hw' c1; have hd_ := Ext.cell hw' hd; go_simp <;> first | rfl | exact ⟨rfl, rfl⟩
            simp only [Act.put, List.setIfInBounds_toArray, List.set_cons_zero, List.set_cons_succ]
            refine' wpT_det (o := ⟨some 33, Op.move (Operand.tmp 5), 2, "l05_sparse.go:62", #[], none⟩) rfl (by rfl) (by rfl) (fun w' hw' => ?_) ?_; rotate_left
            · go_simp <;> first | rfl | exact ⟨rfl, rfl⟩
            simp only [Act.put, List.setIfInBounds_toArray, List.set_cons_zero, List.set_cons_succ]
            refine' wpT_det (o := ⟨some 34, Op.move (Operand.tmp 0), 75, "l05_sparse.go:62", #[], none⟩) rfl (by rfl) (by rfl) (fun w' hw' => ?_) ?_; rotate_left
            · go_simp <;> first | rfl | exact ⟨rfl, rfl⟩
            simp only [Act.put, List.setIfInBounds_toArray, List.set_cons_zero, List.set_cons_succ]
            refine' wpT_det (o := ⟨some 35, Op.nilCheck (Operand.tmp 34), 0, "l05_sparse.go:62", #[{ on := 5, ground := Ground.data }], none⟩) rfl (by rfl) (by rfl) (fun w' hw' => ?_) ?_; rotate_left
            · go_simp <;> first | rfl | exact ⟨rfl, rfl⟩
            simp only [Act.put, List.setIfInBounds_toArray, List.set_cons_zero, List.set_cons_succ]
            refine' wpT_det (o := ⟨some 36, Op.fieldAddr 71 (Operand.tmp 35) 0, 0, "l05_sparse.go:62", #[{ on := 6, ground := Ground.data }], none⟩) rfl (by rfl) (by rfl) (fun w' hw' => ?_) ?_; rotate_left
            · go_simp <;> first | rfl | exact ⟨rfl, rfl⟩
            simp only [Act.put, List.setIfInBounds_toArray, List.set_cons_zero, List.set_cons_succ]
            refine' wpT_det (o := ⟨some 37, Op.load 2 (Operand.tmp 36), 2, "l05_sparse.go:62", #[{ on := 7, ground := Ground.data }], none⟩) rfl (by rfl) (by rfl) (fun w' hw' => ?_) ?_; rotate_left
            · have c0_ := Ext.cell hw' c0; have c1_ := Ext.cell hw' c1; have hd_ := Ext.cell hw' hd; go_simp <;> first | rfl | exact ⟨rfl, rfl⟩
            simp only [Act.put, List.setIfInBounds_toArray, List.set_cons_zero, List.set_cons_succ]
            refine' wpT_det (o := ⟨some 38, Op.binOp BinOp.mul 2 (Operand.tmp 33) (Operand.tmp 37) 2, 2, "l05_sparse.go:62", #[{ on := 4, ground := Ground.data }, { on := 8, ground := Ground.data }], none⟩) rfl (by rfl) (by rfl) (fun w' hw' => ?_) ?_; rotate_left
            · go_simp <;> first | rfl | exact ⟨rfl, rfl⟩
            simp only [Act.put, List.setIfInBounds_toArray, List.set_cons_zero, List.set_cons_succ]
            refine' wpT_det (o := ⟨some 39, Op.move (Operand.tmp 6), 2, "l05_sparse.go:62", #[], none⟩) rfl (by rfl) (by rfl) (fun w' hw' => ?_) ?_; rotate_left
            · go_simp <;> first | rfl | exact ⟨rfl, rfl⟩
            simp only [Act.put, List.setIfInBounds_toArray, List.set_cons_zero, List.set_cons_succ]
            refine' wpT_det (o := ⟨some 40, Op.binOp BinOp.add 2 (Operand.tmp 38) (Operand.tmp 39) 2, 2, "l05_sparse.go:62", #[{ on := 9, ground := Ground.data }, { on := 10, ground := Ground.data }], none⟩) rfl (by rfl) (by rfl) (fun w' hw' => ?_) ?_; rotate_left
            · go_simp <;> first | rfl | exact ⟨rfl, rfl⟩
            simp only [Act.put, List.setIfInBounds_toArray, List.set_cons_zero, List.set_cons_succ]
            refine' wpT_det (o := ⟨some 41, Op.indexAddr 69 (Operand.tmp 32) (Operand.tmp 40), 0, "l05_sparse.go:62", #[{ on := 3, ground := Ground.data }, { on := 11, ground := Ground.data }], none⟩) rfl (by rfl) (by rfl) (fun w' hw' => ?_) ?_; rotate_left
            · go_simp <;> first | rfl | exact ⟨rfl, rfl⟩
            simp only [Act.put, List.setIfInBounds_toArray, List.set_cons_zero, List.set_cons_succ]
            refine' wpT_det (o := ⟨some 42, Op.load 4 (Operand.tmp 41), 4, "l05_sparse.go:62", #[{ on := 12, ground := Ground.data }], none⟩) rfl (by rfl) (by rfl) (fun w' hw' => ?_) ?_; rotate_left
            · have c0_ := Ext.cell hw' c0; have c1_ := Ext.cell hw' c1; have hd_ := Ext.cell hw' hd; go_simp <;> first | rfl | exact ⟨rfl, rfl⟩
            simp only [Act.put, List.setIfInBounds_toArray, List.set_cons_zero, List.set_cons_succ]
            refine wpT_nil (fun w' hw' hF => ?_)
            refine wpList_nil ?_
            replace hst := hst.ext hw'.undrew
            clear hF hw' c0 c1 hd xB
            rename World => w6
            obtain ⟨ss, hss⟩ : ∃ ss, ss = clS n M i := ⟨_, rfl⟩
            obtain ⟨cs, hcs⟩ : ∃ cs, cs = clC n M (i * n + k) := ⟨_, rfl⟩
            obtain ⟨L, hL⟩ : ∃ L, L = clV n M (i * n + k) := ⟨_, rfl⟩
            have lc : cs.length ≤ 1024 := by rw [hcs, clC_length]; have := clQ_le n M (i * n + k); omega
            have lv : L.length ≤ 1024 := by rw [hL, clV_length]; have := clQ_le n M (i * n + k); omega
            have HC := Lib.hid hcs
            have HS := Lib.hid hss
            have HL := Lib.hid hL
            rw [← hss, ← hcs, ← hL] at hst
            clear hss hcs hL
            obtain ⟨A1, k1, B1, l1, V1, q1, vs, h0, h1, h2, h3, h4, h5, h6⟩ := hst
            have z2 : w6.cell? ⟨bs, 2, none⟩ = some (.slice B1 cs.length l1) := h1.cell 2 rfl
            have xg : Ext w6 (w6.alloc (.cells #[.int .i64 k] 2)) := (Ext.refl _).alloc _
            have hg : One (w6.alloc (.cells #[.int .i64 k] 2)) (.slice (some ⟨w6.heap.size, 0, none⟩) 1 1) (.int .i64 k) 2 := One.new _ _ _
            replace h1 := h1.ext xg
            replace h2 := h2.ext xg
            replace h3 := h3.ext xg
            replace h4 := h4.ext xg
            replace h6 := h6.trans xg
            clear xg
            have hsz := h6.size
            have hf := h1.free 2
            have hc := h1.cell 2 rfl
            go_upto_region 10 with (at_builtin; go_loud (refine wpList_app1 rfl _ _ _ rfl (w6.alloc (.cells #[.int .i64 k] 2)) w0.heap.size 2 (.int .i64 0) 8 Try.underlying22 info_i64 rfl (by decide) (.slice B1 cs.length l1) (ints cs) rfl w6.heap.size (.int .i64 k) rfl hg h3 rfl (by rw [ints_length]; omega) hsz ?_); rw [ints_length]; intro X c w9 h7 h8 h9; clear hf hc; have b1 := h1.wr h8 h3 (by decide); have hf := b1.free 2; have hq := b1.lt; have hc := b1.cell 2 rfl)
            have hst := CL.appC hle h1 h2 h3 h4 h5 h6 k h7 h8 h9
            rw [h0] at hst
            obtain ⟨w8, hw8⟩ : ∃ v : World, v = w9.setCell ⟨bs, 2, none⟩ (.slice X (cs.length + 1) c) := ⟨_, rfl⟩
            rw [← hw8] at hst ⊢
            clear hw8 h0 h1 h2 h3 h4 h5 h6 h7 h8 h9 b1 hf hc hq hg hsz
            obtain ⟨A1, k1, B1, l1, V1, q1, vs, h0, h1, h2, h3, h4, h5, h6⟩ := hst
            have xB := hx0.trans h6
            have c0 := xB.cell HA.out.c0
            have c2 := xB.cell HA.out.c2
            obtain ⟨adv, rfl, he⟩ := (HA.out.hv.below xB).fltN (i * n + k) i7
            have HX : Hid (c32 (rdf ys ((i * n + k : Nat) : Int)) = v) := by show _ = _; rw [nb_at HA.out.hy hlt hlk, hm]; rfl
            obtain ⟨x, hxv⟩ : ∃ x, x = rdf ys ((i * n + k : Nat) : Int) := ⟨_, rfl⟩
            rw [← hxv] at he HX
            have hlv : vs.length ≤ 1024 := by rw [← cfs_length, h0]; exact lv
            have z3 : w8.cell? ⟨bs, 3, none⟩ = some (.slice V1 vs.length q1) := h1.cell 3 rfl
            clear hxv
            refine wp_region_T (cs := []) [0, 1, 2, 3, 4, 5, 6, 7, 8, 9, 10, 11, 12, 13, 14, 15, 16] [17, 18, 19] [16] [] (fun i__ v => match i__ with | 16 => ∃ g, v = .slice (some ⟨g, 0, none⟩) 1 1 | _ => False) (fun i__ v w' => match i__ with | 16 => One w' v (.float .f32 x) 43 | _ => True) (by kernel_rfl) (by kernel_rfl) (by intro i v w' w2 h hx; revert h; (try dsimp only); split <;> intro h <;> first | trivial | exact One.ext h hx) ?_
            refine' wpT_det (o := ⟨some 49, Op.fieldAddr 27 (Operand.tmp 4) 3, 0, "l05_sparse.go:64", #[], none⟩) rfl (by rfl) (by rfl) (fun w' hw' => ?_) ?_; rotate_left
            · go_simp <;> first | rfl | exact ⟨rfl, rfl⟩
            simp only [Act.put, List.setIfInBounds_toArray, List.set_cons_zero, List.set_cons_succ]
            refine' wpT_det (o := ⟨some 50, Op.load 23 (Operand.tmp 49), 23, "l05_sparse.go:64", #[{ on := 0, ground := Ground.data }], none⟩) rfl (by rfl) (by rfl) (fun w' hw' => ?_) ?_; rotate_left
            · have z3_ := Ext.cell hw' z3; have c0_ := Ext.cell hw' c0; have c2_ := Ext.cell hw' c2; have he_ := Ext.cell hw' he; go_simp <;> first | rfl | exact ⟨rfl, rfl⟩
            simp only [Act.put, List.setIfInBounds_toArray, List.set_cons_zero, List.set_cons_succ]
            refine' wpT_det (o := ⟨some 51, Op.move (Operand.tmp 0), 75, "l05_sparse.go:64", #[], none⟩) rfl (by rfl) (by rfl) (fun w' hw' => ?_) ?_; rotate_left
            · go_simp <;> first | rfl | exact ⟨rfl, rfl⟩
            simp only [Act.put, List.setIfInBounds_toArray, List.set_cons_zero, List.set_cons_succ]
            refine' wpT_det (o := ⟨some 52, Op.nilCheck (Operand.tmp 51), 0, "l05_sparse.go:64", #[{ on := 2, ground := Ground.data }], none⟩) rfl (by rfl) (by rfl) (fun w' hw' => ?_) ?_; rotate_left
            · go_simp <;> first | rfl | exact ⟨rfl, rfl⟩
            simp only [Act.put, List.setIfInBounds_toArray, List.set_cons_zero, List.set_cons_succ]
            refine' wpT_det (o := ⟨some 53, Op.fieldAddr 71 (Operand.tmp 52) 2, 0, "l05_sparse.go:64", #[{ on := 3, ground := Ground.data }], none⟩) rfl (by rfl) (by rfl) (fun w' hw' => ?_) ?_; rotate_left
            · go_simp <;> first | rfl | exact ⟨rfl, rfl⟩
            simp only [Act.put, List.setIfInBounds_toArray, List.set_cons_zero, List.set_cons_succ]
            refine' wpT_det (o := ⟨some 54, Op.load 23 (Operand.tmp 53), 23, "l05_sparse.go:64", #[{ on := 4, ground := Ground.data }], none⟩) rfl (by rfl) (by rfl) (fun w' hw' => ?_) ?_; rotate_left
            · have z3_ := Ext.cell hw' z3; have c0_ := Ext.cell hw' c0; have c2_ := Ext.cell hw' c2; have he_ := Ext.cell hw' he; go_simp <;> first | rfl | exact ⟨rfl, rfl⟩
            simp only [Act.put, List.setIfInBounds_toArray, List.set_cons_zero, List.set_cons_succ]
            refine' wpT_det (o := ⟨some 55, Op.move (Operand.tmp 5), 2, "l05_sparse.go:64", #[], none⟩) rfl (by rfl) (by rfl) (fun w' hw' => ?_) ?_; rotate_left
            · go_simp <;> first | rfl | exact ⟨rfl, rfl⟩
            simp only [Act.put, List.setIfInBounds_toArray, List.set_cons_zero, List.set_cons_succ]
            refine' wpT_det (o := ⟨some 56, Op.move (Operand.tmp 0), 75, "l05_sparse.go:64", #[], none⟩) rfl (by rfl) (by rfl) (fun w' hw' => ?_) ?_; rotate_left
            · go_simp <;> first | rfl | exact ⟨rfl, rfl⟩
            simp only [Act.put, List.setIfInBounds_toArray, List.set_cons_zero, List.set_cons_succ]
            refine' wpT_det (o := ⟨some 57, Op.nilCheck (Operand.tmp 56), 0, "l05_sparse.go:64", #[{ on := 7, ground := Ground.data }], none⟩) rfl (by rfl) (by rfl) (fun w' hw' => ?_) ?_; rotate_left
            · go_simp <;> first | rfl | exact ⟨rfl, rfl⟩
            simp only [Act.put, List.setIfInBounds_toArray, List.set_cons_zero, List.set_cons_succ]
            refine' wpT_det (o := ⟨some 58, Op.fieldAddr 71 (Operand.tmp 57) 0, 0, "l05_sparse.go:64", #[{ on := 8, ground := Ground.data }], none⟩) rfl (by rfl) (by rfl) (fun w' hw' => ?_) ?_; rotate_left
            · go_simp <;> first | rfl | exact ⟨rfl, rfl⟩
            simp only [Act.put, List.setIfInBounds_toArray, List.set_cons_zero, List.set_cons_succ]
            refine' wpT_det (o := ⟨some 59, Op.load 2 (Operand.tmp 58), 2, "l05_sparse.go:64", #[{ on := 9, ground := Ground.data }], none⟩) rfl (by rfl) (by rfl) (fun w' hw' => ?_) ?_; rotate_left
            · have z3_ := Ext.cell hw' z3; have c0_ := Ext.cell hw' c0; have c2_ := Ext.cell hw' c2; have he_ := Ext.cell hw' he; go_simp <;> first | rfl | exact ⟨rfl, rfl⟩
            simp only [Act.put, List.setIfInBounds_toArray, List.set_cons_zero, List.set_cons_succ]
            refine' wpT_det (o := ⟨some 60, Op.binOp BinOp.mul 2 (Operand.tmp 55) (Operand.tmp 59) 2, 2, "l05_sparse.go:64", #[{ on := 6, ground := Ground.data }, { on := 10, ground := Ground.data }], none⟩) rfl (by rfl) (by rfl) (fun w' hw' => ?_) ?_; rotate_left
            · go_simp <;> first | rfl | exact ⟨rfl, rfl⟩
            simp only [Act.put, List.setIfInBounds_toArray, List.set_cons_zero, List.set_cons_succ]
            refine' wpT_det (o := ⟨some 61, Op.move (Operand.tmp 6), 2, "l05_sparse.go:64", #[], none⟩) rfl (by rfl) (by rfl) (fun w' hw' => ?_) ?_; rotate_left
            · go_simp <;> first | rfl | exact ⟨rfl, rfl⟩
            simp only [Act.put, List.setIfInBounds_toArray, List.set_cons_zero, List.set_cons_succ]
            refine' wpT_det (o := ⟨some 62, Op.binOp BinOp.add 2 (Operand.tmp 60) (Operand.tmp 61) 2, 2, "l05_sparse.go:64", #[{ on := 11, ground := Ground.data }, { on := 12, ground := Ground.data }], none⟩) rfl (by rfl) (by rfl) (fun w' hw' => ?_) ?_; rotate_left
            · go_simp <;> first | rfl | exact ⟨rfl, rfl⟩
            simp only [Act.put, List.setIfInBounds_toArray, List.set_cons_zero, List.set_cons_succ]
            refine' wpT_det (o := ⟨some 63, Op.indexAddr 23 (Operand.tmp 54) (Operand.tmp 62), 0, "l05_sparse.go:64", #[{ on := 5, ground := Ground.data }, { on := 13, ground := Ground.data }], none⟩) rfl (by rfl) (by rfl) (fun w' hw' => ?_) ?_; rotate_left
            · go_simp <;> first | rfl | exact ⟨rfl, rfl⟩
            simp only [Act.put, List.setIfInBounds_toArray, List.set_cons_zero, List.set_cons_succ]
            refine' wpT_det (o := ⟨some 64, Op.load 43 (Operand.tmp 63), 43, "l05_sparse.go:64", #[{ on := 14, ground := Ground.data }], none⟩) rfl (by rfl) (by rfl) (fun w' hw' => ?_) ?_; rotate_left
            · have z3_ := Ext.cell hw' z3; have c0_ := Ext.cell hw' c0; have c2_ := Ext.cell hw' c2; have he_ := Ext.cell hw' he; go_simp <;> first | rfl | exact ⟨rfl, rfl⟩
            simp only [Act.put, List.setIfInBounds_toArray, List.set_cons_zero, List.set_cons_succ]
            refine wpT_nd (o := ⟨some 65, Op.buildSlice 23 1 #[(0, Operand.tmp 64)], 23, "l05_sparse.go:64", #[{ on := 15, ground := Ground.data }], none⟩) rfl (by rfl) (by rfl) (fun w' hw' hF R__ hGo => ?_) ⟨_, 0, rfl⟩ ?_
            · go_simp; exact gives_value rfl (hGo _ _ ((Ext.refl _).alloc _) ⟨_, rfl⟩ (One.new _ _ _))
            rintro _ ⟨g9, rfl⟩
            simp only [Act.put, List.setIfInBounds_toArray, List.set_cons_zero, List.set_cons_succ]
            refine wpT_nil (fun w4 hw' hF => ?_)
            show wpList _ _ _ [(⟨some 66, Op.call { callee := Callee.builtin Builtin.append, args := #[Operand.tmp 50, Operand.tmp 65], argTypes := #[23, 23] }, 23, "l05_sparse.go:64", #[{ on := 1, ground := Ground.data }, { on := 16, ground := Ground.data }], none⟩ : Oper), (⟨some 67, Op.fieldAddr 27 (Operand.tmp 4) 3, 0, "l05_sparse.go:64", #[{ on := 0, ground := Ground.phase }, { on := 1, ground := Ground.phase }, { on := 2, ground := Ground.phase }, { on := 3, ground := Ground.phase }, { on := 4, ground := Ground.phase }, { on := 5, ground := Ground.phase }, { on := 6, ground := Ground.phase }, { on := 7, ground := Ground.phase }, { on := 8, ground := Ground.phase }, { on := 9, ground := Ground.phase }, { on := 10, ground := Ground.phase }, { on := 11, ground := Ground.phase }, { on := 12, ground := Ground.phase }, { on := 13, ground := Ground.phase }, { on := 14, ground := Ground.phase }, { on := 15, ground := Ground.phase }, { on := 16, ground := Ground.phase }, { on := 17, ground := Ground.phase }], none⟩ : Oper), (⟨none, Op.store 23 (Operand.tmp 67) (Operand.tmp 66), 0, "l05_sparse.go:64", #[{ on := 18, ground := Ground.data }, { on := 17, ground := Ground.data }, { on := 17, ground := Ground.chain }, { on := 0, ground := Ground.phase }, { on := 1, ground := Ground.phase }, { on := 2, ground := Ground.phase }, { on := 3, ground := Ground.phase }, { on := 4, ground := Ground.phase }, { on := 5, ground := Ground.phase }, { on := 6, ground := Ground.phase }, { on := 7, ground := Ground.phase }, { on := 8, ground := Ground.phase }, { on := 9, ground := Ground.phase }, { on := 10, ground := Ground.phase }, { on := 11, ground := Ground.phase }, { on := 12, ground := Ground.phase }, { on := 13, ground := Ground.phase }, { on := 14, ground := Ground.phase }, { on := 15, ground := Ground.phase }, { on := 16, ground := Ground.phase }, { on := 17, ground := Ground.phase }], none⟩ : Oper)] _ _
            have hg : One w4 (.slice (some ⟨g9, 0, none⟩) 1 1) (.float .f32 x) 43 := hF 16 _ rfl
            have hx := hw'.undrew
            clear hF hw' c0 c2 he z3
            replace h1 := h1.ext hx
            replace h2 := h2.ext hx
            replace h3 := h3.ext hx
            replace h4 := h4.ext hx
            replace h6 := h6.trans hx
            clear hx
            have hsz := h6.size
            have hf := h1.free 3
            have hc := h1.cell 3 rfl
            go_wp2_with (at_builtin; go_loud (refine wpList_app1 rfl _ _ _ rfl w4 w0.heap.size 43 (.float .f32 0) 4 Try.underlying23 info_f32 rfl (by decide) (.slice V1 vs.length q1) (flts vs) rfl g9 (.float .f32 x) rfl hg h4 rfl (by rw [flts_length]; omega) hsz ?_); rw [flts_length]; intro X c w9 h7 h8 h9; clear hf hc; have b1 := h1.wr h8 h4 (by decide); have hf := b1.free 3; have hq := b1.lt; have hc := b1.cell 3 rfl)
            have hst := CL.appV hle h1 h2 h3 h4 h5 h6 x h7 h8
            rw [h0, HX.out, HL.out, HC.out, HS.out, ← clC_yes hlk hm, ← clV_yes hlk hm] at hst
            go_roundw
            case rel => exact ⟨k + 1, by omega, by go_num, hst⟩
            case measure => simp [intOf]; omega
        · obtain rfl : k = n := by omega
          obtain ⟨ss, hss⟩ : ∃ ss, ss = clS k M i := ⟨_, rfl⟩
          obtain ⟨cs, hcs⟩ : ∃ cs, cs = clC k M (i * k + k) := ⟨_, rfl⟩
          obtain ⟨L, hL⟩ : ∃ L, L = clV k M (i * k + k) := ⟨_, rfl⟩
          have hNi : i * k + k ≤ N := by rw [HN.out, ← Nat.succ_mul]; exact Nat.mul_le_mul_right _ hlt
          have lc : cs.length ≤ 1024 := by rw [hcs, clC_length]; have := clQ_le k M (i * k + k); omega
          have ls : ss.length ≤ 1024 := by rw [hss, clS_length]; omega
          have HC := Lib.hid hcs
          have HS := Lib.hid hss
          have HL := Lib.hid hL
          rw [← hss, ← hcs, ← hL] at hst
          clear hss hcs hL hNi
          obtain ⟨A1, k1, B1, l1, V1, q1, vs, h0, h1, h2, h3, h4, h5, h6⟩ := hst
          have z1 : wB.cell? ⟨bs, 1, none⟩ = some (.slice A1 ss.length k1) := h1.cell 1 rfl
          have z2 : wB.cell? ⟨bs, 2, none⟩ = some (.slice B1 cs.length l1) := h1.cell 2 rfl
          have xg : Ext wB (wB.alloc (.cells #[.int .i64 cs.length] 2)) := (Ext.refl _).alloc _
          have hg : One (wB.alloc (.cells #[.int .i64 cs.length] 2)) (.slice (some ⟨wB.heap.size, 0, none⟩) 1 1) (.int .i64 cs.length) 2 := One.new _ _ _
          replace h1 := h1.ext xg
          replace h2 := h2.ext xg
          replace h3 := h3.ext xg
          replace h4 := h4.ext xg
          replace h6 := h6.trans xg
          clear xg
          have hsz := h6.size
          have hf := h1.free 1
          have hc := h1.cell 1 rfl
          go_wp2_with (at_builtin; go_loud (refine wpList_app1 rfl _ _ _ rfl (wB.alloc (.cells #[.int .i64 cs.length] 2)) w0.heap.size 2 (.int .i64 0) 8 Try.underlying22 info_i64 rfl (by decide) (.slice A1 ss.length k1) (ints ss) rfl wB.heap.size (.int .i64 cs.length) rfl hg h2 rfl (by rw [ints_length]; omega) hsz ?_); rw [ints_length]; intro X c w9 h7 h8 h9; clear hf hc; have b1 := h1.wr h8 h2 (by decide); have hf := b1.free 1; have hq := b1.lt; have hc := b1.cell 1 rfl)
          have hst := CL.appS hle h1 h2 h3 h4 h5 h6 cs.length h7 h8 h9
          have hcl : ((cs.length : Nat) : Int) = ((clQ k M (i * k + k)).length : Int) := by rw [HC.out, clC_length]
          obtain ⟨R, hR⟩ : ∃ R : World, R = w9.setCell ⟨bs, 1, none⟩ (.slice X (ss.length + 1) c) := ⟨_, rfl⟩
          rw [← hR] at hst
          rw [h0, HL.out, hcl, HC.out, HS.out, ← clS_next, ← Nat.succ_mul] at hst
          rw [hR] at hst
          clear hR
          go_roundw
          case rel => exact ⟨i + 1, by omega, by go_num, hst⟩
          case measure => simp [intOf]; omega
    · obtain rfl : i = n := by omega
      obtain ⟨A1, k1, B1, l1, V1, q1, vs, h0, h1, h2, h3, h4, h5, h6⟩ := hst
      have z0 := xA.cell HA.out.c0
      go_wp2_with fail
      refine (l05Is_any bs i A1 (clS i M i).length k1 B1 (clC i M (i * i)).length l1 V1 vs.length q1 (clS i M i) (clC i M (i * i)) vs _ (SAt.of h1 h2.reads h3.reads h4.reads)).mono ?_
      rintro e w3 ⟨rfl, hx⟩
      replace h1 := h1.ext hx
      replace h2 := h2.ext hx
      replace h3 := h3.ext hx
      replace h4 := h4.ext hx
      replace h6 := h6.trans hx
      clear hx z0 c0 xA
      replace b0 := b0.ext h6
      have hle0 : w.heap.size ≤ w0.heap.size := hx0.size
      replace hx0 := hx0.trans h6
      have y0 := b0.cell 0 rfl
      have y1 := b0.cell 1 rfl
      have y2 := b0.cell 2 rfl
      have y3 := b0.cell 3 rfl
      have f0 := b0.free 0
      have f1 := b0.free 1
      have f2 := b0.free 2
      have f3 := b0.free 3
      have hq0 := b0.lt
      cases hs : isSp i (clS i M i) (clC i M (i * i)) vs with
      | false =>
        have hd := giveSp_bad h0 hs
        clear h0 h1 h2 h3 h4 h5
        go_wp2_with fail
        have d0 := b0.set 0 (.int .i64 0)
        have d1 := d0.set 1 (.slice none 0 0)
        have d2 := d1.set 2 (.slice none 0 0)
        have d3 := d2.set 3 (.slice none 0 0)
        have x2 := ((((hx0.set (p := ⟨w.heap.size, 0, none⟩) (Nat.le_refl _) (.int .i64 0)).set (p := ⟨w.heap.size, 1, none⟩) (Nat.le_refl _) (.slice none 0 0)).set (p := ⟨w.heap.size, 2, none⟩) (Nat.le_refl _) (.slice none 0 0)).set (p := ⟨w.heap.size, 3, none⟩) (Nat.le_refl _) (.slice none 0 0))
        have r0 := d3.cell 0 rfl
        have r1 := d3.cell 1 rfl
        have r2 := d3.cell 2 rfl
        have r3 := d3.cell 3 rfl
        refine bodyPost_ret (v := .tuple #[.agg #[.int .i64 0, .slice none 0 0, .slice none 0 0, .slice none 0 0], .bool false]) (by simp only [results, Try.results74]; simp [go_sem, r0, r1, r2, r3]) rfl (RetSqB.bad hd rfl x2)
      | true =>
        have hd := giveSp_good h0 hs
        have s0 := h1.cell 0 rfl
        have s1 := h1.cell 1 rfl
        have s2 := h1.cell 2 rfl
        have s3 := h1.cell 3 rfl
        have Hd := Lib.hid hd
        clear hd h0
        go_wp2_with fail
        have d0 := b0.set 0 (.int .i64 i)
        have d1 := d0.set 1 (.slice A1 (clS i M i).length k1)
        have d2 := d1.set 2 (.slice B1 (clC i M (i * i)).length l1)
        have d3 := d2.set 3 (.slice V1 vs.length q1)
        have p1 := ((((h2.setBlk b0 (by decide) 0 (.int .i64 i)).setBlk d0 (by decide) 1 (.slice A1 (clS i M i).length k1)).setBlk d1 (by decide) 2 (.slice B1 (clC i M (i * i)).length l1)).setBlk d2 (by decide) 3 (.slice V1 vs.length q1))
        have p2 := ((((h3.setBlk b0 (by decide) 0 (.int .i64 i)).setBlk d0 (by decide) 1 (.slice A1 (clS i M i).length k1)).setBlk d1 (by decide) 2 (.slice B1 (clC i M (i * i)).length l1)).setBlk d2 (by decide) 3 (.slice V1 vs.length q1))
        have p3 := ((((h4.setBlk b0 (by decide) 0 (.int .i64 i)).setBlk d0 (by decide) 1 (.slice A1 (clS i M i).length k1)).setBlk d1 (by decide) 2 (.slice B1 (clC i M (i * i)).length l1)).setBlk d2 (by decide) 3 (.slice V1 vs.length q1))
        have x2 := ((((hx0.set (p := ⟨w.heap.size, 0, none⟩) (Nat.le_refl _) (.int .i64 i)).set (p := ⟨w.heap.size, 1, none⟩) (Nat.le_refl _) (.slice A1 (clS i M i).length k1)).set (p := ⟨w.heap.size, 2, none⟩) (Nat.le_refl _) (.slice B1 (clC i M (i * i)).length l1)).set (p := ⟨w.heap.size, 3, none⟩) (Nat.le_refl _) (.slice V1 vs.length q1))
        have r0 := d3.cell 0 rfl
        have r1 := d3.cell 1 rfl
        have r2 := d3.cell 2 rfl
        have r3 := d3.cell 3 rfl
        refine bodyPost_ret (v := .tuple #[.agg #[.int .i64 i, .slice A1 (clS i M i).length k1, .slice B1 (clC i M (i * i)).length l1, .slice V1 vs.length q1], .bool true]) (by simp only [results, Try.results74]; simp [go_sem, r0, r1, r2, r3]) rfl ?_
        rw [Hd.out]
        exact ⟨A1, k1, B1, l1, V1, q1, rfl, p1.base hle0, p2.base hle0, p3.base hle0, h5, p1.apart p3 (by decide), p2.apart p3 (by decide), x2⟩

end Go.Proofs.Ytkifpligpobiaaa
