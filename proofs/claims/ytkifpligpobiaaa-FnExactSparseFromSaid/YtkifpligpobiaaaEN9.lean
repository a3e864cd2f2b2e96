
/- SparseFrom, the reference. -/

import Derived.Test.YtkifpligpobiaaaEN7

import Derived.Test.YtkifpligpobiaaaQ4

import Derived.Test.YtkifpligpobiaaaQ2
set_option linter.unusedVariables false
set_option linter.unusedSimpArgs false

namespace Go.Proofs.Ytkifpligpobiaaa

open Go.RowKit


set_option maxRecDepth 20000 in
set_option maxHeartbeats 8000000 in
theorem specSparseFrom_any (sd : Int) (A : Option Addr) (n cA : Nat) (es : List Ent) (w : World) (hr : RdsE w A n es) :
    Calls Try.prog 52 #[.int .i64 sd, .slice A n cA] w (RetSqB w (fromD sd es)) := by
  have HL := Lib.hid hr.len
  cases h1 : inR 1 sd 32 with
  | false =>
    have hd : fromD sd es = SD.bad := fromD_side h1
    go_enter Try.func52, Try.ntmps52
    go_upto_region 1 with (fail)
    obtain ⟨w1, hw1⟩ : ∃ w1 : World, w1 = w.alloc (.cells #[.int .i64 0, .slice none 0 0, .slice none 0 0, .slice none 0 0] 27) := ⟨_, rfl⟩
    have hx0 : Ext w w1 := by rw [hw1]; exact (Ext.refl _).alloc _
    have b1 : Blk w1 w.heap.size #[.int .i64 0, .slice none 0 0, .slice none 0 0, .slice none 0 0] 27 := by rw [hw1]; exact Blk.new _ _ _
    rw [← hw1]
    clear hw1
    go_wp2_with fail
    refine (l00In_any _ _ _ _).mono ?_
    rintro e w2 ⟨rfl, rfl⟩
    rw [h1]
    have y0 := b1.cell 0 rfl
    have y1 := b1.cell 1 rfl
    have y2 := b1.cell 2 rfl
    have y3 := b1.cell 3 rfl
    have f0 := b1.free 0
    have f1 := b1.free 1
    have f2 := b1.free 2
    have f3 := b1.free 3
    have hq0 := b1.lt
    go_wp2_with fail
    have d0 := b1.set 0 (.int .i64 0)
    have d1 := d0.set 1 (.slice none 0 0)
    have d2 := d1.set 2 (.slice none 0 0)
    have d3 := d2.set 3 (.slice none 0 0)
    have x2 := ((((hx0.set (p := ⟨w.heap.size, 0, none⟩) (by simp; try omega) (.int .i64 0)).set (p := ⟨w.heap.size, 1, none⟩) (by simp; try omega) (.slice none 0 0)).set (p := ⟨w.heap.size, 2, none⟩) (by simp; try omega) (.slice none 0 0)).set (p := ⟨w.heap.size, 3, none⟩) (by simp; try omega) (.slice none 0 0))
    have r0 := d3.cell 0 rfl
    have r1 := d3.cell 1 rfl
    have r2 := d3.cell 2 rfl
    have r3 := d3.cell 3 rfl
    refine bodyPost_ret (v := .tuple #[.agg #[.int .i64 0, .slice none 0 0, .slice none 0 0, .slice none 0 0], .bool false]) (by simp only [results, Try.results52]; simp [go_sem, r0, r1, r2, r3]) rfl (RetSqB.bad hd rfl x2)
  | true =>
    have hb := inR_iff.1 h1
    obtain ⟨N, rfl⟩ : ∃ N : Nat, sd = N := ⟨sd.toNat, by omega⟩
    have hn1 : 1 ≤ N := by omega
    have hn32 : N ≤ 32 := by omega
    by_cases hlen : n ≤ 512
    rotate_left
    · have hgt : decide ((512 : Int) < n) = true := by simp; omega
      have hgt' : (512 : Int) < n := by omega
      have hd : fromD N es = SD.bad := fromD_long (by rw [HL.out]; exact hlen)
      go_enter Try.func52, Try.ntmps52
      go_upto_region 1 with (fail)
      obtain ⟨w1, hw1⟩ : ∃ w1 : World, w1 = w.alloc (.cells #[.int .i64 0, .slice none 0 0, .slice none 0 0, .slice none 0 0] 27) := ⟨_, rfl⟩
      have hx0 : Ext w w1 := by rw [hw1]; exact (Ext.refl _).alloc _
      have b1 : Blk w1 w.heap.size #[.int .i64 0, .slice none 0 0, .slice none 0 0, .slice none 0 0] 27 := by rw [hw1]; exact Blk.new _ _ _
      rw [← hw1]
      clear hw1
      go_wp2_with fail
      refine (l00In_any _ _ _ _).mono ?_
      rintro e w2 ⟨rfl, rfl⟩
      rw [h1]
      have y0 := b1.cell 0 rfl
      have y1 := b1.cell 1 rfl
      have y2 := b1.cell 2 rfl
      have y3 := b1.cell 3 rfl
      have f0 := b1.free 0
      have f1 := b1.free 1
      have f2 := b1.free 2
      have f3 := b1.free 3
      have hq0 := b1.lt
      go_wp2_with fail
      have d0 := b1.set 0 (.int .i64 0)
      have d1 := d0.set 1 (.slice none 0 0)
      have d2 := d1.set 2 (.slice none 0 0)
      have d3 := d2.set 3 (.slice none 0 0)
      have x2 := ((((hx0.set (p := ⟨w.heap.size, 0, none⟩) (by simp; try omega) (.int .i64 0)).set (p := ⟨w.heap.size, 1, none⟩) (by simp; try omega) (.slice none 0 0)).set (p := ⟨w.heap.size, 2, none⟩) (by simp; try omega) (.slice none 0 0)).set (p := ⟨w.heap.size, 3, none⟩) (by simp; try omega) (.slice none 0 0))
      have r0 := d3.cell 0 rfl
      have r1 := d3.cell 1 rfl
      have r2 := d3.cell 2 rfl
      have r3 := d3.cell 3 rfl
      refine bodyPost_ret (v := .tuple #[.agg #[.int .i64 0, .slice none 0 0, .slice none 0 0, .slice none 0 0], .bool false]) (by simp only [results, Try.results52]; simp [go_sem, r0, r1, r2, r3]) rfl (RetSqB.bad hd rfl x2)
    · have hgt : ¬ (512 : Int) < n := by omega
      obtain ⟨D, hD⟩ : ∃ D, D = fromD N es := ⟨_, rfl⟩
      rw [← hD]
      have HD := Lib.hid hD
      have HI := Lib.hid h1
      have gs : IntKind.i64.wrap ((N : Int) - 1) = (N : Int) - 1 := IntWalk.i64_in _ (by omega)
      clear hD hb
      obtain ⟨NN, hNN⟩ : ∃ NN, NN = N * N := ⟨_, rfl⟩
      have HN := Lib.hid hNN
      have hNN1 : 1 ≤ NN := by rw [hNN]; exact Nat.mul_pos hn1 hn1
      have hNN2 : NN ≤ 1024 := by rw [hNN]; exact Nat.mul_le_mul hn32 hn32
      clear hNN
      go_enter Try.func52, Try.ntmps52
      go_upto_region 1 with (fail)
      obtain ⟨w1, hw1⟩ : ∃ w1 : World, w1 = w.alloc (.cells #[.int .i64 0, .slice none 0 0, .slice none 0 0, .slice none 0 0] 27) := ⟨_, rfl⟩
      have hx0 : Ext w w1 := by rw [hw1]; exact (Ext.refl _).alloc _
      have b1 : Blk w1 w.heap.size #[.int .i64 0, .slice none 0 0, .slice none 0 0, .slice none 0 0] 27 := by rw [hw1]; exact Blk.new _ _ _
      rw [← hw1]
      clear hw1
      go_wp2_with fail
      refine (l00In_any _ _ _ _).mono ?_
      rintro e w2 ⟨rfl, rfl⟩
      rw [HI.out]
      go_wp2_with fail
      refine (l05Blank_any N hn32 _).mono ?_
      rintro e w3 ⟨T, k2, U, q2, ys, rfl, hy, o1, o2, hx⟩
      rw [← HN.out] at o1 o2
      rw [← HN.out]
      go_upto_region 4 with (fail)
      have hst : FU w1 w3.heap.size N NN (frmM es 0) (frmM es 0) (w3.alloc (.cells #[.int .i64 N, .slice T NN k2, .slice U NN q2] 71)) :=
        ⟨T, k2, U, q2, ys, hy, Blk.new _ _ _, o1.ext ((Ext.refl _).alloc _), o2.ext ((Ext.refl _).alloc _), hx.alloc _⟩
      obtain ⟨w4, hw4⟩ : ∃ v : World, v = w3.alloc (.cells #[.int .i64 N, .slice T NN k2, .slice U NN q2] 71) := ⟨_, rfl⟩
      obtain ⟨fb, hfb⟩ : ∃ fb, fb = w3.heap.size := ⟨_, rfl⟩
      rw [← hw4, ← hfb] at hst
      rw [← hw4, ← hfb]
      clear hw4 hfb o1 o2 hx hy h1
      go_wp2_with fail
      go_loopw [23] (fun u wr => ∃ k : Nat, k ≤ n ∧ u = .int .i64 k ∧ FU w1 fb N NN (frmM es k) (frmM es k) wr ∧ Hid (∀ j, j < k → entOk N (rdE es j) = true)) (fun u _ => n - (intOf u).toNat)
      case atStart => exact ⟨0, Nat.zero_le _, rfl, hst, fun j hj => absurd hj (Nat.not_lt_zero _)⟩
      case round =>
        rename World => wA
        clear hst
        obtain ⟨k, hk, rfl, hst, HO⟩ := hrel
        have xA : Ext w1 wA := by obtain ⟨_, _, _, _, _, _, _, _, _, h4⟩ := hst; exact h4
        by_cases hlt : k < n
        · have g1 : IntKind.i64.wrap ((k : Int) + 1) = (k : Int) + 1 := IntWalk.i64_in _ (by omega)
          obtain ⟨ad, rfl, hc0, hc1, hc2⟩ := (hr.below (hx0.trans xA)).ent k hlt
          obtain ⟨⟨r, c, x⟩, he⟩ : ∃ e, e = rdE es k := ⟨_, rfl⟩
          rw [← he] at hc0 hc1 hc2
          dsimp only at hc0 hc1 hc2
          have HE := Lib.hid he
          clear he
          cases e1 : inR 0 r ((N : Int) - 1) with
          | false =>
            go_wp2_with fail
            refine (l00In_any _ _ _ _).mono ?_
            rintro e w2 ⟨rfl, rfl⟩
            rw [e1]
            have hd : D = SD.bad := by rw [HD.out]; exact fromD_ent (k := k) (by rw [HL.out]; exact hlt) (by rw [← HE.out]; exact entOk_1 e1)
            replace hx0 := hx0.trans xA
            replace b1 := b1.ext xA
            clear xA hst
            have y0 := b1.cell 0 rfl
            have y1 := b1.cell 1 rfl
            have y2 := b1.cell 2 rfl
            have y3 := b1.cell 3 rfl
            have f0 := b1.free 0
            have f1 := b1.free 1
            have f2 := b1.free 2
            have f3 := b1.free 3
            have hq0 := b1.lt
            go_wp2_with fail
            have d0 := b1.set 0 (.int .i64 0)
            have d1 := d0.set 1 (.slice none 0 0)
            have d2 := d1.set 2 (.slice none 0 0)
            have d3 := d2.set 3 (.slice none 0 0)
            have x2 := ((((hx0.set (p := ⟨w.heap.size, 0, none⟩) (by simp; try omega) (.int .i64 0)).set (p := ⟨w.heap.size, 1, none⟩) (by simp; try omega) (.slice none 0 0)).set (p := ⟨w.heap.size, 2, none⟩) (by simp; try omega) (.slice none 0 0)).set (p := ⟨w.heap.size, 3, none⟩) (by simp; try omega) (.slice none 0 0))
            have r0 := d3.cell 0 rfl
            have r1 := d3.cell 1 rfl
            have r2 := d3.cell 2 rfl
            have r3 := d3.cell 3 rfl
            refine bodyPost_ret (v := .tuple #[.agg #[.int .i64 0, .slice none 0 0, .slice none 0 0, .slice none 0 0], .bool false]) (by simp only [results, Try.results52]; simp [go_sem, r0, r1, r2, r3]) rfl (RetSqB.bad hd rfl x2)
          | true =>
            cases e2 : inR 0 c ((N : Int) - 1) with
            | false =>
              go_wp2_with fail
              refine (l00In_any _ _ _ _).mono ?_
              rintro e w2 ⟨rfl, rfl⟩
              rw [e1]
              go_wp2_with fail
              refine (l00In_any _ _ _ _).mono ?_
              rintro e w2 ⟨rfl, rfl⟩
              rw [e2]
              have hd : D = SD.bad := by rw [HD.out]; exact fromD_ent (k := k) (by rw [HL.out]; exact hlt) (by rw [← HE.out]; exact entOk_2 e2)
              replace hx0 := hx0.trans xA
              replace b1 := b1.ext xA
              clear xA hst
              have y0 := b1.cell 0 rfl
              have y1 := b1.cell 1 rfl
              have y2 := b1.cell 2 rfl
              have y3 := b1.cell 3 rfl
              have f0 := b1.free 0
              have f1 := b1.free 1
              have f2 := b1.free 2
              have f3 := b1.free 3
              have hq0 := b1.lt
              go_wp2_with fail
              have d0 := b1.set 0 (.int .i64 0)
              have d1 := d0.set 1 (.slice none 0 0)
              have d2 := d1.set 2 (.slice none 0 0)
              have d3 := d2.set 3 (.slice none 0 0)
              have x2 := ((((hx0.set (p := ⟨w.heap.size, 0, none⟩) (by simp; try omega) (.int .i64 0)).set (p := ⟨w.heap.size, 1, none⟩) (by simp; try omega) (.slice none 0 0)).set (p := ⟨w.heap.size, 2, none⟩) (by simp; try omega) (.slice none 0 0)).set (p := ⟨w.heap.size, 3, none⟩) (by simp; try omega) (.slice none 0 0))
              have r0 := d3.cell 0 rfl
              have r1 := d3.cell 1 rfl
              have r2 := d3.cell 2 rfl
              have r3 := d3.cell 3 rfl
              refine bodyPost_ret (v := .tuple #[.agg #[.int .i64 0, .slice none 0 0, .slice none 0 0, .slice none 0 0], .bool false]) (by simp only [results, Try.results52]; simp [go_sem, r0, r1, r2, r3]) rfl (RetSqB.bad hd rfl x2)
            | true =>
              cases e3 : isFin .f32 x with
              | false =>
                go_wp2_with fail
                refine (l00In_any _ _ _ _).mono ?_
                rintro e w2 ⟨rfl, rfl⟩
                rw [e1]
                go_wp2_with fail
                refine (l00In_any _ _ _ _).mono ?_
                rintro e w2 ⟨rfl, rfl⟩
                rw [e2]
                go_wp2_with fail
                refine (l01Finite_any _ _).mono ?_
                rintro e w2 ⟨rfl, hx2⟩
                rw [e3]
                replace xA := xA.trans hx2
                clear hx2
                have hd : D = SD.bad := by rw [HD.out]; exact fromD_ent (k := k) (by rw [HL.out]; exact hlt) (by rw [← HE.out]; exact entOk_3 e3)
                replace hx0 := hx0.trans xA
                replace b1 := b1.ext xA
                clear xA hst
                have y0 := b1.cell 0 rfl
                have y1 := b1.cell 1 rfl
                have y2 := b1.cell 2 rfl
                have y3 := b1.cell 3 rfl
                have f0 := b1.free 0
                have f1 := b1.free 1
                have f2 := b1.free 2
                have f3 := b1.free 3
                have hq0 := b1.lt
                go_wp2_with fail
                have d0 := b1.set 0 (.int .i64 0)
                have d1 := d0.set 1 (.slice none 0 0)
                have d2 := d1.set 2 (.slice none 0 0)
                have d3 := d2.set 3 (.slice none 0 0)
                have x2 := ((((hx0.set (p := ⟨w.heap.size, 0, none⟩) (by simp; try omega) (.int .i64 0)).set (p := ⟨w.heap.size, 1, none⟩) (by simp; try omega) (.slice none 0 0)).set (p := ⟨w.heap.size, 2, none⟩) (by simp; try omega) (.slice none 0 0)).set (p := ⟨w.heap.size, 3, none⟩) (by simp; try omega) (.slice none 0 0))
                have r0 := d3.cell 0 rfl
                have r1 := d3.cell 1 rfl
                have r2 := d3.cell 2 rfl
                have r3 := d3.cell 3 rfl
                refine bodyPost_ret (v := .tuple #[.agg #[.int .i64 0, .slice none 0 0, .slice none 0 0, .slice none 0 0], .bool false]) (by simp only [results, Try.results52]; simp [go_sem, r0, r1, r2, r3]) rfl (RetSqB.bad hd rfl x2)
              | true =>
                have q1 := inR_iff.1 e1
                have q2 := inR_iff.1 e2
                obtain ⟨ri, rfl⟩ : ∃ ri : Nat, r = ri := ⟨r.toNat, by omega⟩
                obtain ⟨ci, rfl⟩ : ∃ ci : Nat, c = ci := ⟨c.toNat, by omega⟩
                have hri : ri < N := by omega
                have hci : ci < N := by omega
                have HOK : Hid (entOk N (rdE es k) = true) := by show _ = _; rw [← HE.out]; exact entOk_ok e1 e2 e3
                have HNX : Hid (frmM es (k + 1) = accM (frmM es k) ri ci (c32 x)) := by
                  show _ = _
                  show accM (frmM es k) (rdE es k).1.toNat (rdE es k).2.1.toNat (c32 (rdE es k).2.2) = _
                  rw [← HE.out]
                  rfl
                obtain ⟨M, hM⟩ : ∃ M, M = frmM es k := ⟨_, rfl⟩
                rw [← hM] at hst HNX
                clear hM q1 q2
                obtain ⟨i1, i2, i3, i4, i5, i6⟩ := ix32 hri hci hn32
                rw [← HN.out] at i4 i6
                have i7 : ri * N + ci < NN := by omega
                go_wp2_with fail
                refine (l00In_any _ _ _ _).mono ?_
                rintro e w2 ⟨rfl, rfl⟩
                rw [e1]
                go_wp2_with fail
                refine (l00In_any _ _ _ _).mono ?_
                rintro e w2 ⟨rfl, rfl⟩
                rw [e2]
                go_wp2_with fail
                refine (l01Finite_any _ _).mono ?_
                rintro e wD ⟨rfl, hx2⟩
                rw [e3]
                replace hc0 := hx2.cell hc0
                replace hc1 := hx2.cell hc1
                obtain ⟨T1, k1, U1, q1_, zs, h0, h1, h2, h3, h4⟩ := hst
                replace h1 := h1.ext hx2
                replace h2 := h2.ext hx2
                replace h3 := h3.ext hx2
                replace h4 := h4.trans hx2
                clear hx2 hc2 xA
                go_wp2_with fail
                refine wp_region_T (cs := []) [0, 1, 2, 3, 4, 5, 6, 7, 8, 9, 10, 11] [] [] [] (fun _ _ => False) (fun _ _ _ => True) (by kernel_rfl) (by kernel_rfl) (fun _ _ _ _ _ _ => trivial) ?_
                refine' wpT_det (o := ⟨some 56, Op.move (Operand.tmp 8), 117, "l05_sparse.go:85", #[], none⟩) rfl (by rfl) (by rfl) (fun w' hw' => ?_) ?_; rotate_left
                · go_simp <;> first | rfl | exact ⟨rfl, rfl⟩
                simp only [Act.put, List.setIfInBounds_toArray, List.set_cons_zero, List.set_cons_succ]
                refine' wpT_det (o := ⟨some 57, Op.nilCheck (Operand.tmp 56), 0, "l05_sparse.go:85", #[{ on := 0, ground := Ground.data }], none⟩) rfl (by rfl) (by rfl) (fun w' hw' => ?_) ?_; rotate_left
                · go_simp <;> first | rfl | exact ⟨rfl, rfl⟩
                simp only [Act.put, List.setIfInBounds_toArray, List.set_cons_zero, List.set_cons_succ]
                refine' wpT_det (o := ⟨some 58, Op.fieldAddr 113 (Operand.tmp 57) 0, 0, "l05_sparse.go:85", #[{ on := 1, ground := Ground.data }], none⟩) rfl (by rfl) (by rfl) (fun w' hw' => ?_) ?_; rotate_left
                · go_simp <;> first | rfl | exact ⟨rfl, rfl⟩
                simp only [Act.put, List.setIfInBounds_toArray, List.set_cons_zero, List.set_cons_succ]
                refine' wpT_det (o := ⟨some 59, Op.load 2 (Operand.tmp 58), 2, "l05_sparse.go:85", #[{ on := 2, ground := Ground.data }], none⟩) rfl (by rfl) (by rfl) (fun w' hw' => ?_) ?_; rotate_left
                · have hc0_ := Ext.cell hw' hc0; have hc1_ := Ext.cell hw' hc1; go_simp <;> first | rfl | exact ⟨rfl, rfl⟩
                simp only [Act.put, List.setIfInBounds_toArray, List.set_cons_zero, List.set_cons_succ]
                refine' wpT_det (o := ⟨some 60, Op.move (Operand.tmp 0), 2, "l05_sparse.go:85", #[], none⟩) rfl (by rfl) (by rfl) (fun w' hw' => ?_) ?_; rotate_left
                · go_simp <;> first | rfl | exact ⟨rfl, rfl⟩
                simp only [Act.put, List.setIfInBounds_toArray, List.set_cons_zero, List.set_cons_succ]
                refine' wpT_det (o := ⟨some 61, Op.binOp BinOp.mul 2 (Operand.tmp 59) (Operand.tmp 60) 2, 2, "l05_sparse.go:85", #[{ on := 3, ground := Ground.data }, { on := 4, ground := Ground.data }], none⟩) rfl (by rfl) (by rfl) (fun w' hw' => ?_) ?_; rotate_left
                · go_simp <;> first | rfl | exact ⟨rfl, rfl⟩
                simp only [Act.put, List.setIfInBounds_toArray, List.set_cons_zero, List.set_cons_succ]
                refine' wpT_det (o := ⟨some 62, Op.move (Operand.tmp 8), 117, "l05_sparse.go:85", #[], none⟩) rfl (by rfl) (by rfl) (fun w' hw' => ?_) ?_; rotate_left
                · go_simp <;> first | rfl | exact ⟨rfl, rfl⟩
                simp only [Act.put, List.setIfInBounds_toArray, List.set_cons_zero, List.set_cons_succ]
                refine' wpT_det (o := ⟨some 63, Op.nilCheck (Operand.tmp 62), 0, "l05_sparse.go:85", #[{ on := 6, ground := Ground.data }], none⟩) rfl (by rfl) (by rfl) (fun w' hw' => ?_) ?_; rotate_left
                · go_simp <;> first | rfl | exact ⟨rfl, rfl⟩
                simp only [Act.put, List.setIfInBounds_toArray, List.set_cons_zero, List.set_cons_succ]
                refine' wpT_det (o := ⟨some 64, Op.fieldAddr 113 (Operand.tmp 63) 1, 0, "l05_sparse.go:85", #[{ on := 7, ground := Ground.data }], none⟩) rfl (by rfl) (by rfl) (fun w' hw' => ?_) ?_; rotate_left
                · go_simp <;> first | rfl | exact ⟨rfl, rfl⟩
                simp only [Act.put, List.setIfInBounds_toArray, List.set_cons_zero, List.set_cons_succ]
                refine' wpT_det (o := ⟨some 65, Op.load 2 (Operand.tmp 64), 2, "l05_sparse.go:85", #[{ on := 8, ground := Ground.data }], none⟩) rfl (by rfl) (by rfl) (fun w' hw' => ?_) ?_; rotate_left
                · have hc0_ := Ext.cell hw' hc0; have hc1_ := Ext.cell hw' hc1; go_simp <;> first | rfl | exact ⟨rfl, rfl⟩
                simp only [Act.put, List.setIfInBounds_toArray, List.set_cons_zero, List.set_cons_succ]
                refine' wpT_det (o := ⟨some 66, Op.binOp BinOp.add 2 (Operand.tmp 61) (Operand.tmp 65) 2, 2, "l05_sparse.go:85", #[{ on := 5, ground := Ground.data }, { on := 9, ground := Ground.data }], none⟩) rfl (by rfl) (by rfl) (fun w' hw' => ?_) ?_; rotate_left
                · go_simp <;> first | rfl | exact ⟨rfl, rfl⟩
                simp only [Act.put, List.setIfInBounds_toArray, List.set_cons_zero, List.set_cons_succ]
                refine' wpT_det (o := ⟨some 9, Op.assign (Operand.tmp 66), 2, "l05_sparse.go:85", #[{ on := 10, ground := Ground.data }, { on := 0, ground := Ground.phase }, { on := 1, ground := Ground.phase }, { on := 2, ground := Ground.phase }, { on := 3, ground := Ground.phase }, { on := 4, ground := Ground.phase }, { on := 5, ground := Ground.phase }, { on := 6, ground := Ground.phase }, { on := 7, ground := Ground.phase }, { on := 8, ground := Ground.phase }, { on := 9, ground := Ground.phase }, { on := 10, ground := Ground.phase }], none⟩) rfl (by rfl) (by rfl) (fun w' hw' => ?_) ?_; rotate_left
                · go_simp <;> first | rfl | exact ⟨rfl, rfl⟩
                simp only [Act.put, List.setIfInBounds_toArray, List.set_cons_zero, List.set_cons_succ]
                refine wpT_nil (fun w5 hw' hF => ?_)
                refine wpList_nil ?_
                have hx := hw'.undrew
                clear hF hw' hc0 hc1
                replace h1 := h1.ext hx
                replace h2 := h2.ext hx
                replace h3 := h3.ext hx
                replace h4 := h4.trans hx
                clear hx
                obtain ⟨g, rfl, _⟩ := h2.head (by omega)
                have lt := h2.reads.blen
                obtain ⟨hcb, hf⟩ := h2.at_ (ri * N + ci) (by omega)
                rw [bools_get (by omega)] at hcb
                have hsb := store_bool Try.prog true hcb hf
                have hm := FU.putT h0 h1 h2 h3 h4 (ri * N + ci) true (accE_tb (v := c32 x) hri hci)
                have z1 : w5.cell? ⟨fb, 1, none⟩ = some (.slice (some ⟨g, 0, none⟩) NN k1) := h1.cell 1 rfl
                go_upto_region 12 with (fail)
                obtain ⟨w6, hw6⟩ : ∃ v : World, v = w5.setCell ⟨g, ri * N + ci, none⟩ (.bool true) := ⟨_, rfl⟩
                rw [← hw6] at hm ⊢
                clear hw6 h0 h1 h2 h3 h4 lt hcb hf hsb z1
                obtain ⟨T1, k1, U1, q1_, zs, h0, h1, h2, h3, h4⟩ := hm
                have lz := h3.reads.flen
                obtain ⟨g2, rfl, _⟩ := h3.head (by omega)
                obtain ⟨hcb, hf⟩ := h3.at_ (ri * N + ci) (by omega)
                rw [flts_get (by omega)] at hcb
                have hnum := nb_at h0 hri hci
                obtain ⟨o, ho⟩ : ∃ o, o = rdf zs ((ri * N + ci : Nat) : Int) := ⟨_, rfl⟩
                rw [← ho] at hcb hnum
                have HNUM := Lib.hid hnum
                have z2 : w6.cell? ⟨fb, 2, none⟩ = some (.slice (some ⟨g2, 0, none⟩) NN q1_) := h1.cell 2 rfl
                obtain ⟨ad', had, _, _, hc2⟩ := (hr.below (hx0.trans h4)).ent k hlt
                obtain rfl := Option.some.inj had
                rw [← HE.out] at hc2
                dsimp only at hc2
                clear had hnum ho hf
                refine wp_region_T (cs := []) [0, 1, 2, 3, 4, 5, 6, 7, 8, 9, 10, 11, 12] [13, 14] [12] [] (fun i__ v => match i__ with | 12 => ∃ r, v = .float .f32 r ∧ c32 r = (fadd ((M ri ci).getD (some 0)) (c32 x)) | _ => False) (fun _ _ _ => True) (by kernel_rfl) (by kernel_rfl) (fun _ _ _ _ _ _ => trivial) ?_
                refine' wpT_det (o := ⟨some 71, Op.fieldAddr 71 (Operand.tmp 6) 2, 0, "l05_sparse.go:87", #[], none⟩) rfl (by rfl) (by rfl) (fun w' hw' => ?_) ?_; rotate_left
                · go_simp <;> first | rfl | exact ⟨rfl, rfl⟩
                simp only [Act.put, List.setIfInBounds_toArray, List.set_cons_zero, List.set_cons_succ]
                refine' wpT_det (o := ⟨some 72, Op.load 23 (Operand.tmp 71), 23, "l05_sparse.go:87", #[{ on := 0, ground := Ground.data }], none⟩) rfl (by rfl) (by rfl) (fun w' hw' => ?_) ?_; rotate_left
                · have z2_ := Ext.cell hw' z2; have hcb_ := Ext.cell hw' hcb; have hc2_ := Ext.cell hw' hc2; go_simp <;> first | rfl | exact ⟨rfl, rfl⟩
                simp only [Act.put, List.setIfInBounds_toArray, List.set_cons_zero, List.set_cons_succ]
                refine' wpT_det (o := ⟨some 73, Op.move (Operand.tmp 9), 2, "l05_sparse.go:87", #[], none⟩) rfl (by rfl) (by rfl) (fun w' hw' => ?_) ?_; rotate_left
                · go_simp <;> first | rfl | exact ⟨rfl, rfl⟩
                simp only [Act.put, List.setIfInBounds_toArray, List.set_cons_zero, List.set_cons_succ]
                refine' wpT_det (o := ⟨some 74, Op.fieldAddr 71 (Operand.tmp 6) 2, 0, "l05_sparse.go:87", #[], none⟩) rfl (by rfl) (by rfl) (fun w' hw' => ?_) ?_; rotate_left
                · go_simp <;> first | rfl | exact ⟨rfl, rfl⟩
                simp only [Act.put, List.setIfInBounds_toArray, List.set_cons_zero, List.set_cons_succ]
                refine' wpT_det (o := ⟨some 75, Op.load 23 (Operand.tmp 74), 23, "l05_sparse.go:87", #[{ on := 3, ground := Ground.data }], none⟩) rfl (by rfl) (by rfl) (fun w' hw' => ?_) ?_; rotate_left
                · have z2_ := Ext.cell hw' z2; have hcb_ := Ext.cell hw' hcb; have hc2_ := Ext.cell hw' hc2; go_simp <;> first | rfl | exact ⟨rfl, rfl⟩
                simp only [Act.put, List.setIfInBounds_toArray, List.set_cons_zero, List.set_cons_succ]
                refine' wpT_det (o := ⟨some 76, Op.move (Operand.tmp 9), 2, "l05_sparse.go:87", #[], none⟩) rfl (by rfl) (by rfl) (fun w' hw' => ?_) ?_; rotate_left
                · go_simp <;> first | rfl | exact ⟨rfl, rfl⟩
                simp only [Act.put, List.setIfInBounds_toArray, List.set_cons_zero, List.set_cons_succ]
                refine' wpT_det (o := ⟨some 77, Op.indexAddr 23 (Operand.tmp 75) (Operand.tmp 76), 0, "l05_sparse.go:87", #[{ on := 4, ground := Ground.data }, { on := 5, ground := Ground.data }], none⟩) rfl (by rfl) (by rfl) (fun w' hw' => ?_) ?_; rotate_left
                · go_simp <;> first | rfl | exact ⟨rfl, rfl⟩
                simp only [Act.put, List.setIfInBounds_toArray, List.set_cons_zero, List.set_cons_succ]
                refine' wpT_det (o := ⟨some 78, Op.load 43 (Operand.tmp 77), 43, "l05_sparse.go:87", #[{ on := 6, ground := Ground.data }], none⟩) rfl (by rfl) (by rfl) (fun w' hw' => ?_) ?_; rotate_left
                · have z2_ := Ext.cell hw' z2; have hcb_ := Ext.cell hw' hcb; have hc2_ := Ext.cell hw' hc2; go_simp <;> first | rfl | exact ⟨rfl, rfl⟩
                simp only [Act.put, List.setIfInBounds_toArray, List.set_cons_zero, List.set_cons_succ]
                refine' wpT_det (o := ⟨some 79, Op.move (Operand.tmp 8), 117, "l05_sparse.go:87", #[], none⟩) rfl (by rfl) (by rfl) (fun w' hw' => ?_) ?_; rotate_left
                · go_simp <;> first | rfl | exact ⟨rfl, rfl⟩
                simp only [Act.put, List.setIfInBounds_toArray, List.set_cons_zero, List.set_cons_succ]
                refine' wpT_det (o := ⟨some 80, Op.nilCheck (Operand.tmp 79), 0, "l05_sparse.go:87", #[{ on := 8, ground := Ground.data }], none⟩) rfl (by rfl) (by rfl) (fun w' hw' => ?_) ?_; rotate_left
                · go_simp <;> first | rfl | exact ⟨rfl, rfl⟩
                simp only [Act.put, List.setIfInBounds_toArray, List.set_cons_zero, List.set_cons_succ]
                refine' wpT_det (o := ⟨some 81, Op.fieldAddr 113 (Operand.tmp 80) 2, 0, "l05_sparse.go:87", #[{ on := 9, ground := Ground.data }], none⟩) rfl (by rfl) (by rfl) (fun w' hw' => ?_) ?_; rotate_left
                · go_simp <;> first | rfl | exact ⟨rfl, rfl⟩
                simp only [Act.put, List.setIfInBounds_toArray, List.set_cons_zero, List.set_cons_succ]
                refine' wpT_det (o := ⟨some 82, Op.load 43 (Operand.tmp 81), 43, "l05_sparse.go:87", #[{ on := 10, ground := Ground.data }], none⟩) rfl (by rfl) (by rfl) (fun w' hw' => ?_) ?_; rotate_left
                · have z2_ := Ext.cell hw' z2; have hcb_ := Ext.cell hw' hcb; have hc2_ := Ext.cell hw' hc2; go_simp <;> first | rfl | exact ⟨rfl, rfl⟩
                simp only [Act.put, List.setIfInBounds_toArray, List.set_cons_zero, List.set_cons_succ]
                refine wpT_nd (o := ⟨some 83, Op.binOp BinOp.add 43 (Operand.tmp 78) (Operand.tmp 82) 43, 43, "l05_sparse.go:87", #[{ on := 7, ground := Ground.data }, { on := 11, ground := Ground.data }], none⟩) rfl (by rfl) (by rfl) (fun w' hw' hF R__ hGo => ?_) (by obtain ⟨r, hr⟩ := ex_d .add ((by rw [HNUM.out]) : fop .add .f32 (c32 (o)) (c32 (x)) = (fadd ((M ri ci).getD (some 0)) (c32 x))); exact ⟨_, r, rfl, hr⟩) ?_
                · exact gives_f .add (.inl rfl) _ _ _ _ rfl (o) (x) rfl rfl (fadd ((M ri ci).getD (some 0)) (c32 x)) (by rw [HNUM.out]) (fun r w2 hx hc => hGo _ _ hx ⟨r, rfl, hc⟩ trivial)
                rintro _ ⟨f12, rfl, hf12⟩
                simp only [Act.put, List.setIfInBounds_toArray, List.set_cons_zero, List.set_cons_succ]
                refine wpT_nil (fun w7 hw' hF => ?_)
                show wpList _ _ _ [(⟨some 84, Op.indexAddr 23 (Operand.tmp 72) (Operand.tmp 73), 0, "l05_sparse.go:87", #[{ on := 1, ground := Ground.data }, { on := 2, ground := Ground.data }, { on := 0, ground := Ground.phase }, { on := 1, ground := Ground.phase }, { on := 2, ground := Ground.phase }, { on := 3, ground := Ground.phase }, { on := 4, ground := Ground.phase }, { on := 5, ground := Ground.phase }, { on := 6, ground := Ground.phase }, { on := 7, ground := Ground.phase }, { on := 8, ground := Ground.phase }, { on := 9, ground := Ground.phase }, { on := 10, ground := Ground.phase }, { on := 11, ground := Ground.phase }, { on := 12, ground := Ground.phase }], none⟩ : Oper), (⟨none, Op.store 43 (Operand.tmp 84) (Operand.tmp 83), 0, "l05_sparse.go:87", #[{ on := 13, ground := Ground.data }, { on := 12, ground := Ground.data }, { on := 0, ground := Ground.phase }, { on := 1, ground := Ground.phase }, { on := 2, ground := Ground.phase }, { on := 3, ground := Ground.phase }, { on := 4, ground := Ground.phase }, { on := 5, ground := Ground.phase }, { on := 6, ground := Ground.phase }, { on := 7, ground := Ground.phase }, { on := 8, ground := Ground.phase }, { on := 9, ground := Ground.phase }, { on := 10, ground := Ground.phase }, { on := 11, ground := Ground.phase }, { on := 12, ground := Ground.phase }], none⟩ : Oper)] _ _
                have hx := hw'.undrew
                clear hF hw' z2 hc2 hcb
                replace h1 := h1.ext hx
                replace h2 := h2.ext hx
                replace h3 := h3.ext hx
                replace h4 := h4.trans hx
                clear hx
                obtain ⟨hcb, hf⟩ := h3.at_ (ri * N + ci) (by omega)
                rw [flts_get (by omega)] at hcb
                have hsf := store_f32 Try.prog f12 hcb hf
                have hm := FU.putN h0 h1 h2 h3 h4 (ri * N + ci) f12 (accE_nb hri hci hf12)
                rw [← HNX.out] at hm
                clear h0 h1 h2 h3 h4
                go_wp2_with fail
                go_roundw
                case rel => exact ⟨k + 1, by omega, by go_num, hm, (fun j hj => by
                  by_cases e : j = k
                  · rw [e]; exact HOK.out
                  · exact HO.out j (by omega))⟩
                case measure => simp [intOf]; omega
        · obtain rfl : k = n := by omega
          have HDD : Hid (giveSp N (frmM es k) = D) := by show _ = _; rw [HD.out, fromD_good HI.out (by rw [HL.out]; exact hlen) (fun j hj => HO.out j (by rw [HL.out] at hj; exact hj)), HL.out]
          obtain ⟨T1, k1, U1, q1_, zs, h0, h1, h2, h3, h4⟩ := hst
          replace hx0 := hx0.trans h4
          replace b1 := b1.ext h4
          clear xA
          go_wp2_with fail
          refine (l05Close_any _ N NN T1 k1 U1 q1_ (frmM es k) zs hn1 hn32 HN.out _ (FAt.of h1 h2.reads h3.reads h0)).mono ?_
          rw [HDD.out]
          rintro e w6 ⟨A', kA, B', kB, V', kV, rfl, p1, p2, p3, n12, n13, n23, hx⟩
          clear h0 h1 h2 h3 h4
          replace p1 := p1.base hx0.size
          replace p2 := p2.base hx0.size
          replace p3 := p3.base hx0.size
          replace b1 := b1.ext hx
          replace hx0 := hx0.trans hx
          clear hx
          have y0 := b1.cell 0 rfl
          have y1 := b1.cell 1 rfl
          have y2 := b1.cell 2 rfl
          have y3 := b1.cell 3 rfl
          have f0 := b1.free 0
          have f1 := b1.free 1
          have f2 := b1.free 2
          have f3 := b1.free 3
          have hq0 := b1.lt
          go_wp2_with fail
          have d0 := b1.set 0 (.int .i64 D.sd)
          have d1 := d0.set 1 (.slice A' D.st.length kA)
          have d2 := d1.set 2 (.slice B' D.co.length kB)
          have d3 := d2.set 3 (.slice V' D.va.length kV)
          have q1 := ((((p1.setBlk b1 (by decide) 0 (.int .i64 D.sd)).setBlk d0 (by decide) 1 (.slice A' D.st.length kA)).setBlk d1 (by decide) 2 (.slice B' D.co.length kB)).setBlk d2 (by decide) 3 (.slice V' D.va.length kV))
          have q2 := ((((p2.setBlk b1 (by decide) 0 (.int .i64 D.sd)).setBlk d0 (by decide) 1 (.slice A' D.st.length kA)).setBlk d1 (by decide) 2 (.slice B' D.co.length kB)).setBlk d2 (by decide) 3 (.slice V' D.va.length kV))
          have q3 := ((((p3.setBlk b1 (by decide) 0 (.int .i64 D.sd)).setBlk d0 (by decide) 1 (.slice A' D.st.length kA)).setBlk d1 (by decide) 2 (.slice B' D.co.length kB)).setBlk d2 (by decide) 3 (.slice V' D.va.length kV))
          have x2 := ((((hx0.set (p := ⟨w.heap.size, 0, none⟩) (by simp; try omega) (.int .i64 D.sd)).set (p := ⟨w.heap.size, 1, none⟩) (by simp; try omega) (.slice A' D.st.length kA)).set (p := ⟨w.heap.size, 2, none⟩) (by simp; try omega) (.slice B' D.co.length kB)).set (p := ⟨w.heap.size, 3, none⟩) (by simp; try omega) (.slice V' D.va.length kV))
          have r0 := d3.cell 0 rfl
          have r1 := d3.cell 1 rfl
          have r2 := d3.cell 2 rfl
          have r3 := d3.cell 3 rfl
          refine bodyPost_ret (v := .tuple #[.agg #[.int .i64 D.sd, .slice A' D.st.length kA, .slice B' D.co.length kB, .slice V' D.va.length kV], .bool D.ok]) (by simp only [results, Try.results52]; simp [go_sem, r0, r1, r2, r3]) rfl ?_
          exact ⟨A', kA, B', kB, V', kV, rfl, q1, q2, q3, n12, n13, n23, x2⟩

end Go.Proofs.Ytkifpligpobiaaa
