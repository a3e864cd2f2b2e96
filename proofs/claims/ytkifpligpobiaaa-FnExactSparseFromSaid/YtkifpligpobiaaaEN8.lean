
/- SparseFrom, the program. -/

import Derived.Test.YtkifpligpobiaaaEN7
set_option linter.unusedVariables false
set_option linter.unusedSimpArgs false

namespace Go.Proofs.Ytkifpligpobiaaa

open Go.RowKit


set_option maxRecDepth 20000 in
set_option maxHeartbeats 8000000 in
theorem implSparseFrom_any (sd : Int) (A : Option Addr) (n cA : Nat) (es : List Ent) (w : World) (hr : RdsE w A n es) :
    Calls Try.prog 54 #[.int .i64 sd, .slice A n cA] w (RetSqB w (fromD sd es)) := by
  have HL := Lib.hid hr.len
  cases h1 : inR 1 sd 32 with
  | false =>
    have hd : fromD sd es = SD.bad := fromD_side h1
    go_enter Try.func54, Try.ntmps54
    go_upto_region 1 with (fail)
    obtain ⟨w1, hw1⟩ : ∃ w1 : World, w1 = w.alloc (.cells #[.int .i64 0, .slice none 0 0, .slice none 0 0, .slice none 0 0] 27) := ⟨_, rfl⟩
    have hx0 : Ext w w1 := by rw [hw1]; exact (Ext.refl _).alloc _
    have b1 : Blk w1 w.heap.size #[.int .i64 0, .slice none 0 0, .slice none 0 0, .slice none 0 0] 27 := by rw [hw1]; exact Blk.new _ _ _
    rw [← hw1]
    clear hw1
    go_wp2_with fail
    refine (inRange_any _ _ _ _).mono ?_
    rintro e w2 ⟨rfl, rfl⟩
    rw [h1]
    have y0 := b1.cell 0 rfl
    have y1 := b1.cell 1 rfl
    have y2 := b1.cell 2 rfl
    have y3 := b1.cell 3 rfl
    have f0 := b1.free 0
    have f1 := b1.free 1
    have f2 := b1.free 2
    have f3 := b1.free 3
    have hq0 := b1.lt
    go_wp2_with fail
    have d0 := b1.set 0 (.int .i64 0)
    have d1 := d0.set 1 (.slice none 0 0)
    have d2 := d1.set 2 (.slice none 0 0)
    have d3 := d2.set 3 (.slice none 0 0)
    have x2 := ((((hx0.set (p := ⟨w.heap.size, 0, none⟩) (by simp; try omega) (.int .i64 0)).set (p := ⟨w.heap.size, 1, none⟩) (by simp; try omega) (.slice none 0 0)).set (p := ⟨w.heap.size, 2, none⟩) (by simp; try omega) (.slice none 0 0)).set (p := ⟨w.heap.size, 3, none⟩) (by simp; try omega) (.slice none 0 0))
    have r0 := d3.cell 0 rfl
    have r1 := d3.cell 1 rfl
    have r2 := d3.cell 2 rfl
    have r3 := d3.cell 3 rfl
    refine bodyPost_ret (v := .tuple #[.agg #[.int .i64 0, .slice none 0 0, .slice none 0 0, .slice none 0 0], .bool false]) (by simp only [results, Try.results54]; simp [go_sem, r0, r1, r2, r3]) rfl (RetSqB.bad hd rfl x2)
  | true =>
    have hb := inR_iff.1 h1
    obtain ⟨N, rfl⟩ : ∃ N : Nat, sd = N := ⟨sd.toNat, by omega⟩
    have hn1 : 1 ≤ N := by omega
    have hn32 : N ≤ 32 := by omega
    by_cases hlen : n ≤ 512
    rotate_left
    · have hgt : decide ((512 : Int) < n) = true := by simp; omega
      have hgt' : (512 : Int) < n := by omega
      have hd : fromD N es = SD.bad := fromD_long (by rw [HL.out]; exact hlen)
      go_enter Try.func54, Try.ntmps54
      go_upto_region 1 with (fail)
      obtain ⟨w1, hw1⟩ : ∃ w1 : World, w1 = w.alloc (.cells #[.int .i64 0, .slice none 0 0, .slice none 0 0, .slice none 0 0] 27) := ⟨_, rfl⟩
      have hx0 : Ext w w1 := by rw [hw1]; exact (Ext.refl _).alloc _
      have b1 : Blk w1 w.heap.size #[.int .i64 0, .slice none 0 0, .slice none 0 0, .slice none 0 0] 27 := by rw [hw1]; exact Blk.new _ _ _
      rw [← hw1]
      clear hw1
      go_wp2_with fail
      refine (inRange_any _ _ _ _).mono ?_
      rintro e w2 ⟨rfl, rfl⟩
      rw [h1]
      have y0 := b1.cell 0 rfl
      have y1 := b1.cell 1 rfl
      have y2 := b1.cell 2 rfl
      have y3 := b1.cell 3 rfl
      have f0 := b1.free 0
      have f1 := b1.free 1
      have f2 := b1.free 2
      have f3 := b1.free 3
      have hq0 := b1.lt
      go_wp2_with fail
      have d0 := b1.set 0 (.int .i64 0)
      have d1 := d0.set 1 (.slice none 0 0)
      have d2 := d1.set 2 (.slice none 0 0)
      have d3 := d2.set 3 (.slice none 0 0)
      have x2 := ((((hx0.set (p := ⟨w.heap.size, 0, none⟩) (by simp; try omega) (.int .i64 0)).set (p := ⟨w.heap.size, 1, none⟩) (by simp; try omega) (.slice none 0 0)).set (p := ⟨w.heap.size, 2, none⟩) (by simp; try omega) (.slice none 0 0)).set (p := ⟨w.heap.size, 3, none⟩) (by simp; try omega) (.slice none 0 0))
      have r0 := d3.cell 0 rfl
      have r1 := d3.cell 1 rfl
      have r2 := d3.cell 2 rfl
      have r3 := d3.cell 3 rfl
      refine bodyPost_ret (v := .tuple #[.agg #[.int .i64 0, .slice none 0 0, .slice none 0 0, .slice none 0 0], .bool false]) (by simp only [results, Try.results54]; simp [go_sem, r0, r1, r2, r3]) rfl (RetSqB.bad hd rfl x2)
    · have hgt : ¬ (512 : Int) < n := by omega
      obtain ⟨D, hD⟩ : ∃ D, D = fromD N es := ⟨_, rfl⟩
      rw [← hD]
      have HD := Lib.hid hD
      have HI := Lib.hid h1
      have gs : IntKind.i64.wrap ((N : Int) - 1) = (N : Int) - 1 := IntWalk.i64_in _ (by omega)
      clear hD hb
      have hmk := make_map_run
      go_enter Try.func54, Try.ntmps54
      go_upto_region 1 with (fail)
      obtain ⟨w1, hw1⟩ : ∃ w1 : World, w1 = w.alloc (.cells #[.int .i64 0, .slice none 0 0, .slice none 0 0, .slice none 0 0] 27) := ⟨_, rfl⟩
      have hx0 : Ext w w1 := by rw [hw1]; exact (Ext.refl _).alloc _
      have b1 : Blk w1 w.heap.size #[.int .i64 0, .slice none 0 0, .slice none 0 0, .slice none 0 0] 27 := by rw [hw1]; exact Blk.new _ _ _
      rw [← hw1]
      clear hw1
      go_wp2_with fail
      refine (inRange_any _ _ _ _).mono ?_
      rintro e w2 ⟨rfl, rfl⟩
      rw [HI.out]
      go_upto_region 4 with (fail)
      have hm4 : MapV (w1.alloc (.map #[] 0)) w1.heap.size (N * N) N (frmM es 0) := (MapV.empty w1 N).tight
      have hxx : Ext w1 (w1.alloc (.map #[] 0)) := (Ext.refl _).alloc _
      obtain ⟨w4, hw4⟩ : ∃ v : World, v = w1.alloc (.map #[] 0) := ⟨_, rfl⟩
      obtain ⟨b4, hb⟩ : ∃ b, b = w1.heap.size := ⟨_, rfl⟩
      have hb4 : w1.heap.size ≤ b4 := by omega
      rw [← hw4, ← hb] at hm4
      rw [← hw4] at hxx
      rw [← hw4, ← hb]
      clear hw4 hb hmk h1
      go_wp2_with fail
      go_loopw [21] (fun u wr => ∃ k : Nat, k ≤ n ∧ u = .int .i64 k ∧ MapV wr b4 (N * N) N (frmM es k) ∧ Hid (∀ j, j < k → entOk N (rdE es j) = true) ∧ Ext w1 wr) (fun u _ => n - (intOf u).toNat)
      case atStart => exact ⟨0, Nat.zero_le _, rfl, hm4, fun j hj => absurd hj (Nat.not_lt_zero _), hxx⟩
      case round =>
        rename World => wA
        clear hm4 hxx
        obtain ⟨k, hk, rfl, hm4, HO, hx⟩ := hrel
        by_cases hlt : k < n
        · have g1 : IntKind.i64.wrap ((k : Int) + 1) = (k : Int) + 1 := IntWalk.i64_in _ (by omega)
          obtain ⟨ad, rfl, hc0, hc1, hc2⟩ := (hr.below (hx0.trans hx)).ent k hlt
          obtain ⟨⟨r, c, x⟩, he⟩ : ∃ e, e = rdE es k := ⟨_, rfl⟩
          rw [← he] at hc0 hc1 hc2
          dsimp only at hc0 hc1 hc2
          have HE := Lib.hid he
          clear he
          have hst := store_f32 Try.prog x ((Blk.new wA #[.int .i64 r, .int .i64 c, .float .f32 0] 113).cell 2 rfl) ((Blk.new wA #[.int .i64 r, .int .i64 c, .float .f32 0] 113).free 2)
          go_upto_region 7 with (fail)
          clear hst
          have be := Blk.new wA #[.int .i64 r, .int .i64 c, .float .f32 x] 113
          have xg : Ext wA (wA.alloc (.cells #[.int .i64 r, .int .i64 c, .float .f32 x] 113)) := (Ext.refl _).alloc _
          obtain ⟨wC, hwC⟩ : ∃ v : World, v = wA.alloc (.cells #[.int .i64 r, .int .i64 c, .float .f32 x] 113) := ⟨_, rfl⟩
          obtain ⟨eb, heb⟩ : ∃ eb, eb = wA.heap.size := ⟨_, rfl⟩
          rw [← hwC, ← heb] at be
          rw [← hwC] at xg
          rw [← hwC, ← heb]
          replace hm4 := hm4.ext xg
          replace hx := hx.trans xg
          replace b1 := b1.ext hx
          clear hwC heb xg hc0 hc1 hc2
          have z0 := be.cell 0 rfl
          have z1 := be.cell 1 rfl
          have z2 := be.cell 2 rfl
          cases e1 : inR 0 r ((N : Int) - 1) with
          | false =>
            go_wp2_with fail
            refine (inRange_any _ _ _ _).mono ?_
            rintro e w2 ⟨rfl, rfl⟩
            rw [e1]
            have hd : D = SD.bad := by rw [HD.out]; exact fromD_ent (k := k) (by rw [HL.out]; exact hlt) (by rw [← HE.out]; exact entOk_1 e1)
            replace hx0 := hx0.trans hx
            clear hx
            have y0 := b1.cell 0 rfl
            have y1 := b1.cell 1 rfl
            have y2 := b1.cell 2 rfl
            have y3 := b1.cell 3 rfl
            have f0 := b1.free 0
            have f1 := b1.free 1
            have f2 := b1.free 2
            have f3 := b1.free 3
            have hq0 := b1.lt
            go_wp2_with fail
            have d0 := b1.set 0 (.int .i64 0)
            have d1 := d0.set 1 (.slice none 0 0)
            have d2 := d1.set 2 (.slice none 0 0)
            have d3 := d2.set 3 (.slice none 0 0)
            have x2 := ((((hx0.set (p := ⟨w.heap.size, 0, none⟩) (by simp; try omega) (.int .i64 0)).set (p := ⟨w.heap.size, 1, none⟩) (by simp; try omega) (.slice none 0 0)).set (p := ⟨w.heap.size, 2, none⟩) (by simp; try omega) (.slice none 0 0)).set (p := ⟨w.heap.size, 3, none⟩) (by simp; try omega) (.slice none 0 0))
            have r0 := d3.cell 0 rfl
            have r1 := d3.cell 1 rfl
            have r2 := d3.cell 2 rfl
            have r3 := d3.cell 3 rfl
            refine bodyPost_ret (v := .tuple #[.agg #[.int .i64 0, .slice none 0 0, .slice none 0 0, .slice none 0 0], .bool false]) (by simp only [results, Try.results54]; simp [go_sem, r0, r1, r2, r3]) rfl (RetSqB.bad hd rfl x2)
          | true =>
            cases e2 : inR 0 c ((N : Int) - 1) with
            | false =>
              go_wp2_with fail
              refine (inRange_any _ _ _ _).mono ?_
              rintro e w2 ⟨rfl, rfl⟩
              rw [e1]
              go_wp2_with fail
              refine (inRange_any _ _ _ _).mono ?_
              rintro e w2 ⟨rfl, rfl⟩
              rw [e2]
              have hd : D = SD.bad := by rw [HD.out]; exact fromD_ent (k := k) (by rw [HL.out]; exact hlt) (by rw [← HE.out]; exact entOk_2 e2)
              replace hx0 := hx0.trans hx
              clear hx
              have y0 := b1.cell 0 rfl
              have y1 := b1.cell 1 rfl
              have y2 := b1.cell 2 rfl
              have y3 := b1.cell 3 rfl
              have f0 := b1.free 0
              have f1 := b1.free 1
              have f2 := b1.free 2
              have f3 := b1.free 3
              have hq0 := b1.lt
              go_wp2_with fail
              have d0 := b1.set 0 (.int .i64 0)
              have d1 := d0.set 1 (.slice none 0 0)
              have d2 := d1.set 2 (.slice none 0 0)
              have d3 := d2.set 3 (.slice none 0 0)
              have x2 := ((((hx0.set (p := ⟨w.heap.size, 0, none⟩) (by simp; try omega) (.int .i64 0)).set (p := ⟨w.heap.size, 1, none⟩) (by simp; try omega) (.slice none 0 0)).set (p := ⟨w.heap.size, 2, none⟩) (by simp; try omega) (.slice none 0 0)).set (p := ⟨w.heap.size, 3, none⟩) (by simp; try omega) (.slice none 0 0))
              have r0 := d3.cell 0 rfl
              have r1 := d3.cell 1 rfl
              have r2 := d3.cell 2 rfl
              have r3 := d3.cell 3 rfl
              refine bodyPost_ret (v := .tuple #[.agg #[.int .i64 0, .slice none 0 0, .slice none 0 0, .slice none 0 0], .bool false]) (by simp only [results, Try.results54]; simp [go_sem, r0, r1, r2, r3]) rfl (RetSqB.bad hd rfl x2)
            | true =>
              cases e3 : isFin .f32 x with
              | false =>
                go_wp2_with fail
                refine (inRange_any _ _ _ _).mono ?_
                rintro e w2 ⟨rfl, rfl⟩
                rw [e1]
                go_wp2_with fail
                refine (inRange_any _ _ _ _).mono ?_
                rintro e w2 ⟨rfl, rfl⟩
                rw [e2]
                go_wp2_with fail
                refine (IsFinite_any _ _).mono ?_
                rintro e w2 ⟨rfl, hx2⟩
                rw [e3]
                replace b1 := b1.ext hx2
                replace hx := hx.trans hx2
                clear hx2
                have hd : D = SD.bad := by rw [HD.out]; exact fromD_ent (k := k) (by rw [HL.out]; exact hlt) (by rw [← HE.out]; exact entOk_3 e3)
                replace hx0 := hx0.trans hx
                clear hx
                have y0 := b1.cell 0 rfl
                have y1 := b1.cell 1 rfl
                have y2 := b1.cell 2 rfl
                have y3 := b1.cell 3 rfl
                have f0 := b1.free 0
                have f1 := b1.free 1
                have f2 := b1.free 2
                have f3 := b1.free 3
                have hq0 := b1.lt
                go_wp2_with fail
                have d0 := b1.set 0 (.int .i64 0)
                have d1 := d0.set 1 (.slice none 0 0)
                have d2 := d1.set 2 (.slice none 0 0)
                have d3 := d2.set 3 (.slice none 0 0)
                have x2 := ((((hx0.set (p := ⟨w.heap.size, 0, none⟩) (by simp; try omega) (.int .i64 0)).set (p := ⟨w.heap.size, 1, none⟩) (by simp; try omega) (.slice none 0 0)).set (p := ⟨w.heap.size, 2, none⟩) (by simp; try omega) (.slice none 0 0)).set (p := ⟨w.heap.size, 3, none⟩) (by simp; try omega) (.slice none 0 0))
                have r0 := d3.cell 0 rfl
                have r1 := d3.cell 1 rfl
                have r2 := d3.cell 2 rfl
                have r3 := d3.cell 3 rfl
                refine bodyPost_ret (v := .tuple #[.agg #[.int .i64 0, .slice none 0 0, .slice none 0 0, .slice none 0 0], .bool false]) (by simp only [results, Try.results54]; simp [go_sem, r0, r1, r2, r3]) rfl (RetSqB.bad hd rfl x2)
              | true =>
                have q1 := inR_iff.1 e1
                have q2 := inR_iff.1 e2
                obtain ⟨ri, rfl⟩ : ∃ ri : Nat, r = ri := ⟨r.toNat, by omega⟩
                obtain ⟨ci, rfl⟩ : ∃ ci : Nat, c = ci := ⟨c.toNat, by omega⟩
                have hri : ri < N := by omega
                have hci : ci < N := by omega
                have HOK : Hid (entOk N (rdE es k) = true) := by show _ = _; rw [← HE.out]; exact entOk_ok e1 e2 e3
                have HNX : Hid (frmM es (k + 1) = accM (frmM es k) ri ci (c32 x)) := by
                  show _ = _
                  show accM (frmM es k) (rdE es k).1.toNat (rdE es k).2.1.toNat (c32 (rdE es k).2.2) = _
                  rw [← HE.out]
                  rfl
                obtain ⟨M, hM⟩ : ∃ M, M = frmM es k := ⟨_, rfl⟩
                rw [← hM] at hm4 HNX
                clear hM q1 q2
                go_wp2_with fail
                refine (inRange_any _ _ _ _).mono ?_
                rintro e w2 ⟨rfl, rfl⟩
                rw [e1]
                go_wp2_with fail
                refine (inRange_any _ _ _ _).mono ?_
                rintro e w2 ⟨rfl, rfl⟩
                rw [e2]
                go_wp2_with fail
                refine (IsFinite_any _ _).mono ?_
                rintro e wD ⟨rfl, hx2⟩
                rw [e3]
                clear z0 z1 z2 e1 e2 e3
                replace be := be.ext hx2
                replace hm4 := hm4.ext hx2
                have hxb := hx.trans hx2
                clear hx2 hx b1
                have n1 := hm4.notCells be
                obtain ⟨d0, hd0⟩ : ∃ d0, d0 = (M ri ci).getD (some 0) := ⟨_, rfl⟩
                have HD0 := Lib.hid hd0
                clear hd0
                go_upto_region 9 with (fail)
                refine wp_region_TW (cs := [(10, [21])]) [0, 1, 2, 3, 4, 5, 6, 7, 8, 9, 10, 11] [12] [2, 4, 6, 8, 9, 10] [(2, [22]), (4, [22]), (8, [22]), (6, [20]), (10, [21])] (fun i__ v => match i__ with | 2 => v = (.int .i64 ri) | 4 => v = (.int .i64 ci) | 6 => ∃ r, v = .float .f32 r ∧ c32 r = d0 | 8 => v = (.float .f32 x) | 9 => ∃ r, v = .float .f32 r ∧ c32 r = (fadd d0 (c32 x)) | 10 => ∃ v0 st, v = .tuple #[v0, goInt st] | _ => False) (fun i__ v w' => match i__ with | 10 => ∀ v0 st, v = .tuple #[v0, goInt st] → b4 < w'.heap.size ∧ ∀ w2 r, w2.heap[b4]? = w'.heap[b4]? → ∃ w3, (Instr.entryStore 92 (.map (some b4)) (goInt st) (.float .f32 r)).run Try.prog w2 = .ok () w3 ∧ w2.grownBy w3 (some b4) ∧ MapV w3 b4 (N * N) N (updM M ri ci (some (c32 r))) | 20 => ∃ Mx cnt, MapV w' b4 cnt N Mx ∧ (Mx ri ci).getD (some 0) = d0 | 21 => MapV w' b4 (N * N) N M | 22 => Blk w' eb #[.int .i64 ri, .int .i64 ci, .float .f32 x] 113 | 23 => wD.grownBy w' (some b4) | _ => True) w1 (Ext.drew hxb) (phi [20, 21, 22, 23]) (phi_all (τ := (fun i__ v w' => match i__ with | 10 => ∀ v0 st, v = .tuple #[v0, goInt st] → b4 < w'.heap.size ∧ ∀ w2 r, w2.heap[b4]? = w'.heap[b4]? → ∃ w3, (Instr.entryStore 92 (.map (some b4)) (goInt st) (.float .f32 r)).run Try.prog w2 = .ok () w3 ∧ w2.grownBy w3 (some b4) ∧ MapV w3 b4 (N * N) N (updM M ri ci (some (c32 r))) | 20 => ∃ Mx cnt, MapV w' b4 cnt N Mx ∧ (Mx ri ci).getD (some 0) = d0 | 21 => MapV w' b4 (N * N) N M | 22 => Blk w' eb #[.int .i64 ri, .int .i64 ci, .float .f32 x] 113 | 23 => wD.grownBy w' (some b4) | _ => True)) (allOf_cons (⟨M, _, hm4.ext (Ext.drew (Ext.refl _)), HD0.out.symm⟩) (allOf_cons (hm4.ext (Ext.drew (Ext.refl _))) (allOf_cons (be.ext (Ext.drew (Ext.refl _))) (allOf_cons ((Ext.drew (Ext.refl _)).grown _) allOf_nil))))) (by kernel_rfl) (by kernel_rfl) (by intro i v w' w2 h hx; revert h; (try dsimp only); split <;> intro h <;> first | trivial | exact (by first | exact (let ⟨Mx, c, k1, k2⟩ := h; ⟨Mx, c, k1.ext hx, k2⟩) | exact MapV.ext h hx | exact Blk.ext h hx | exact gb_ext h hx | exact (fun v0 st e => ⟨Nat.lt_of_lt_of_le (h v0 st e).1 hx.size, fun w2 r hw2 => (h v0 st e).2 w2 r (hw2.trans (hx.block b4 (h v0 st e).1))⟩))) ?_
                refine' wpT_det (o := ⟨some 46, Op.move (Operand.tmp 6), 92, "l05_sparse.go:91", #[], none⟩) rfl (by rfl) (by rfl) (fun w' hw' => ?_) ?_; rotate_left
                · go_simp <;> first | rfl | exact ⟨rfl, rfl⟩
                simp only [Act.put, List.setIfInBounds_toArray, List.set_cons_zero, List.set_cons_succ]
                refine' wpT_det (o := ⟨some 47, Op.fieldAddr 113 (Operand.tmp 8) 0, 0, "l05_sparse.go:91", #[], none⟩) rfl (by rfl) (by rfl) (fun w' hw' => ?_) ?_; rotate_left
                · go_simp <;> first | rfl | exact ⟨rfl, rfl⟩
                simp only [Act.put, List.setIfInBounds_toArray, List.set_cons_zero, List.set_cons_succ]
                refine wpT_nd (o := ⟨some 48, Op.load 2 (Operand.tmp 47), 2, "l05_sparse.go:91", #[{ on := 1, ground := Ground.data }], none⟩) rfl (by rfl) (by rfl) (fun w' hw' hF R__ hGo => ?_) ⟨_, rfl⟩ ?_
                · have z_ := (hF 22 (by simp [uses]) undef rfl).cell 0 rfl; go_simp; exact gives_value rfl (hGo _ _ (Ext.refl _) rfl trivial)
                intro v hv
                obtain rfl : v = (.int .i64 ri) := hv
                simp only [Act.put, List.setIfInBounds_toArray, List.set_cons_zero, List.set_cons_succ]
                refine' wpT_det (o := ⟨some 49, Op.fieldAddr 113 (Operand.tmp 8) 1, 0, "l05_sparse.go:91", #[], none⟩) rfl (by rfl) (by rfl) (fun w' hw' => ?_) ?_; rotate_left
                · go_simp <;> first | rfl | exact ⟨rfl, rfl⟩
                simp only [Act.put, List.setIfInBounds_toArray, List.set_cons_zero, List.set_cons_succ]
                refine wpT_nd (o := ⟨some 50, Op.load 2 (Operand.tmp 49), 2, "l05_sparse.go:91", #[{ on := 3, ground := Ground.data }], none⟩) rfl (by rfl) (by rfl) (fun w' hw' hF R__ hGo => ?_) ⟨_, rfl⟩ ?_
                · have z_ := (hF 22 (by simp [uses]) undef rfl).cell 1 rfl; go_simp; exact gives_value rfl (hGo _ _ (Ext.refl _) rfl trivial)
                intro v hv
                obtain rfl : v = (.int .i64 ci) := hv
                simp only [Act.put, List.setIfInBounds_toArray, List.set_cons_zero, List.set_cons_succ]
                refine' wpT_det (o := ⟨some 51, Op.build 95 #[(0, Operand.tmp 48), (1, Operand.tmp 50)], 95, "l05_sparse.go:91", #[{ on := 2, ground := Ground.data }, { on := 4, ground := Ground.data }], none⟩) rfl (by rfl) (by rfl) (fun w' hw' => ?_) ?_; rotate_left
                · go_simp <;> first | rfl | exact ⟨rfl, rfl⟩
                simp only [Act.put, List.setIfInBounds_toArray, List.set_cons_zero, List.set_cons_succ]
                refine wpT_nd (o := ⟨some 52, Op.lookup 92 (Operand.tmp 46) (Operand.tmp 51) false, 43, "l05_sparse.go:91", #[{ on := 0, ground := Ground.data }, { on := 5, ground := Ground.data }], none⟩) rfl (by rfl) (by rfl) (fun w' hw' hF R__ hGo => ?_) (by obtain ⟨r, hr, hc⟩ := hm4.look1 hn32 hri hci; exact ⟨_, r, rfl, hc.trans HD0.out.symm⟩) ?_
                · obtain ⟨Mx, cn, k1, k2⟩ : ∃ Mx cnt, MapV w' b4 cnt N Mx ∧ (Mx ri ci).getD (some 0) = d0 := hF 20 (by simp [uses]) undef rfl; obtain ⟨r, hr, hc⟩ := k1.look1 hn32 hri hci; simp only [placeV] at hr; go_simp; exact gives_value rfl (hGo _ _ (Ext.refl _) ⟨_, rfl, hc.trans k2⟩ trivial)
                rintro _ ⟨f6, rfl, hf6⟩
                simp only [Act.put, List.setIfInBounds_toArray, List.set_cons_zero, List.set_cons_succ]
                refine' wpT_det (o := ⟨some 53, Op.fieldAddr 113 (Operand.tmp 8) 2, 0, "l05_sparse.go:91", #[], none⟩) rfl (by rfl) (by rfl) (fun w' hw' => ?_) ?_; rotate_left
                · go_simp <;> first | rfl | exact ⟨rfl, rfl⟩
                simp only [Act.put, List.setIfInBounds_toArray, List.set_cons_zero, List.set_cons_succ]
                refine wpT_nd (o := ⟨some 54, Op.load 43 (Operand.tmp 53), 43, "l05_sparse.go:91", #[{ on := 7, ground := Ground.data }], none⟩) rfl (by rfl) (by rfl) (fun w' hw' hF R__ hGo => ?_) ⟨_, rfl⟩ ?_
                · have z_ := (hF 22 (by simp [uses]) undef rfl).cell 2 rfl; go_simp; exact gives_value rfl (hGo _ _ (Ext.refl _) rfl trivial)
                intro v hv
                obtain rfl : v = (.float .f32 x) := hv
                simp only [Act.put, List.setIfInBounds_toArray, List.set_cons_zero, List.set_cons_succ]
                refine wpT_nd (o := ⟨some 55, Op.binOp BinOp.add 43 (Operand.tmp 52) (Operand.tmp 54) 43, 43, "l05_sparse.go:91", #[{ on := 6, ground := Ground.data }, { on := 8, ground := Ground.data }], none⟩) rfl (by rfl) (by rfl) (fun w' hw' hF R__ hGo => ?_) (by obtain ⟨r, hr⟩ := ex_d .add ((by rw [hf6]) : fop .add .f32 (c32 (f6)) (c32 (x)) = (fadd d0 (c32 x))); exact ⟨_, r, rfl, hr⟩) ?_
                · exact gives_f .add (.inl rfl) _ _ _ _ rfl (f6) (x) rfl rfl (fadd d0 (c32 x)) (by rw [hf6]) (fun r w2 hx hc => hGo _ _ hx ⟨r, rfl, hc⟩ trivial)
                rintro _ ⟨f9, rfl, hf9⟩
                simp only [Act.put, List.setIfInBounds_toArray, List.set_cons_zero, List.set_cons_succ]
                refine wpT_mv (o := ⟨some 56, Op.mapEntry 92 (Operand.tmp 46) (Operand.tmp 51), 0, "l05_sparse.go:91", #[{ on := 0, ground := Ground.data }, { on := 5, ground := Ground.data }, { on := 0, ground := Ground.phase }, { on := 1, ground := Ground.phase }, { on := 2, ground := Ground.phase }, { on := 3, ground := Ground.phase }, { on := 4, ground := Ground.phase }, { on := 5, ground := Ground.phase }, { on := 6, ground := Ground.textOnly Departure.mapOpAssignEntry }, { on := 7, ground := Ground.phase }, { on := 8, ground := Ground.phase }, { on := 9, ground := Ground.textOnly Departure.mapOpAssignEntry }], none⟩) rfl (by rfl) (by rfl) (fun w' hw' hF R__ hGo => ?_) ⟨_, undef, 0, rfl⟩ ?_
                · have k1 : MapV w' b4 (N * N) N M := hF 21 (by simp [uses]) undef rfl; obtain ⟨v0, st, w9, hr, hg, hsz, ⟨Mx, hMx, hMd⟩, hst⟩ := k1.entry hn32 hri hci; simp only [placeV] at hr; have lb := k1.lt; go_simp; exact gives_value rfl (hGo _ _ (MapV.ge hg hw' hb4) (fun kk u hk hk2 h => by (revert hk hk2 h; (try dsimp only); split <;> intro hk hk2 h <;> first | trivial | (exfalso; apply hk; simp [uses]; done) | (exfalso; exact hk2 rfl) | exact ⟨Mx, _, hMx, hMd.trans HD0.out.symm⟩ | exact h.grown hg n1 | exact gb_trans h hg)) ⟨_, _, rfl⟩ (fun v1 s1 e1 => by (simp only [Value.tuple.injEq] at e1; have e2 := congrArg (fun a : Array Value => a[1]?) e1; simp only [List.getElem?_toArray, List.getElem?_cons_succ, List.getElem?_cons_zero, Option.some.injEq] at e2; rw [← e2]; exact ⟨by omega, hst⟩)))
                rintro _ ⟨v0, st_, rfl⟩
                simp only [Act.put, List.setIfInBounds_toArray, List.set_cons_zero, List.set_cons_succ]
                refine' wpT_det (o := ⟨some 57, Op.extract (Operand.tmp 56) 1, 3, "l05_sparse.go:91", #[{ on := 10, ground := Ground.data }], none⟩) rfl (by rfl) (by rfl) (fun w' hw' => ?_) ?_; rotate_left
                · go_simp <;> first | rfl | exact ⟨rfl, rfl⟩
                simp only [Act.put, List.setIfInBounds_toArray, List.set_cons_zero, List.set_cons_succ]
                refine wpT_nil (fun w5 hw' hF => ?_)
                show wpList _ _ _ [(⟨none, Op.entryStore 92 (Operand.tmp 46) (Operand.tmp 57) (Operand.tmp 55), 0, "l05_sparse.go:91", #[{ on := 0, ground := Ground.data }, { on := 11, ground := Ground.data }, { on := 9, ground := Ground.data }, { on := 10, ground := Ground.chain }, { on := 0, ground := Ground.phase }, { on := 1, ground := Ground.phase }, { on := 2, ground := Ground.phase }, { on := 3, ground := Ground.phase }, { on := 4, ground := Ground.phase }, { on := 5, ground := Ground.phase }, { on := 6, ground := Ground.phase }, { on := 7, ground := Ground.phase }, { on := 8, ground := Ground.phase }, { on := 9, ground := Ground.phase }, { on := 10, ground := Ground.phase }, { on := 11, ground := Ground.phase }], none⟩ : Oper)] _ _
                have h9 := (hF 10 _ rfl v0 st_ rfl).2 w5 f9 rfl
                have hg5 : wD.grownBy w5 (some b4) := hF 23 undef rfl
                obtain ⟨w6, hr6, hg6, hm6⟩ := h9
                clear hF hw'
                have hr7 := hr6
                simp only [goInt] at hr7
                rw [hf9] at hm6
                have hx6 := MapV.ge (gb_trans hg5 hg6) hxb hb4
                have HMM : Hid (updM M ri ci (some (fadd d0 (c32 x))) = frmM es (k + 1)) := by show _ = _; rw [HNX.out]; unfold accM; rw [HD0.out]
                rw [HMM.out] at hm6
                clear hm4 be hxb hg5 hg6
                go_wp2_with fail
                go_roundw
                case rel => exact ⟨k + 1, by omega, by go_num, hm6, (fun j hj => by
                  by_cases e : j = k
                  · rw [e]; exact HOK.out
                  · exact HO.out j (by omega)), hx6⟩
                case measure => simp [intOf]; omega
        · obtain rfl : k = n := by omega
          replace b1 := b1.ext hx
          replace hx0 := hx0.trans hx
          clear hx
          have HDD : Hid (giveSp N (frmM es k) = D) := by show _ = _; rw [HD.out, fromD_good HI.out (by rw [HL.out]; exact hlen) (fun j hj => HO.out j (by rw [HL.out] at hj; exact hj)), HL.out]
          go_wp2_with fail
          refine (told_any b4 _ N _ hn1 hn32 _ hm4).mono ?_
          rw [HDD.out]
          rintro e w6 ⟨A', kA, B', kB, V', kV, rfl, p1, p2, p3, n12, n13, n23, hx⟩
          clear hm4
          replace p1 := p1.base hx0.size
          replace p2 := p2.base hx0.size
          replace p3 := p3.base hx0.size
          replace b1 := b1.ext hx
          replace hx0 := hx0.trans hx
          clear hx
          have y0 := b1.cell 0 rfl
          have y1 := b1.cell 1 rfl
          have y2 := b1.cell 2 rfl
          have y3 := b1.cell 3 rfl
          have f0 := b1.free 0
          have f1 := b1.free 1
          have f2 := b1.free 2
          have f3 := b1.free 3
          have hq0 := b1.lt
          go_wp2_with fail
          have d0 := b1.set 0 (.int .i64 D.sd)
          have d1 := d0.set 1 (.slice A' D.st.length kA)
          have d2 := d1.set 2 (.slice B' D.co.length kB)
          have d3 := d2.set 3 (.slice V' D.va.length kV)
          have q1 := ((((p1.setBlk b1 (by decide) 0 (.int .i64 D.sd)).setBlk d0 (by decide) 1 (.slice A' D.st.length kA)).setBlk d1 (by decide) 2 (.slice B' D.co.length kB)).setBlk d2 (by decide) 3 (.slice V' D.va.length kV))
          have q2 := ((((p2.setBlk b1 (by decide) 0 (.int .i64 D.sd)).setBlk d0 (by decide) 1 (.slice A' D.st.length kA)).setBlk d1 (by decide) 2 (.slice B' D.co.length kB)).setBlk d2 (by decide) 3 (.slice V' D.va.length kV))
          have q3 := ((((p3.setBlk b1 (by decide) 0 (.int .i64 D.sd)).setBlk d0 (by decide) 1 (.slice A' D.st.length kA)).setBlk d1 (by decide) 2 (.slice B' D.co.length kB)).setBlk d2 (by decide) 3 (.slice V' D.va.length kV))
          have x2 := ((((hx0.set (p := ⟨w.heap.size, 0, none⟩) (by simp; try omega) (.int .i64 D.sd)).set (p := ⟨w.heap.size, 1, none⟩) (by simp; try omega) (.slice A' D.st.length kA)).set (p := ⟨w.heap.size, 2, none⟩) (by simp; try omega) (.slice B' D.co.length kB)).set (p := ⟨w.heap.size, 3, none⟩) (by simp; try omega) (.slice V' D.va.length kV))
          have r0 := d3.cell 0 rfl
          have r1 := d3.cell 1 rfl
          have r2 := d3.cell 2 rfl
          have r3 := d3.cell 3 rfl
          refine bodyPost_ret (v := .tuple #[.agg #[.int .i64 D.sd, .slice A' D.st.length kA, .slice B' D.co.length kB, .slice V' D.va.length kV], .bool D.ok]) (by simp only [results, Try.results54]; simp [go_sem, r0, r1, r2, r3]) rfl ?_
          exact ⟨A', kA, B', kB, V', kV, rfl, q1, q2, q3, n12, n13, n23, x2⟩

end Go.Proofs.Ytkifpligpobiaaa
