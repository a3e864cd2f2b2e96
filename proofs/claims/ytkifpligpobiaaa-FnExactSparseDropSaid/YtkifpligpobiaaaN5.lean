
/- SparseDrop, the reference. -/

import Derived.Test.YtkifpligpobiaaaN4
set_option linter.unusedVariables false
set_option linter.unusedSimpArgs false

namespace Go.Proofs.Ytkifpligpobiaaa

open Go.RowKit


/-- An opened square, and a blank one whose marks are set. -/
def FD (w0 : World) (b b' n N : Nat) (M TS L : Sqr) (w : World) : Prop := ∃ ga k gv q ys g1 k1 g2 q2 zs, cfs ys = nb n M ∧ Blk w b #[.int .i64 n, .slice (some ⟨ga, 0, none⟩) N k, .slice (some ⟨gv, 0, none⟩) N q] 71 ∧
  Own w w0.heap.size 4 (.slice (some ⟨ga, 0, none⟩) N k) (bools (tb n M)) ∧ ga ≠ g1 ∧ Own w w0.heap.size 43 (.slice (some ⟨gv, 0, none⟩) N q) (flts ys) ∧ gv ≠ g2 ∧ cfs zs = nb n L ∧ Blk w b' #[.int .i64 n, .slice (some ⟨g1, 0, none⟩) N k1, .slice (some ⟨g2, 0, none⟩) N q2] 71 ∧
  Own w w0.heap.size 4 (.slice (some ⟨g1, 0, none⟩) N k1) (bools (tb n TS)) ∧ Own w w0.heap.size 43 (.slice (some ⟨g2, 0, none⟩) N q2) (flts zs) ∧ Ext w0 w
theorem FD.fr {w0 w : World} {b b' n N : Nat} {M TS L : Sqr} (h : FD w0 b b' n N M TS L w) : FR w0 b b' n N M TS L w := by
  obtain ⟨ga, k, gv, q, ys, g1, k1, g2, q2, zs, h0, h1, ha, n1, h2, h3, h4, h5, h6, h7, h8⟩ := h
  exact ⟨_, k, gv, q, ys, g1, k1, g2, q2, zs, h0, h1, h2, h3, h4, h5, h6, h7, h8⟩
theorem FD.own {w0 w : World} {b b' n N : Nat} {M TS L : Sqr} (h : FD w0 b b' n N M TS L w) : Ext w0 w := by
  obtain ⟨ga, k, gv, q, ys, g1, k1, g2, q2, zs, h0, h1, ha, n1, h2, h3, h4, h5, h6, h7, h8⟩ := h
  exact h8
section

variable {w0 w : World} {b b' n N ga k gv q g1 k1 g2 q2 : Nat} {M TS L : Sqr} {ys zs : List Nat}

theorem FD.putT (h0 : cfs ys = nb n M) (h1 : Blk w b #[.int .i64 n, .slice (some ⟨ga, 0, none⟩) N k, .slice (some ⟨gv, 0, none⟩) N q] 71)
    (ha : Own w w0.heap.size 4 (.slice (some ⟨ga, 0, none⟩) N k) (bools (tb n M))) (n1 : ga ≠ g1) (h2 : Own w w0.heap.size 43 (.slice (some ⟨gv, 0, none⟩) N q) (flts ys)) (h3 : gv ≠ g2) (h4 : cfs zs = nb n L) (h5 : Blk w b' #[.int .i64 n, .slice (some ⟨g1, 0, none⟩) N k1, .slice (some ⟨g2, 0, none⟩) N q2] 71)
    (h6 : Own w w0.heap.size 4 (.slice (some ⟨g1, 0, none⟩) N k1) (bools (tb n TS))) (h7 : Own w w0.heap.size 43 (.slice (some ⟨g2, 0, none⟩) N q2) (flts zs)) (h8 : Ext w0 w)
    (t : Nat) (x : Bool) {TS' : Sqr} (e : (tb n TS).set t x = tb n TS') : FD w0 b b' n N M TS' L (w.setCell ⟨g1, t, none⟩ (.bool x)) := by
  obtain ⟨s1, s2⟩ := h6.stored t (.bool x)
  exact ⟨_, _, _, _, ys, _, _, _, _, zs, h0, h1.wr s2 h6 (by decide), ha.other s2 (.inr (by simpa [Value.ownBlock] using n1)), n1, h2.other s2 (h6.apart h2 (by decide)).2, h3, h4, h5.wr s2 h6 (by decide), by rw [← e, bools_set]; exact s1, h7.other s2 (h6.apart h7 (by decide)).2, s2.ext h8 h6⟩
theorem FD.putN (h0 : cfs ys = nb n M) (h1 : Blk w b #[.int .i64 n, .slice (some ⟨ga, 0, none⟩) N k, .slice (some ⟨gv, 0, none⟩) N q] 71)
    (ha : Own w w0.heap.size 4 (.slice (some ⟨ga, 0, none⟩) N k) (bools (tb n M))) (n1 : ga ≠ g1) (h2 : Own w w0.heap.size 43 (.slice (some ⟨gv, 0, none⟩) N q) (flts ys)) (h3 : gv ≠ g2) (h4 : cfs zs = nb n L) (h5 : Blk w b' #[.int .i64 n, .slice (some ⟨g1, 0, none⟩) N k1, .slice (some ⟨g2, 0, none⟩) N q2] 71)
    (h6 : Own w w0.heap.size 4 (.slice (some ⟨g1, 0, none⟩) N k1) (bools (tb n TS))) (h7 : Own w w0.heap.size 43 (.slice (some ⟨g2, 0, none⟩) N q2) (flts zs)) (h8 : Ext w0 w)
    (t : Nat) (x : Nat) {L' : Sqr} (e : (nb n L).set t (c32 x) = nb n L') : FD w0 b b' n N M TS L' (w.setCell ⟨g2, t, none⟩ (.float .f32 x)) := by
  obtain ⟨s1, s2⟩ := h7.stored t (.float .f32 x)
  exact ⟨_, _, _, _, ys, _, _, _, _, zs.set t x, h0, h1.wr s2 h7 (by decide), ha.other s2 (ha.apart h7 (by decide)).1, n1, h2.other s2 (.inr (by simpa [Value.ownBlock] using h3)), h3, by rw [cfs_set, h4, e], h5.wr s2 h7 (by decide), h6.other s2 (h6.apart h7 (by decide)).1, by rw [flts_set]; exact s1, s2.ext h8 h7⟩
end

/-- The lower part of a square, as far as it has been gone through. -/
def loS (M : Sqr) (i j : Nat) : Sqr := fun a b => if (a < i ∧ b ≤ a) ∨ (a = i ∧ b < j) then M a b else none
theorem loS_zero (M : Sqr) : loS M 0 0 = noneM := by
  funext a b
  unfold loS
  rw [if_neg (by omega)]
  rfl
theorem loS_row (M : Sqr) (i : Nat) : loS M i (i + 1) = loS M (i + 1) 0 := by
  funext a b
  unfold loS
  by_cases h : (a < i ∧ b ≤ a) ∨ (a = i ∧ b < i + 1)
  · rw [if_pos h, if_pos (by omega)]
  · rw [if_neg h, if_neg (by omega)]
theorem loS_here (M : Sqr) (i j : Nat) : loS M i (j + 1) i j = M i j := by
  unfold loS
  rw [if_pos (by omega)]
theorem loS_other (M : Sqr) {i j a b : Nat} (h : ¬ (a = i ∧ b = j)) : loS M i (j + 1) a b = loS M i j a b := by
  unfold loS
  by_cases e : (a < i ∧ b ≤ a) ∨ (a = i ∧ b < j)
  · rw [if_pos e, if_pos (by omega)]
  · rw [if_neg e, if_neg (by omega)]
theorem loS_end {n : Nat} (M : Sqr) : ∀ a b, a < n → b < n → (loS M n 0 a b).isSome = (decide (b ≤ a) && mkB M a b) := by
  intro a b ha hb
  unfold loS mkB
  by_cases e : b ≤ a
  · rw [if_pos (.inl ⟨ha, e⟩), decide_eq_true e, Bool.true_and]
  · rw [if_neg (by omega), decide_eq_false e]; rfl
theorem loS_tb {n i j : Nat} (M : Sqr) (hi : i < n) (hj : j < n) : (tb n (loS M i j)).set (i * n + j) (M i j).isSome = tb n (loS M i (j + 1)) :=
  tb_set hi hj (by rw [loS_here]) (fun a b h => by rw [loS_other M h])
theorem loS_nb {n i j : Nat} (M : Sqr) (hi : i < n) (hj : j < n) {x : Option Nat} (hx : x = (M i j).getD (some 0)) : (nb n (loS M i j)).set (i * n + j) x = nb n (loS M i (j + 1)) :=
  nb_set hi hj (by rw [loS_here, hx]) (fun a b h => by rw [loS_other M h])

set_option maxRecDepth 20000 in
set_option maxHeartbeats 8000000 in
theorem specSparseDrop_any (sd : Int) (A : Option Addr) (n ca : Nat) (B : Option Addr) (m cb : Nat) (V : Option Addr) (p cv : Nat) (st co : List Int) (va : List Nat) (w : World) (hr : Rds w A n (ints st)) (hq : Rds w B m (ints co)) (hv : Rds w V p (flts va)) :
    Calls Try.prog 67 #[.agg #[.int .i64 sd, .slice A n ca, .slice B m cb, .slice V p cv]] w (RetSqB w (dropD sd st co va)) := by
  have HM := Lib.hid hq.ilen
  cases hs : isSp sd st co va with
  | false =>
    have hd : dropD sd st co va = SD.bad := by unfold dropD; rw [hs]; rfl
    go_enter Try.func67, Try.ntmps67
    go_upto_region 1 with (fail)
    obtain ⟨w0, hw0⟩ : ∃ w0, w0 = ((w.alloc (.cells #[.int .i64 sd, .slice A n ca, .slice B m cb, .slice V p cv] 27)).alloc (.cells #[.int .i64 0, .slice none 0 0, .slice none 0 0, .slice none 0 0] 27)) := ⟨_, rfl⟩
    have hx0 : Ext w w0 := by subst hw0; exact ((Ext.refl _).alloc _).alloc _
    have ba : Blk w0 (w.heap.size) #[.int .i64 sd, .slice A n ca, .slice B m cb, .slice V p cv] 27 := by subst hw0; exact (Blk.new w _ _).ext ((Ext.refl _).alloc _)
    have b1 : Blk w0 (w.heap.size + 1) #[.int .i64 0, .slice none 0 0, .slice none 0 0, .slice none 0 0] 27 := by subst hw0; simpa using (Blk.new (w.alloc (.cells #[.int .i64 sd, .slice A n ca, .slice B m cb, .slice V p cv] 27)) _ _)
    rw [← hw0]
    clear hw0
    go_wp2_with fail
    refine (l05Is_any _ sd A n ca B m cb V p cv st co va _ (SAt.of ba (hr.below hx0) (hq.below hx0) (hv.below hx0))).mono ?_
    rintro e w1 ⟨rfl, hx⟩
    rw [hs]
    replace ba := ba.ext hx
    replace b1 := b1.ext hx
    replace hx0 := hx0.trans hx
    clear hx
    have y0 := b1.cell 0 rfl
    have y1 := b1.cell 1 rfl
    have y2 := b1.cell 2 rfl
    have y3 := b1.cell 3 rfl
    have f0 := b1.free 0
    have f1 := b1.free 1
    have f2 := b1.free 2
    have f3 := b1.free 3
    have hq0 := b1.lt
    go_wp2_with fail
    have d0 := b1.set 0 (.int .i64 0)
    have d1 := d0.set 1 (.slice none 0 0)
    have d2 := d1.set 2 (.slice none 0 0)
    have d3 := d2.set 3 (.slice none 0 0)
    have x2 := ((((hx0.set (p := ⟨w.heap.size + 1, 0, none⟩) (by simp; try omega) (.int .i64 0)).set (p := ⟨w.heap.size + 1, 1, none⟩) (by simp; try omega) (.slice none 0 0)).set (p := ⟨w.heap.size + 1, 2, none⟩) (by simp; try omega) (.slice none 0 0)).set (p := ⟨w.heap.size + 1, 3, none⟩) (by simp; try omega) (.slice none 0 0))
    have r0 := d3.cell 0 rfl
    have r1 := d3.cell 1 rfl
    have r2 := d3.cell 2 rfl
    have r3 := d3.cell 3 rfl
    refine bodyPost_ret (v := .tuple #[.agg #[.int .i64 0, .slice none 0 0, .slice none 0 0, .slice none 0 0], .bool false]) (by simp only [results, Try.results67]; simp [go_sem, r0, r1, r2, r3]) rfl (RetSqB.bad hd rfl x2)
  | true =>
    have hsp := isSp_iff.1 hs
    obtain ⟨N, rfl⟩ : ∃ N : Nat, sd = N := ⟨sd.toNat, by have := hsp.s1; omega⟩
    have hn1 : 1 ≤ N := by have := hsp.s1; omega
    have hn32 : N ≤ 32 := by have := hsp.s1; omega
    have HSP := Lib.hid hsp
    clear hsp
    obtain ⟨M, hM⟩ : ∃ M, M = vw st co va m := ⟨_, rfl⟩
    have HV := Lib.hid hM
    have hd := dropD_eq (N := N) hs
    rw [HM.out, ← hM] at hd
    obtain ⟨D, hD⟩ : ∃ D, D = dropD N st co va := ⟨_, rfl⟩
    rw [← hD]
    rw [← hD] at hd
    have HD := Lib.hid hd
    clear hd hD hM
    go_enter Try.func67, Try.ntmps67
    go_upto_region 1 with (fail)
    obtain ⟨w0, hw0⟩ : ∃ w0, w0 = ((w.alloc (.cells #[.int .i64 N, .slice A n ca, .slice B m cb, .slice V p cv] 27)).alloc (.cells #[.int .i64 0, .slice none 0 0, .slice none 0 0, .slice none 0 0] 27)) := ⟨_, rfl⟩
    have hx0 : Ext w w0 := by subst hw0; exact ((Ext.refl _).alloc _).alloc _
    have ba : Blk w0 (w.heap.size) #[.int .i64 N, .slice A n ca, .slice B m cb, .slice V p cv] 27 := by subst hw0; exact (Blk.new w _ _).ext ((Ext.refl _).alloc _)
    have b1 : Blk w0 (w.heap.size + 1) #[.int .i64 0, .slice none 0 0, .slice none 0 0, .slice none 0 0] 27 := by subst hw0; simpa using (Blk.new (w.alloc (.cells #[.int .i64 N, .slice A n ca, .slice B m cb, .slice V p cv] 27)) _ _)
    rw [← hw0]
    clear hw0
    go_wp2_with fail
    refine (l05Is_any _ N A n ca B m cb V p cv st co va _ (SAt.of ba (hr.below hx0) (hq.below hx0) (hv.below hx0))).mono ?_
    rintro e w1 ⟨rfl, hx⟩
    rw [hs]
    replace ba := ba.ext hx
    replace b1 := b1.ext hx
    replace hx0 := hx0.trans hx
    clear hx
    obtain ⟨NN, hNN⟩ : ∃ NN, NN = N * N := ⟨_, rfl⟩
    have HN := Lib.hid hNN
    have hNN1 : 1 ≤ NN := by rw [hNN]; exact Nat.mul_pos hn1 hn1
    have hNN2 : NN ≤ 1024 := by rw [hNN]; exact Nat.mul_le_mul hn32 hn32
    clear hNN
    go_wp2_with fail
    refine (l05Open_any _ N A n ca B m cb V p cv st co va HSP.out _ (SAt.of ba (hr.below hx0) (hq.below hx0) (hv.below hx0))).mono ?_
    rw [← HV.out]
    rintro e w5 ⟨TA, k, U, q, ys, rfl, h0, ha, h2, hx⟩
    rw [← HN.out] at ha h2
    rw [← HN.out]
    go_upto_region 4 with (fail)
    have h1 := Blk.new w5 #[.int .i64 N, .slice TA NN k, .slice U NN q] 71
    have xg : Ext w5 (w5.alloc (.cells #[.int .i64 N, .slice TA NN k, .slice U NN q] 71)) := (Ext.refl _).alloc _
    replace ha := ha.ext xg
    replace h2 := h2.ext xg
    have h8 := hx.trans xg
    obtain ⟨ga, rfl, _⟩ := ha.head (by omega)
    obtain ⟨gv, rfl, _⟩ := h2.head (by omega)
    obtain ⟨w6, hw6⟩ : ∃ v : World, v = w5.alloc (.cells #[.int .i64 N, .slice (some ⟨ga, 0, none⟩) NN k, .slice (some ⟨gv, 0, none⟩) NN q] 71) := ⟨_, rfl⟩
    obtain ⟨fb, hfb⟩ : ∃ fb, fb = w5.heap.size := ⟨_, rfl⟩
    rw [← hw6] at ha h2 h8
    rw [← hw6, ← hfb] at h1
    rw [← hw6, ← hfb]
    clear hw6 hfb hx xg
    have la := ha.lt_size ga rfl
    have lv := h2.lt_size gv rfl
    have c0 := (ba.ext h8).cell 0 rfl
    go_wp2_with fail
    refine (l05Blank_any N hn32 _).mono ?_
    rintro e w7 ⟨TB, k1, UB, q2, zs, rfl, h4, h6, h7, hx⟩
    clear c0
    rw [← HN.out] at h6 h7
    rw [← HN.out]
    go_upto_region 5 with (fail)
    have h5 := Blk.new w7 #[.int .i64 N, .slice TB NN k1, .slice UB NN q2] 71
    have xg : Ext w7 (w7.alloc (.cells #[.int .i64 N, .slice TB NN k1, .slice UB NN q2] 71)) := (Ext.refl _).alloc _
    have hx7 := hx.trans xg
    replace h6 := h6.ext xg
    replace h7 := h7.ext xg
    replace h1 := h1.ext hx7
    replace ha := ha.ext hx7
    replace h2 := h2.ext hx7
    obtain ⟨g1, rfl, hg1_⟩ := h6.head (by omega)
    obtain ⟨g2, rfl, hg2_⟩ := h7.head (by omega)
    have n1 : ga ≠ g1 := by omega
    have h3 : gv ≠ g2 := by omega
    replace h6 := h6.base h8.size
    replace h7 := h7.base h8.size
    replace h8 := h8.trans hx7
    obtain ⟨w8, hw8⟩ : ∃ v : World, v = w7.alloc (.cells #[.int .i64 N, .slice (some ⟨g1, 0, none⟩) NN k1, .slice (some ⟨g2, 0, none⟩) NN q2] 71) := ⟨_, rfl⟩
    obtain ⟨fb', hfb⟩ : ∃ fb, fb = w7.heap.size := ⟨_, rfl⟩
    rw [← hw8] at h1 ha h2 h6 h7 h8
    rw [← hw8, ← hfb] at h5
    rw [← hw8, ← hfb]
    clear hw8 hfb hx xg hx7 la lv hg1_ hg2_

    have hst : FD w1 fb fb' N NN M (loS M 0 0) noneM w8 := by
      rw [loS_zero]
      exact ⟨_, _, _, _, ys, _, _, _, _, zs, h0, h1, ha, n1, h2, h3, h4, h5, h6, h7, h8⟩
    clear h0 h1 ha n1 h2 h3 h4 h5 h6 h7 h8
    go_wp2_with fail
    go_loopw [6] (fun u wr => ∃ i : Nat, i ≤ N ∧ u = .int .i64 i ∧ Hid (∀ k, k < i → (M k k).isSome = true) ∧ FD w1 fb fb' N NN M (loS M i 0) noneM wr) (fun u _ => N - (intOf u).toNat)
    case atStart => exact ⟨0, Nat.zero_le _, rfl, fun k hk => absurd hk (Nat.not_lt_zero _), hst⟩
    case round =>
      rename World => wA
      clear hst
      obtain ⟨i, hi, rfl, HA, hst⟩ := hrel
      have c0 := (ba.ext hst.own).cell 0 rfl
      by_cases hlt : i < N
      · have hg1 : IntKind.i64.wrap ((i : Int) + 1) = (i : Int) + 1 := IntWalk.i64_in _ (by omega)
        have hxA := hst.own
        obtain ⟨ga, k, gv, q, ys, g1, k1, g2, q2, zs, h0, h1, ha, n1, h2, h3, h4, h5, h6, h7, h8⟩ := id hst
        obtain ⟨i1, i2, i3, i4, i5, i6⟩ := ix32 hlt hlt hn32
        rw [← HN.out] at i4 i6
        have i7 : i * N + i < NN := by omega
        have lt := ha.reads.blen
        obtain ⟨hca, _⟩ := ha.at_ (i * N + i) (by omega)
        rw [bools_get (by omega), tb_at M hlt hlt] at hca
        have z1 := h1.cell 1 rfl
        clear h0 ha n1 h2 h3 h4 h5 h6 h7 h8
        cases ht : (M i i).isSome with
        | false =>
          rw [ht] at hca
          have hd : D = SD.bad := by rw [HD.out, diaB_bad hlt ht]; rfl
          clear ht hst h1
          replace b1 := b1.ext hxA
          replace hx0 := hx0.trans hxA
          clear hxA ba
          have y0 := b1.cell 0 rfl
          have y1 := b1.cell 1 rfl
          have y2 := b1.cell 2 rfl
          have y3 := b1.cell 3 rfl
          have f0 := b1.free 0
          have f1 := b1.free 1
          have f2 := b1.free 2
          have f3 := b1.free 3
          have hq0 := b1.lt
          go_wp2_with fail
          have d0 := b1.set 0 (.int .i64 0)
          have d1 := d0.set 1 (.slice none 0 0)
          have d2 := d1.set 2 (.slice none 0 0)
          have d3 := d2.set 3 (.slice none 0 0)
          have x2 := ((((hx0.set (p := ⟨w.heap.size + 1, 0, none⟩) (by simp; try omega) (.int .i64 0)).set (p := ⟨w.heap.size + 1, 1, none⟩) (by simp; try omega) (.slice none 0 0)).set (p := ⟨w.heap.size + 1, 2, none⟩) (by simp; try omega) (.slice none 0 0)).set (p := ⟨w.heap.size + 1, 3, none⟩) (by simp; try omega) (.slice none 0 0))
          have r0 := d3.cell 0 rfl
          have r1 := d3.cell 1 rfl
          have r2 := d3.cell 2 rfl
          have r3 := d3.cell 3 rfl
          refine bodyPost_ret (v := .tuple #[.agg #[.int .i64 0, .slice none 0 0, .slice none 0 0, .slice none 0 0], .bool false]) (by simp only [results, Try.results67]; simp [go_sem, r0, r1, r2, r3]) rfl (RetSqB.bad hd rfl x2)
        | true =>
          rw [ht] at hca
          have HA' : Hid (∀ k, k < i + 1 → (M k k).isSome = true) := fun k hk => by
            by_cases e : k = i
            · rw [e]; exact ht
            · exact HA.out k (by omega)
          clear ht h1 lt
          go_wp2_with fail
          clear c0 hca z1 hxA i1 i2 i3 i4 i5 i6 i7
          go_loopw [7] (fun u wr => ∃ j : Nat, j ≤ i + 1 ∧ u = .int .i64 j ∧ FD w1 fb fb' N NN M (loS M i j) noneM wr) (fun u _ => i + 1 - (intOf u).toNat)
          case atStart => exact ⟨0, Nat.zero_le _, rfl, hst⟩
          case round =>
            rename World => wB
            clear hst
            obtain ⟨j, hj, rfl, hst⟩ := hrel
            have c0 := (ba.ext hst.own).cell 0 rfl
            by_cases hji : j ≤ i
            · have hjn : j < N := by omega
              have hjiI : (j : Int) ≤ i := by omega
              have hg2 : IntKind.i64.wrap ((j : Int) + 1) = (j : Int) + 1 := IntWalk.i64_in _ (by omega)
              obtain ⟨ga, k, gv, q, ys, g1, k1, g2, q2, zs, h0, h1, ha, n1, h2, h3, h4, h5, h6, h7, h8⟩ := hst
              obtain ⟨i1, i2, i3, i4, i5, i6⟩ := ix32 hlt hjn hn32
              rw [← HN.out] at i4 i6
              have i7 : i * N + j < NN := by omega
              have lt := ha.reads.blen
              have lt6 := h6.reads.blen
              obtain ⟨hca, _⟩ := ha.at_ (i * N + j) (by omega)
              rw [bools_get (by omega), tb_at M hlt hjn] at hca
              have HTB := Lib.hid (loS_tb M hlt hjn)
              obtain ⟨t, ht⟩ : ∃ t, t = (M i j).isSome := ⟨_, rfl⟩
              rw [← ht] at hca HTB
              clear ht
              have z1 := h1.cell 1 rfl
              have z2 := h5.cell 1 rfl
              go_wp2_with fail
              refine wp_region_T (cs := []) [0, 1, 2, 3, 4, 5, 6, 7, 8, 9, 10, 11, 12, 13, 14, 15, 16, 17] [18, 19] [] [] (fun _ _ => False) (fun _ _ _ => True) (by kernel_rfl) (by kernel_rfl) (fun _ _ _ _ _ _ => trivial) ?_
              refine' wpT_det (o := ⟨some 38, Op.fieldAddr 71 (Operand.tmp 5) 1, 0, "l05_sparse.go:480", #[], none⟩) rfl (by rfl) (by rfl) (fun w' hw' => ?_) ?_; rotate_left
              · go_simp <;> first | rfl | exact ⟨rfl, rfl⟩
              simp only [Act.put, List.setIfInBounds_toArray, List.set_cons_zero, List.set_cons_succ]
              refine' wpT_det (o := ⟨some 39, Op.load 69 (Operand.tmp 38), 69, "l05_sparse.go:480", #[{ on := 0, ground := Ground.data }], none⟩) rfl (by rfl) (by rfl) (fun w' hw' => ?_) ?_; rotate_left
              · have z1_ := Ext.cell hw' z1; have z2_ := Ext.cell hw' z2; have c0_ := Ext.cell hw' c0; have hca_ := Ext.cell hw' hca; go_simp <;> first | rfl | exact ⟨rfl, rfl⟩
              simp only [Act.put, List.setIfInBounds_toArray, List.set_cons_zero, List.set_cons_succ]
              refine' wpT_det (o := ⟨some 40, Op.move (Operand.tmp 6), 2, "l05_sparse.go:480", #[], none⟩) rfl (by rfl) (by rfl) (fun w' hw' => ?_) ?_; rotate_left
              · go_simp <;> first | rfl | exact ⟨rfl, rfl⟩
              simp only [Act.put, List.setIfInBounds_toArray, List.set_cons_zero, List.set_cons_succ]
              refine' wpT_det (o := ⟨some 41, Op.fieldAddr 27 (Operand.tmp 1) 0, 0, "l05_sparse.go:480", #[], none⟩) rfl (by rfl) (by rfl) (fun w' hw' => ?_) ?_; rotate_left
              · go_simp <;> first | rfl | exact ⟨rfl, rfl⟩
              simp only [Act.put, List.setIfInBounds_toArray, List.set_cons_zero, List.set_cons_succ]
              refine' wpT_det (o := ⟨some 42, Op.load 2 (Operand.tmp 41), 2, "l05_sparse.go:480", #[{ on := 3, ground := Ground.data }], none⟩) rfl (by rfl) (by rfl) (fun w' hw' => ?_) ?_; rotate_left
              · have z1_ := Ext.cell hw' z1; have z2_ := Ext.cell hw' z2; have c0_ := Ext.cell hw' c0; have hca_ := Ext.cell hw' hca; go_simp <;> first | rfl | exact ⟨rfl, rfl⟩
              simp only [Act.put, List.setIfInBounds_toArray, List.set_cons_zero, List.set_cons_succ]
              refine' wpT_det (o := ⟨some 43, Op.binOp BinOp.mul 2 (Operand.tmp 40) (Operand.tmp 42) 2, 2, "l05_sparse.go:480", #[{ on := 2, ground := Ground.data }, { on := 4, ground := Ground.data }], none⟩) rfl (by rfl) (by rfl) (fun w' hw' => ?_) ?_; rotate_left
              · go_simp <;> first | rfl | exact ⟨rfl, rfl⟩
              simp only [Act.put, List.setIfInBounds_toArray, List.set_cons_zero, List.set_cons_succ]
              refine' wpT_det (o := ⟨some 44, Op.move (Operand.tmp 7), 2, "l05_sparse.go:480", #[], none⟩) rfl (by rfl) (by rfl) (fun w' hw' => ?_) ?_; rotate_left
              · go_simp <;> first | rfl | exact ⟨rfl, rfl⟩
              simp only [Act.put, List.setIfInBounds_toArray, List.set_cons_zero, List.set_cons_succ]
              refine' wpT_det (o := ⟨some 45, Op.binOp BinOp.add 2 (Operand.tmp 43) (Operand.tmp 44) 2, 2, "l05_sparse.go:480", #[{ on := 5, ground := Ground.data }, { on := 6, ground := Ground.data }], none⟩) rfl (by rfl) (by rfl) (fun w' hw' => ?_) ?_; rotate_left
              · go_simp <;> first | rfl | exact ⟨rfl, rfl⟩
              simp only [Act.put, List.setIfInBounds_toArray, List.set_cons_zero, List.set_cons_succ]
              refine' wpT_det (o := ⟨some 46, Op.fieldAddr 71 (Operand.tmp 4) 1, 0, "l05_sparse.go:480", #[], none⟩) rfl (by rfl) (by rfl) (fun w' hw' => ?_) ?_; rotate_left
              · go_simp <;> first | rfl | exact ⟨rfl, rfl⟩
              simp only [Act.put, List.setIfInBounds_toArray, List.set_cons_zero, List.set_cons_succ]
              refine' wpT_det (o := ⟨some 47, Op.load 69 (Operand.tmp 46), 69, "l05_sparse.go:480", #[{ on := 8, ground := Ground.data }], none⟩) rfl (by rfl) (by rfl) (fun w' hw' => ?_) ?_; rotate_left
              · have z1_ := Ext.cell hw' z1; have z2_ := Ext.cell hw' z2; have c0_ := Ext.cell hw' c0; have hca_ := Ext.cell hw' hca; go_simp <;> first | rfl | exact ⟨rfl, rfl⟩
              simp only [Act.put, List.setIfInBounds_toArray, List.set_cons_zero, List.set_cons_succ]
              refine' wpT_det (o := ⟨some 48, Op.move (Operand.tmp 6), 2, "l05_sparse.go:480", #[], none⟩) rfl (by rfl) (by rfl) (fun w' hw' => ?_) ?_; rotate_left
              · go_simp <;> first | rfl | exact ⟨rfl, rfl⟩
              simp only [Act.put, List.setIfInBounds_toArray, List.set_cons_zero, List.set_cons_succ]
              refine' wpT_det (o := ⟨some 49, Op.fieldAddr 27 (Operand.tmp 1) 0, 0, "l05_sparse.go:480", #[], none⟩) rfl (by rfl) (by rfl) (fun w' hw' => ?_) ?_; rotate_left
              · go_simp <;> first | rfl | exact ⟨rfl, rfl⟩
              simp only [Act.put, List.setIfInBounds_toArray, List.set_cons_zero, List.set_cons_succ]
              refine' wpT_det (o := ⟨some 50, Op.load 2 (Operand.tmp 49), 2, "l05_sparse.go:480", #[{ on := 11, ground := Ground.data }], none⟩) rfl (by rfl) (by rfl) (fun w' hw' => ?_) ?_; rotate_left
              · have z1_ := Ext.cell hw' z1; have z2_ := Ext.cell hw' z2; have c0_ := Ext.cell hw' c0; have hca_ := Ext.cell hw' hca; go_simp <;> first | rfl | exact ⟨rfl, rfl⟩
              simp only [Act.put, List.setIfInBounds_toArray, List.set_cons_zero, List.set_cons_succ]
              refine' wpT_det (o := ⟨some 51, Op.binOp BinOp.mul 2 (Operand.tmp 48) (Operand.tmp 50) 2, 2, "l05_sparse.go:480", #[{ on := 10, ground := Ground.data }, { on := 12, ground := Ground.data }], none⟩) rfl (by rfl) (by rfl) (fun w' hw' => ?_) ?_; rotate_left
              · go_simp <;> first | rfl | exact ⟨rfl, rfl⟩
              simp only [Act.put, List.setIfInBounds_toArray, List.set_cons_zero, List.set_cons_succ]
              refine' wpT_det (o := ⟨some 52, Op.move (Operand.tmp 7), 2, "l05_sparse.go:480", #[], none⟩) rfl (by rfl) (by rfl) (fun w' hw' => ?_) ?_; rotate_left
              · go_simp <;> first | rfl | exact ⟨rfl, rfl⟩
              simp only [Act.put, List.setIfInBounds_toArray, List.set_cons_zero, List.set_cons_succ]
              refine' wpT_det (o := ⟨some 53, Op.binOp BinOp.add 2 (Operand.tmp 51) (Operand.tmp 52) 2, 2, "l05_sparse.go:480", #[{ on := 13, ground := Ground.data }, { on := 14, ground := Ground.data }], none⟩) rfl (by rfl) (by rfl) (fun w' hw' => ?_) ?_; rotate_left
              · go_simp <;> first | rfl | exact ⟨rfl, rfl⟩
              simp only [Act.put, List.setIfInBounds_toArray, List.set_cons_zero, List.set_cons_succ]
              refine' wpT_det (o := ⟨some 54, Op.indexAddr 69 (Operand.tmp 47) (Operand.tmp 53), 0, "l05_sparse.go:480", #[{ on := 9, ground := Ground.data }, { on := 15, ground := Ground.data }], none⟩) rfl (by rfl) (by rfl) (fun w' hw' => ?_) ?_; rotate_left
              · go_simp <;> first | rfl | exact ⟨rfl, rfl⟩
              simp only [Act.put, List.setIfInBounds_toArray, List.set_cons_zero, List.set_cons_succ]
              refine' wpT_det (o := ⟨some 55, Op.load 4 (Operand.tmp 54), 4, "l05_sparse.go:480", #[{ on := 16, ground := Ground.data }], none⟩) rfl (by rfl) (by rfl) (fun w' hw' => ?_) ?_; rotate_left
              · have z1_ := Ext.cell hw' z1; have z2_ := Ext.cell hw' z2; have c0_ := Ext.cell hw' c0; have hca_ := Ext.cell hw' hca; go_simp <;> first | rfl | exact ⟨rfl, rfl⟩
              simp only [Act.put, List.setIfInBounds_toArray, List.set_cons_zero, List.set_cons_succ]
              refine wpT_nil (fun w9 hw' hF => ?_)
              show wpList _ _ _ [(⟨some 56, Op.indexAddr 69 (Operand.tmp 39) (Operand.tmp 45), 0, "l05_sparse.go:480", #[{ on := 1, ground := Ground.data }, { on := 7, ground := Ground.data }, { on := 0, ground := Ground.phase }, { on := 1, ground := Ground.phase }, { on := 2, ground := Ground.phase }, { on := 3, ground := Ground.phase }, { on := 4, ground := Ground.phase }, { on := 5, ground := Ground.phase }, { on := 6, ground := Ground.phase }, { on := 7, ground := Ground.phase }, { on := 8, ground := Ground.phase }, { on := 9, ground := Ground.phase }, { on := 10, ground := Ground.phase }, { on := 11, ground := Ground.phase }, { on := 12, ground := Ground.phase }, { on := 13, ground := Ground.phase }, { on := 14, ground := Ground.phase }, { on := 15, ground := Ground.phase }, { on := 16, ground := Ground.phase }, { on := 17, ground := Ground.phase }], none⟩ : Oper), (⟨none, Op.store 4 (Operand.tmp 56) (Operand.tmp 55), 0, "l05_sparse.go:480", #[{ on := 18, ground := Ground.data }, { on := 17, ground := Ground.data }, { on := 0, ground := Ground.phase }, { on := 1, ground := Ground.phase }, { on := 2, ground := Ground.phase }, { on := 3, ground := Ground.phase }, { on := 4, ground := Ground.phase }, { on := 5, ground := Ground.phase }, { on := 6, ground := Ground.phase }, { on := 7, ground := Ground.phase }, { on := 8, ground := Ground.phase }, { on := 9, ground := Ground.phase }, { on := 10, ground := Ground.phase }, { on := 11, ground := Ground.phase }, { on := 12, ground := Ground.phase }, { on := 13, ground := Ground.phase }, { on := 14, ground := Ground.phase }, { on := 15, ground := Ground.phase }, { on := 16, ground := Ground.phase }, { on := 17, ground := Ground.phase }], none⟩ : Oper)] _ _
              have hx := hw'.undrew
              clear hF hw' z1 z2 c0 hca
              replace h1 := h1.ext hx
              replace ha := ha.ext hx
              replace h2 := h2.ext hx
              replace h5 := h5.ext hx
              replace h6 := h6.ext hx
              replace h7 := h7.ext hx
              replace h8 := h8.trans hx

              clear hx
              obtain ⟨hcb, hf⟩ := h6.at_ (i * N + j) (by omega)
              rw [bools_get (by omega)] at hcb
              have hsb := store_bool Try.prog t hcb hf
              have hm := FD.putT h0 h1 ha n1 h2 h3 h4 h5 h6 h7 h8 (i * N + j) t HTB.out
              clear h0 h1 ha n1 h2 h3 h4 h5 h6 h7 h8
              go_wp2_with fail
              go_roundw
              case rel => exact ⟨j + 1, by omega, by go_num, hm⟩
              case measure => simp [intOf]; omega
            · obtain rfl : j = i + 1 := by omega
              rw [loS_row] at hst
              have hnj : ¬ (((i + 1 : Nat) : Int) ≤ (i : Int)) := by omega
              go_wp2_with fail
              go_roundw
              case rel => exact ⟨i + 1, by omega, by go_num, HA', hst⟩
              case measure => simp [intOf]; omega
      · obtain rfl : i = N := by omega
        have HD2 : Hid (D = rtD i (mkB M) M) := by show _ = _; rw [HD.out, diaB_good HA.out]; rfl
        have hfr := hst.fr
        clear hst
        go_wp2_with fail
        refine (l05Root_any w1 fb fb' i NN (mkB M) M _ hn1 hn32 HN.out (loS_end M) _ hfr).mono ?_
        rw [← HD2.out]
        rintro e w9 ⟨A'', kA, B'', kB, V'', kV, rfl, p1, p2, p3, n12, n13, n23, hx⟩
        clear c0 ba hfr
        replace p1 := p1.base hx0.size
        replace p2 := p2.base hx0.size
        replace p3 := p3.base hx0.size
        replace b1 := b1.ext hx
        replace hx0 := hx0.trans hx
        clear hx
        have y0 := b1.cell 0 rfl
        have y1 := b1.cell 1 rfl
        have y2 := b1.cell 2 rfl
        have y3 := b1.cell 3 rfl
        have f0 := b1.free 0
        have f1 := b1.free 1
        have f2 := b1.free 2
        have f3 := b1.free 3
        have hq0 := b1.lt
        go_wp2_with fail
        have d0 := b1.set 0 (.int .i64 D.sd)
        have d1 := d0.set 1 (.slice A'' D.st.length kA)
        have d2 := d1.set 2 (.slice B'' D.co.length kB)
        have d3 := d2.set 3 (.slice V'' D.va.length kV)
        have q1 := ((((p1.setBlk b1 (by decide) 0 (.int .i64 D.sd)).setBlk d0 (by decide) 1 (.slice A'' D.st.length kA)).setBlk d1 (by decide) 2 (.slice B'' D.co.length kB)).setBlk d2 (by decide) 3 (.slice V'' D.va.length kV))
        have q2 := ((((p2.setBlk b1 (by decide) 0 (.int .i64 D.sd)).setBlk d0 (by decide) 1 (.slice A'' D.st.length kA)).setBlk d1 (by decide) 2 (.slice B'' D.co.length kB)).setBlk d2 (by decide) 3 (.slice V'' D.va.length kV))
        have q3 := ((((p3.setBlk b1 (by decide) 0 (.int .i64 D.sd)).setBlk d0 (by decide) 1 (.slice A'' D.st.length kA)).setBlk d1 (by decide) 2 (.slice B'' D.co.length kB)).setBlk d2 (by decide) 3 (.slice V'' D.va.length kV))
        have x2 := ((((hx0.set (p := ⟨w.heap.size + 1, 0, none⟩) (by simp; try omega) (.int .i64 D.sd)).set (p := ⟨w.heap.size + 1, 1, none⟩) (by simp; try omega) (.slice A'' D.st.length kA)).set (p := ⟨w.heap.size + 1, 2, none⟩) (by simp; try omega) (.slice B'' D.co.length kB)).set (p := ⟨w.heap.size + 1, 3, none⟩) (by simp; try omega) (.slice V'' D.va.length kV))
        have r0 := d3.cell 0 rfl
        have r1 := d3.cell 1 rfl
        have r2 := d3.cell 2 rfl
        have r3 := d3.cell 3 rfl
        refine bodyPost_ret (v := .tuple #[.agg #[.int .i64 D.sd, .slice A'' D.st.length kA, .slice B'' D.co.length kB, .slice V'' D.va.length kV], .bool D.ok]) (by simp only [results, Try.results67]; simp [go_sem, r0, r1, r2, r3]) rfl ?_
        exact ⟨A'', kA, B'', kB, V'', kV, rfl, q1, q2, q3, n12, n13, n23, x2⟩

end Go.Proofs.Ytkifpligpobiaaa
