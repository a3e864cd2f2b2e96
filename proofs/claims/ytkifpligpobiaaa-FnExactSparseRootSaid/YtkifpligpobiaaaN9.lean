
/- SparseRoot, the reference. -/

import Derived.Test.YtkifpligpobiaaaN8

import Derived.Test.YtkifpligpobiaaaH9
set_option linter.unusedVariables false
set_option linter.unusedSimpArgs false

namespace Go.Proofs.Ytkifpligpobiaaa

open Go.RowKit


theorem RowsOf.wrB {w w' : World} {base b2 : Nat} {vs : List Value} {Ls : List (List Int)} {v : Value} {us : List Value} (h : RowsOf w base vs Ls) (hw : Wr w w' v) (ho : Own w b2 4 v us) : RowsOf w' base vs Ls :=
  ⟨h.1, fun j L hj => by obtain ⟨A, c, h1, h2⟩ := h.2 j L hj; exact ⟨A, c, h1, h2.other hw (h2.apart ho (by decide)).1⟩⟩
theorem FR.putT {w0 w : World} {b b' n N k gv q g1 k1 g2 q2 : Nat} {A : Option Addr} {M TS L : Sqr} {ys zs : List Nat} (h0 : cfs ys = nb n M) (h1 : Blk w b #[.int .i64 n, .slice A N k, .slice (some ⟨gv, 0, none⟩) N q] 71)
    (h2 : Own w w0.heap.size 43 (.slice (some ⟨gv, 0, none⟩) N q) (flts ys)) (h3 : gv ≠ g2) (h4 : cfs zs = nb n L) (h5 : Blk w b' #[.int .i64 n, .slice (some ⟨g1, 0, none⟩) N k1, .slice (some ⟨g2, 0, none⟩) N q2] 71)
    (h6 : Own w w0.heap.size 4 (.slice (some ⟨g1, 0, none⟩) N k1) (bools (tb n TS))) (h7 : Own w w0.heap.size 43 (.slice (some ⟨g2, 0, none⟩) N q2) (flts zs)) (h8 : Ext w0 w)
    (t : Nat) (x : Bool) {TS' : Sqr} (e : (tb n TS).set t x = tb n TS') : FR w0 b b' n N M TS' L (w.setCell ⟨g1, t, none⟩ (.bool x)) := by
  obtain ⟨s1, s2⟩ := h6.stored t (.bool x)
  exact ⟨_, _, _, _, ys, _, _, _, _, zs, h0, h1.wr s2 h6 (by decide), h2.other s2 (h6.apart h2 (by decide)).2, h3, h4, h5.wr s2 h6 (by decide), by rw [← e, bools_set]; exact s1, h7.other s2 (h6.apart h7 (by decide)).2, s2.ext h8 h6⟩
/-- The marks, as far as row i and the first q of its writes. -/
def fsS (n : Nat) (G : Grf) (i q : Nat) : Sqr := fun a b => if (b < i ∧ (a = b ∨ a ∈ lsB n (stB G b b))) ∨ (b = i ∧ ((1 ≤ q ∧ a = i) ∨ a ∈ (lsB n (stB G i i)).take (q - 1))) then some (some 0) else none
theorem fsS_some {n : Nat} {G : Grf} {i q a b : Nat} : (fsS n G i q a b).isSome = true ↔ (b < i ∧ (a = b ∨ a ∈ lsB n (stB G b b))) ∨ (b = i ∧ ((1 ≤ q ∧ a = i) ∨ a ∈ (lsB n (stB G i i)).take (q - 1))) := by
  unfold fsS
  split
  · rename_i h; exact ⟨fun _ => h, fun _ => rfl⟩
  · rename_i h; exact ⟨fun e => (by cases e), fun e => absurd e h⟩
theorem fsS_zero (n : Nat) (G : Grf) : fsS n G 0 0 = noneM := by
  funext a b
  unfold fsS
  rw [if_neg (by simp)]
  rfl
theorem fsS_diag {n c : Nat} (G : Grf) (hc : c < n) : (tb n (fsS n G c 0)).set (c * n + c) true = tb n (fsS n G c 1) := by
  refine tb_set hc hc (fsS_some.2 (.inr ⟨rfl, .inl ⟨Nat.le_refl _, rfl⟩⟩)) (fun a b h => ?_)
  rw [Bool.eq_iff_iff, fsS_some, fsS_some]
  by_cases e : b = c
  · subst e
    have : a ≠ b := fun e => h ⟨e, rfl⟩
    simp [this]
  · simp [e]
theorem fsS_step {n c q x : Nat} (G : Grf) (hc : c < n) (hx : x < n) (hq : q < (lsB n (stB G c c)).length) (he : x = (lsB n (stB G c c)).getD q 0) : (tb n (fsS n G c (q + 1))).set (x * n + c) true = tb n (fsS n G c (q + 1 + 1)) := by
  have ht : (lsB n (stB G c c)).take (q + 1) = (lsB n (stB G c c)).take q ++ [x] := by rw [he]; exact take_next hq
  refine tb_set hx hc (fsS_some.2 (.inr ⟨rfl, .inr ?_⟩)) (fun a b h => ?_)
  · show x ∈ (lsB n (stB G c c)).take (q + 1 + 1 - 1)
    rw [show q + 1 + 1 - 1 = q + 1 from rfl, ht]
    simp
  · rw [Bool.eq_iff_iff, fsS_some, fsS_some, show q + 1 + 1 - 1 = q + 1 from rfl, show q + 1 - 1 = q from rfl, ht]
    by_cases e : b = c
    · subst e
      have : a ≠ x := fun e => h ⟨e, rfl⟩
      simp [this]
    · simp [e]
theorem fsS_row {n c q : Nat} (G : Grf) (hq : q = (lsB n (stB G c c)).length) : fsS n G c (q + 1) = fsS n G (c + 1) 0 := by
  funext a b
  unfold fsS
  rw [show q + 1 - 1 = q from rfl, hq, List.take_length]
  have : ((b < c ∧ (a = b ∨ a ∈ lsB n (stB G b b))) ∨ (b = c ∧ ((1 ≤ (lsB n (stB G c c)).length + 1 ∧ a = c) ∨ a ∈ lsB n (stB G c c)))) ↔ ((b < c + 1 ∧ (a = b ∨ a ∈ lsB n (stB G b b))) ∨ (b = c + 1 ∧ ((1 ≤ 0 ∧ a = c + 1) ∨ a ∈ (lsB n (stB G (c + 1) (c + 1))).take (0 - 1)))) := by
    by_cases e : b = c
    · subst e
      simp
    · have h1 : b < c + 1 ↔ b < c := by omega
      simp [e, h1]
  simp only [this]
theorem fsS_end {n : Nat} {G : Grf} (hs : SymB n G) : ∀ a b, a < n → b < n → (fsS n G n 0 a b).isSome = (decide (b ≤ a) && trB G a b) := by
  intro a b ha hb
  rw [Bool.eq_iff_iff, fsS_some]
  unfold trB
  rw [lsB_mem]
  have hlow : a < b → stB G b b a = false := by
    intro hab
    have h := (spB_ok hs b (Nat.le_of_lt hb)).2 b a hb ha
    rw [← h]
    unfold curB
    simp [hab]
  by_cases e : a = b
  · subst e
    simp [ha]
  · by_cases h : a < b
    · have : ¬ b ≤ a := by omega
      simp [hlow h, e, this]
    · have h2 : b ≤ a := by omega
      simp [e, ha, hb, h2]
theorem loS_low {M : Sqr} {n : Nat} : ∀ a b, a < n → b < n → loS M n 0 a b = lowM M a b := by
  intro a b ha hb
  unfold loS lowM
  by_cases k : b ≤ a
  · rw [if_pos k, if_pos (.inl ⟨ha, k⟩)]
  · rw [if_neg k, if_neg (by omega)]
theorem rtAll_congr' {T : Nat → Nat → Bool} {M M' : Sqr} {n : Nat} (h : ∀ i j, i < n → j ≤ i → M i j = M' i j) : ∀ i, i ≤ n → rtAll T M i = rtAll T M' i
  | 0, _ => rfl
  | i + 1, hi => by
    show rtRow T M i (i + 1) (rtAll T M i) = rtRow T M' i (i + 1) (rtAll T M' i)
    rw [rtAll_congr' h i (by omega)]
    exact rtRow_congr (fun j hj => h i j (by omega) hj) _ _ (Nat.le_refl _)
theorem rtD_lo {n : Nat} {T : Nat → Nat → Bool} {M : Sqr} : rtD n T (loS M n 0) = rtD n T M := by
  unfold rtD
  rw [rtAll_congr' (n := n) (fun i j hi hj => by unfold loS; rw [if_pos (.inl ⟨hi, hj⟩)]) n (Nat.le_refl _)]

set_option maxRecDepth 20000 in
set_option maxHeartbeats 8000000 in
theorem specSparseRoot_any (sd : Int) (A : Option Addr) (n ca : Nat) (B : Option Addr) (m cb : Nat) (V : Option Addr) (p cv : Nat) (st co : List Int) (va : List Nat) (w : World) (hr : Rds w A n (ints st)) (hq : Rds w B m (ints co)) (hv : Rds w V p (flts va)) :
    Calls Try.prog 21 #[.agg #[.int .i64 sd, .slice A n ca, .slice B m cb, .slice V p cv]] w (RetSqB w (rootD sd st co va)) := by
  have HM := Lib.hid hq.ilen
  cases hs : isSp sd st co va with
  | false =>
    have hd : rootD sd st co va = SD.bad := by unfold rootD; rw [hs]; rfl
    go_enter Try.func21, Try.ntmps21
    go_upto_region 1 with (fail)
    obtain ⟨w0, hw0⟩ : ∃ w0, w0 = ((w.alloc (.cells #[.int .i64 sd, .slice A n ca, .slice B m cb, .slice V p cv] 27)).alloc (.cells #[.int .i64 0, .slice none 0 0, .slice none 0 0, .slice none 0 0] 27)) := ⟨_, rfl⟩
    have hx0 : Ext w w0 := by subst hw0; exact ((Ext.refl _).alloc _).alloc _
    have ba : Blk w0 (w.heap.size) #[.int .i64 sd, .slice A n ca, .slice B m cb, .slice V p cv] 27 := by subst hw0; exact (Blk.new w _ _).ext ((Ext.refl _).alloc _)
    have b1 : Blk w0 (w.heap.size + 1) #[.int .i64 0, .slice none 0 0, .slice none 0 0, .slice none 0 0] 27 := by subst hw0; simpa using (Blk.new (w.alloc (.cells #[.int .i64 sd, .slice A n ca, .slice B m cb, .slice V p cv] 27)) _ _)
    rw [← hw0]
    clear hw0
    go_wp2_with fail
    refine (l05Is_any _ sd A n ca B m cb V p cv st co va _ (SAt.of ba (hr.below hx0) (hq.below hx0) (hv.below hx0))).mono ?_
    rintro e w1 ⟨rfl, hx⟩
    rw [hs]
    replace ba := ba.ext hx
    replace b1 := b1.ext hx
    replace hx0 := hx0.trans hx
    clear hx
    have y0 := b1.cell 0 rfl
    have y1 := b1.cell 1 rfl
    have y2 := b1.cell 2 rfl
    have y3 := b1.cell 3 rfl
    have f0 := b1.free 0
    have f1 := b1.free 1
    have f2 := b1.free 2
    have f3 := b1.free 3
    have hq0 := b1.lt
    go_wp2_with fail
    have d0 := b1.set 0 (.int .i64 0)
    have d1 := d0.set 1 (.slice none 0 0)
    have d2 := d1.set 2 (.slice none 0 0)
    have d3 := d2.set 3 (.slice none 0 0)
    have x2 := ((((hx0.set (p := ⟨w.heap.size + 1, 0, none⟩) (by simp; try omega) (.int .i64 0)).set (p := ⟨w.heap.size + 1, 1, none⟩) (by simp; try omega) (.slice none 0 0)).set (p := ⟨w.heap.size + 1, 2, none⟩) (by simp; try omega) (.slice none 0 0)).set (p := ⟨w.heap.size + 1, 3, none⟩) (by simp; try omega) (.slice none 0 0))
    have r0 := d3.cell 0 rfl
    have r1 := d3.cell 1 rfl
    have r2 := d3.cell 2 rfl
    have r3 := d3.cell 3 rfl
    refine bodyPost_ret (v := .tuple #[.agg #[.int .i64 0, .slice none 0 0, .slice none 0 0, .slice none 0 0], .bool false]) (by simp only [results, Try.results21]; simp [go_sem, r0, r1, r2, r3]) rfl (RetSqB.bad hd rfl x2)
  | true =>
    have hsp := isSp_iff.1 hs
    obtain ⟨N, rfl⟩ : ∃ N : Nat, sd = N := ⟨sd.toNat, by have := hsp.s1; omega⟩
    have hn1 : 1 ≤ N := by have := hsp.s1; omega
    have hn32 : N ≤ 32 := by have := hsp.s1; omega
    have HSP := Lib.hid hsp
    clear hsp
    obtain ⟨M, hM⟩ : ∃ M, M = vw st co va m := ⟨_, rfl⟩
    have HV := Lib.hid hM
    have hd := rootD_eq (N := N) hs
    rw [HM.out, ← hM] at hd
    obtain ⟨D, hD⟩ : ∃ D, D = rootD N st co va := ⟨_, rfl⟩
    rw [← hD]
    rw [← hD] at hd
    have HD := Lib.hid hd
    clear hd hD hM
    go_enter Try.func21, Try.ntmps21
    go_upto_region 1 with (fail)
    obtain ⟨w0, hw0⟩ : ∃ w0, w0 = ((w.alloc (.cells #[.int .i64 N, .slice A n ca, .slice B m cb, .slice V p cv] 27)).alloc (.cells #[.int .i64 0, .slice none 0 0, .slice none 0 0, .slice none 0 0] 27)) := ⟨_, rfl⟩
    have hx0 : Ext w w0 := by subst hw0; exact ((Ext.refl _).alloc _).alloc _
    have ba : Blk w0 (w.heap.size) #[.int .i64 N, .slice A n ca, .slice B m cb, .slice V p cv] 27 := by subst hw0; exact (Blk.new w _ _).ext ((Ext.refl _).alloc _)
    have b1 : Blk w0 (w.heap.size + 1) #[.int .i64 0, .slice none 0 0, .slice none 0 0, .slice none 0 0] 27 := by subst hw0; simpa using (Blk.new (w.alloc (.cells #[.int .i64 N, .slice A n ca, .slice B m cb, .slice V p cv] 27)) _ _)
    rw [← hw0]
    clear hw0
    go_wp2_with fail
    refine (l05Is_any _ N A n ca B m cb V p cv st co va _ (SAt.of ba (hr.below hx0) (hq.below hx0) (hv.below hx0))).mono ?_
    rintro e w1 ⟨rfl, hx⟩
    rw [hs]
    replace ba := ba.ext hx
    replace b1 := b1.ext hx
    replace hx0 := hx0.trans hx
    clear hx
    obtain ⟨X, hX⟩ : ∃ X, X = rtX N M := ⟨_, rfl⟩
    have hlo := low_ok HSP.out
    rw [HM.out, ← HV.out, ← hX] at hlo
    obtain ⟨hxo, hxs, hxsp⟩ := hlo
    rw [← hX] at HD
    have HXO := Lib.hid hxo
    have HXS := Lib.hid hxs
    have HXP := Lib.hid hxsp
    have HXL : Hid (giveSp N (loS M N 0) = X) := by show _ = _; rw [hX, giveSp_congr hn1 loS_low]; rfl
    clear hX hxs hxsp hxo
    obtain ⟨G, hG⟩ : ∃ G, G = rtG X := ⟨_, rfl⟩
    rw [← hG] at HD
    have HSY : Hid (SymB N G) := by show SymB N G; rw [hG]; exact nbM_sym N _
    have HGG : Hid (nbM (vw X.st X.co X.va X.co.length) = G) := hG.symm
    clear hG
    rw [← rtD_lo] at HD
    obtain ⟨NN, hNN⟩ : ∃ NN, NN = N * N := ⟨_, rfl⟩
    have HN := Lib.hid hNN
    have hNN1 : 1 ≤ NN := by rw [hNN]; exact Nat.mul_pos hn1 hn1
    have hNN2 : NN ≤ 1024 := by rw [hNN]; exact Nat.mul_le_mul hn32 hn32
    clear hNN
    go_wp2_with fail
    refine (l05Open_any _ N A n ca B m cb V p cv st co va HSP.out _ (SAt.of ba (hr.below hx0) (hq.below hx0) (hv.below hx0))).mono ?_
    rw [← HV.out]
    rintro e w5 ⟨TA, k, U, q, ys, rfl, h0, ha, h2, hx⟩
    rw [← HN.out] at ha h2
    rw [← HN.out]
    go_upto_region 4 with (fail)
    have h1 := Blk.new w5 #[.int .i64 N, .slice TA NN k, .slice U NN q] 71
    have xg : Ext w5 (w5.alloc (.cells #[.int .i64 N, .slice TA NN k, .slice U NN q] 71)) := (Ext.refl _).alloc _
    replace ha := ha.ext xg
    replace h2 := h2.ext xg
    have h8 := hx.trans xg
    obtain ⟨ga, rfl, _⟩ := ha.head (by omega)
    obtain ⟨gv, rfl, _⟩ := h2.head (by omega)
    obtain ⟨w6, hw6⟩ : ∃ v : World, v = w5.alloc (.cells #[.int .i64 N, .slice (some ⟨ga, 0, none⟩) NN k, .slice (some ⟨gv, 0, none⟩) NN q] 71) := ⟨_, rfl⟩
    obtain ⟨fb, hfb⟩ : ∃ fb, fb = w5.heap.size := ⟨_, rfl⟩
    rw [← hw6] at ha h2 h8
    rw [← hw6, ← hfb] at h1
    rw [← hw6, ← hfb]
    clear hw6 hfb hx xg
    have la := ha.lt_size ga rfl
    have lv := h2.lt_size gv rfl
    have c0 := (ba.ext h8).cell 0 rfl
    go_wp2_with fail
    refine (l05Blank_any N hn32 _).mono ?_
    rintro e w7 ⟨TB, k1, UB, q2, zs, rfl, h4, h6, h7, hx⟩
    clear c0
    rw [← HN.out] at h6 h7
    rw [← HN.out]
    go_upto_region 5 with (fail)
    have h5 := Blk.new w7 #[.int .i64 N, .slice TB NN k1, .slice UB NN q2] 71
    have xg : Ext w7 (w7.alloc (.cells #[.int .i64 N, .slice TB NN k1, .slice UB NN q2] 71)) := (Ext.refl _).alloc _
    have hx7 := hx.trans xg
    replace h6 := h6.ext xg
    replace h7 := h7.ext xg
    replace h1 := h1.ext hx7
    replace ha := ha.ext hx7
    replace h2 := h2.ext hx7
    obtain ⟨g1, rfl, hg1_⟩ := h6.head (by omega)
    obtain ⟨g2, rfl, hg2_⟩ := h7.head (by omega)
    have n1 : ga ≠ g1 := by omega
    have h3 : gv ≠ g2 := by omega
    replace h6 := h6.base h8.size
    replace h7 := h7.base h8.size
    replace h8 := h8.trans hx7
    obtain ⟨w8, hw8⟩ : ∃ v : World, v = w7.alloc (.cells #[.int .i64 N, .slice (some ⟨g1, 0, none⟩) NN k1, .slice (some ⟨g2, 0, none⟩) NN q2] 71) := ⟨_, rfl⟩
    obtain ⟨fb', hfb⟩ : ∃ fb, fb = w7.heap.size := ⟨_, rfl⟩
    rw [← hw8] at h1 ha h2 h6 h7 h8
    rw [← hw8, ← hfb] at h5
    rw [← hw8, ← hfb]
    clear hw8 hfb hx xg hx7 la lv hg1_ hg2_

    have hst : FD w1 fb fb' N NN M (loS M 0 0) (loS M 0 0) w8 := by
      rw [loS_zero]
      exact ⟨_, _, _, _, ys, _, _, _, _, zs, h0, h1, ha, n1, h2, h3, h4, h5, h6, h7, h8⟩
    clear h0 h1 ha n1 h2 h3 h4 h5 h6 h7 h8
    go_wp2_with fail
    go_loopw [6] (fun u wr => ∃ i : Nat, i ≤ N ∧ u = .int .i64 i ∧ FD w1 fb fb' N NN M (loS M i 0) (loS M i 0) wr) (fun u _ => N - (intOf u).toNat)
    case atStart => exact ⟨0, Nat.zero_le _, rfl, hst⟩
    case round =>
      rename World => wA
      clear hst
      obtain ⟨i, hi, rfl, hst⟩ := hrel
      have c0 := (ba.ext hst.own).cell 0 rfl
      by_cases hlt : i < N
      · have hg1 : IntKind.i64.wrap ((i : Int) + 1) = (i : Int) + 1 := IntWalk.i64_in _ (by omega)
        go_wp2_with fail
        clear c0
        go_loopw [7] (fun u wr => ∃ j : Nat, j ≤ i + 1 ∧ u = .int .i64 j ∧ FD w1 fb fb' N NN M (loS M i j) (loS M i j) wr) (fun u _ => i + 1 - (intOf u).toNat)
        case atStart => exact ⟨0, Nat.zero_le _, rfl, hst⟩
        case round =>
          rename World => wB
          clear hst
          obtain ⟨j, hj, rfl, hst⟩ := hrel
          have c0 := (ba.ext hst.own).cell 0 rfl
          by_cases hji : j ≤ i
          · have hjn : j < N := by omega
            have hjiI : (j : Int) ≤ i := by omega
            have hg2 : IntKind.i64.wrap ((j : Int) + 1) = (j : Int) + 1 := IntWalk.i64_in _ (by omega)
            obtain ⟨ga, k, gv, q, ys, g1, k1, g2, q2, zs, h0, h1, ha, n1, h2, h3, h4, h5, h6, h7, h8⟩ := hst
            obtain ⟨i1, i2, i3, i4, i5, i6⟩ := ix32 hlt hjn hn32
            rw [← HN.out] at i4 i6
            have i7 : i * N + j < NN := by omega
            have lt := ha.reads.blen
            have lt6 := h6.reads.blen
            obtain ⟨hca, _⟩ := ha.at_ (i * N + j) (by omega)
            rw [bools_get (by omega), tb_at M hlt hjn] at hca
            have HTB := Lib.hid (loS_tb M hlt hjn)
            obtain ⟨t, ht⟩ : ∃ t, t = (M i j).isSome := ⟨_, rfl⟩
            rw [← ht] at hca HTB
            clear ht
            have z1 := h1.cell 1 rfl
            have z2 := h5.cell 1 rfl
            go_wp2_with fail
            refine wp_region_T (cs := []) [0, 1, 2, 3, 4, 5, 6, 7, 8, 9, 10, 11, 12, 13, 14, 15, 16, 17] [18, 19] [] [] (fun _ _ => False) (fun _ _ _ => True) (by kernel_rfl) (by kernel_rfl) (fun _ _ _ _ _ _ => trivial) ?_
            refine' wpT_det (o := ⟨some 32, Op.fieldAddr 71 (Operand.tmp 5) 1, 0, "l05_sparse.go:450", #[], none⟩) rfl (by rfl) (by rfl) (fun w' hw' => ?_) ?_; rotate_left
            · go_simp <;> first | rfl | exact ⟨rfl, rfl⟩
            simp only [Act.put, List.setIfInBounds_toArray, List.set_cons_zero, List.set_cons_succ]
            refine' wpT_det (o := ⟨some 33, Op.load 69 (Operand.tmp 32), 69, "l05_sparse.go:450", #[{ on := 0, ground := Ground.data }], none⟩) rfl (by rfl) (by rfl) (fun w' hw' => ?_) ?_; rotate_left
            · have z1_ := Ext.cell hw' z1; have z2_ := Ext.cell hw' z2; have c0_ := Ext.cell hw' c0; have hca_ := Ext.cell hw' hca; go_simp <;> first | rfl | exact ⟨rfl, rfl⟩
            simp only [Act.put, List.setIfInBounds_toArray, List.set_cons_zero, List.set_cons_succ]
            refine' wpT_det (o := ⟨some 34, Op.move (Operand.tmp 6), 2, "l05_sparse.go:450", #[], none⟩) rfl (by rfl) (by rfl) (fun w' hw' => ?_) ?_; rotate_left
            · go_simp <;> first | rfl | exact ⟨rfl, rfl⟩
            simp only [Act.put, List.setIfInBounds_toArray, List.set_cons_zero, List.set_cons_succ]
            refine' wpT_det (o := ⟨some 35, Op.fieldAddr 27 (Operand.tmp 1) 0, 0, "l05_sparse.go:450", #[], none⟩) rfl (by rfl) (by rfl) (fun w' hw' => ?_) ?_; rotate_left
            · go_simp <;> first | rfl | exact ⟨rfl, rfl⟩
            simp only [Act.put, List.setIfInBounds_toArray, List.set_cons_zero, List.set_cons_succ]
            refine' wpT_det (o := ⟨some 36, Op.load 2 (Operand.tmp 35), 2, "l05_sparse.go:450", #[{ on := 3, ground := Ground.data }], none⟩) rfl (by rfl) (by rfl) (fun w' hw' => ?_) ?_; rotate_left
            · have z1_ := Ext.cell hw' z1; have z2_ := Ext.cell hw' z2; have c0_ := Ext.cell hw' c0; have hca_ := Ext.cell hw' hca; go_simp <;> first | rfl | exact ⟨rfl, rfl⟩
            simp only [Act.put, List.setIfInBounds_toArray, List.set_cons_zero, List.set_cons_succ]
            refine' wpT_det (o := ⟨some 37, Op.binOp BinOp.mul 2 (Operand.tmp 34) (Operand.tmp 36) 2, 2, "l05_sparse.go:450", #[{ on := 2, ground := Ground.data }, { on := 4, ground := Ground.data }], none⟩) rfl (by rfl) (by rfl) (fun w' hw' => ?_) ?_; rotate_left
            · go_simp <;> first | rfl | exact ⟨rfl, rfl⟩
            simp only [Act.put, List.setIfInBounds_toArray, List.set_cons_zero, List.set_cons_succ]
            refine' wpT_det (o := ⟨some 38, Op.move (Operand.tmp 7), 2, "l05_sparse.go:450", #[], none⟩) rfl (by rfl) (by rfl) (fun w' hw' => ?_) ?_; rotate_left
            · go_simp <;> first | rfl | exact ⟨rfl, rfl⟩
            simp only [Act.put, List.setIfInBounds_toArray, List.set_cons_zero, List.set_cons_succ]
            refine' wpT_det (o := ⟨some 39, Op.binOp BinOp.add 2 (Operand.tmp 37) (Operand.tmp 38) 2, 2, "l05_sparse.go:450", #[{ on := 5, ground := Ground.data }, { on := 6, ground := Ground.data }], none⟩) rfl (by rfl) (by rfl) (fun w' hw' => ?_) ?_; rotate_left
            · go_simp <;> first | rfl | exact ⟨rfl, rfl⟩
            simp only [Act.put, List.setIfInBounds_toArray, List.set_cons_zero, List.set_cons_succ]
            refine' wpT_det (o := ⟨some 40, Op.fieldAddr 71 (Operand.tmp 4) 1, 0, "l05_sparse.go:450", #[], none⟩) rfl (by rfl) (by rfl) (fun w' hw' => ?_) ?_; rotate_left
            · go_simp <;> first | rfl | exact ⟨rfl, rfl⟩
            simp only [Act.put, List.setIfInBounds_toArray, List.set_cons_zero, List.set_cons_succ]
            refine' wpT_det (o := ⟨some 41, Op.load 69 (Operand.tmp 40), 69, "l05_sparse.go:450", #[{ on := 8, ground := Ground.data }], none⟩) rfl (by rfl) (by rfl) (fun w' hw' => ?_) ?_; rotate_left
            · have z1_ := Ext.cell hw' z1; have z2_ := Ext.cell hw' z2; have c0_ := Ext.cell hw' c0; have hca_ := Ext.cell hw' hca; go_simp <;> first | rfl | exact ⟨rfl, rfl⟩
            simp only [Act.put, List.setIfInBounds_toArray, List.set_cons_zero, List.set_cons_succ]
            refine' wpT_det (o := ⟨some 42, Op.move (Operand.tmp 6), 2, "l05_sparse.go:450", #[], none⟩) rfl (by rfl) (by rfl) (fun w' hw' => ?_) ?_; rotate_left
            · go_simp <;> first | rfl | exact ⟨rfl, rfl⟩
            simp only [Act.put, List.setIfInBounds_toArray, List.set_cons_zero, List.set_cons_succ]
            refine' wpT_det (o := ⟨some 43, Op.fieldAddr 27 (Operand.tmp 1) 0, 0, "l05_sparse.go:450", #[], none⟩) rfl (by rfl) (by rfl) (fun w' hw' => ?_) ?_; rotate_left
            · go_simp <;> first | rfl | exact ⟨rfl, rfl⟩
            simp only [Act.put, List.setIfInBounds_toArray, List.set_cons_zero, List.set_cons_succ]
            refine' wpT_det (o := ⟨some 44, Op.load 2 (Operand.tmp 43), 2, "l05_sparse.go:450", #[{ on := 11, ground := Ground.data }], none⟩) rfl (by rfl) (by rfl) (fun w' hw' => ?_) ?_; rotate_left
            · have z1_ := Ext.cell hw' z1; have z2_ := Ext.cell hw' z2; have c0_ := Ext.cell hw' c0; have hca_ := Ext.cell hw' hca; go_simp <;> first | rfl | exact ⟨rfl, rfl⟩
            simp only [Act.put, List.setIfInBounds_toArray, List.set_cons_zero, List.set_cons_succ]
            refine' wpT_det (o := ⟨some 45, Op.binOp BinOp.mul 2 (Operand.tmp 42) (Operand.tmp 44) 2, 2, "l05_sparse.go:450", #[{ on := 10, ground := Ground.data }, { on := 12, ground := Ground.data }], none⟩) rfl (by rfl) (by rfl) (fun w' hw' => ?_) ?_; rotate_left
            · go_simp <;> first | rfl | exact ⟨rfl, rfl⟩
            simp only [Act.put, List.setIfInBounds_toArray, List.set_cons_zero, List.set_cons_succ]
            refine' wpT_det (o := ⟨some 46, Op.move (Operand.tmp 7), 2, "l05_sparse.go:450", #[], none⟩) rfl (by rfl) (by rfl) (fun w' hw' => ?_) ?_; rotate_left
            · go_simp <;> first | rfl | exact ⟨rfl, rfl⟩
            simp only [Act.put, List.setIfInBounds_toArray, List.set_cons_zero, List.set_cons_succ]
            refine' wpT_det (o := ⟨some 47, Op.binOp BinOp.add 2 (Operand.tmp 45) (Operand.tmp 46) 2, 2, "l05_sparse.go:450", #[{ on := 13, ground := Ground.data }, { on := 14, ground := Ground.data }], none⟩) rfl (by rfl) (by rfl) (fun w' hw' => ?_) ?_; rotate_left
            · go_simp <;> first | rfl | exact ⟨rfl, rfl⟩
            simp only [Act.put, List.setIfInBounds_toArray, List.set_cons_zero, List.set_cons_succ]
            refine' wpT_det (o := ⟨some 48, Op.indexAddr 69 (Operand.tmp 41) (Operand.tmp 47), 0, "l05_sparse.go:450", #[{ on := 9, ground := Ground.data }, { on := 15, ground := Ground.data }], none⟩) rfl (by rfl) (by rfl) (fun w' hw' => ?_) ?_; rotate_left
            · go_simp <;> first | rfl | exact ⟨rfl, rfl⟩
            simp only [Act.put, List.setIfInBounds_toArray, List.set_cons_zero, List.set_cons_succ]
            refine' wpT_det (o := ⟨some 49, Op.load 4 (Operand.tmp 48), 4, "l05_sparse.go:450", #[{ on := 16, ground := Ground.data }], none⟩) rfl (by rfl) (by rfl) (fun w' hw' => ?_) ?_; rotate_left
            · have z1_ := Ext.cell hw' z1; have z2_ := Ext.cell hw' z2; have c0_ := Ext.cell hw' c0; have hca_ := Ext.cell hw' hca; go_simp <;> first | rfl | exact ⟨rfl, rfl⟩
            simp only [Act.put, List.setIfInBounds_toArray, List.set_cons_zero, List.set_cons_succ]
            refine wpT_nil (fun w9 hw' hF => ?_)
            show wpList _ _ _ [(⟨some 50, Op.indexAddr 69 (Operand.tmp 33) (Operand.tmp 39), 0, "l05_sparse.go:450", #[{ on := 1, ground := Ground.data }, { on := 7, ground := Ground.data }, { on := 0, ground := Ground.phase }, { on := 1, ground := Ground.phase }, { on := 2, ground := Ground.phase }, { on := 3, ground := Ground.phase }, { on := 4, ground := Ground.phase }, { on := 5, ground := Ground.phase }, { on := 6, ground := Ground.phase }, { on := 7, ground := Ground.phase }, { on := 8, ground := Ground.phase }, { on := 9, ground := Ground.phase }, { on := 10, ground := Ground.phase }, { on := 11, ground := Ground.phase }, { on := 12, ground := Ground.phase }, { on := 13, ground := Ground.phase }, { on := 14, ground := Ground.phase }, { on := 15, ground := Ground.phase }, { on := 16, ground := Ground.phase }, { on := 17, ground := Ground.phase }], none⟩ : Oper), (⟨none, Op.store 4 (Operand.tmp 50) (Operand.tmp 49), 0, "l05_sparse.go:450", #[{ on := 18, ground := Ground.data }, { on := 17, ground := Ground.data }, { on := 0, ground := Ground.phase }, { on := 1, ground := Ground.phase }, { on := 2, ground := Ground.phase }, { on := 3, ground := Ground.phase }, { on := 4, ground := Ground.phase }, { on := 5, ground := Ground.phase }, { on := 6, ground := Ground.phase }, { on := 7, ground := Ground.phase }, { on := 8, ground := Ground.phase }, { on := 9, ground := Ground.phase }, { on := 10, ground := Ground.phase }, { on := 11, ground := Ground.phase }, { on := 12, ground := Ground.phase }, { on := 13, ground := Ground.phase }, { on := 14, ground := Ground.phase }, { on := 15, ground := Ground.phase }, { on := 16, ground := Ground.phase }, { on := 17, ground := Ground.phase }], none⟩ : Oper)] _ _
            have hx := hw'.undrew
            clear hF hw' z1 z2 c0 hca
            replace h1 := h1.ext hx
            replace ha := ha.ext hx
            replace h2 := h2.ext hx
            replace h5 := h5.ext hx
            replace h6 := h6.ext hx
            replace h7 := h7.ext hx
            replace h8 := h8.trans hx

            clear hx
            obtain ⟨hcb, hf⟩ := h6.at_ (i * N + j) (by omega)
            rw [bools_get (by omega)] at hcb
            have hsb := store_bool Try.prog t hcb hf
            have hm := FD.putT h0 h1 ha n1 h2 h3 h4 h5 h6 h7 h8 (i * N + j) t HTB.out
            clear h0 h1 ha n1 h2 h3 h4 h5 h6 h7 h8 lt lt6
            go_upto_region 12 with (fail)
            obtain ⟨w10, hw10⟩ : ∃ v : World, v = w9.setCell ⟨g1, i * N + j, none⟩ (.bool t) := ⟨_, rfl⟩
            rw [← hw10] at hm ⊢
            clear hw10 hcb hf hsb
            have c0 := (ba.ext hm.own).cell 0 rfl
            obtain ⟨ga, k, gv, q, ys, g1, k1, g2, q2, zs, h0, h1, ha, n1, h2, h3, h4, h5, h6, h7, h8⟩ := hm
            have ly := h2.reads.flen
            have lz := h7.reads.flen
            obtain ⟨hce, _⟩ := h2.at_ (i * N + j) (by omega)
            rw [flts_get (by omega)] at hce
            have HNB := Lib.hid (loS_nb M hlt hjn (nb_at h0 hlt hjn))
            obtain ⟨x, hxv⟩ : ∃ x, x = rdf ys ((i * N + j : Nat) : Int) := ⟨_, rfl⟩
            rw [← hxv] at hce HNB
            clear hxv
            have z1 := h1.cell 2 rfl
            have z2 := h5.cell 2 rfl
            refine wp_region_T (cs := []) [0, 1, 2, 3, 4, 5, 6, 7, 8, 9, 10, 11, 12, 13, 14, 15, 16, 17] [18, 19] [] [] (fun _ _ => False) (fun _ _ _ => True) (by kernel_rfl) (by kernel_rfl) (fun _ _ _ _ _ _ => trivial) ?_
            refine' wpT_det (o := ⟨some 51, Op.fieldAddr 71 (Operand.tmp 5) 2, 0, "l05_sparse.go:451", #[], none⟩) rfl (by rfl) (by rfl) (fun w' hw' => ?_) ?_; rotate_left
            · go_simp <;> first | rfl | exact ⟨rfl, rfl⟩
            simp only [Act.put, List.setIfInBounds_toArray, List.set_cons_zero, List.set_cons_succ]
            refine' wpT_det (o := ⟨some 52, Op.load 23 (Operand.tmp 51), 23, "l05_sparse.go:451", #[{ on := 0, ground := Ground.data }], none⟩) rfl (by rfl) (by rfl) (fun w' hw' => ?_) ?_; rotate_left
            · have z1_ := Ext.cell hw' z1; have z2_ := Ext.cell hw' z2; have c0_ := Ext.cell hw' c0; have hce_ := Ext.cell hw' hce; go_simp <;> first | rfl | exact ⟨rfl, rfl⟩
            simp only [Act.put, List.setIfInBounds_toArray, List.set_cons_zero, List.set_cons_succ]
            refine' wpT_det (o := ⟨some 53, Op.move (Operand.tmp 6), 2, "l05_sparse.go:451", #[], none⟩) rfl (by rfl) (by rfl) (fun w' hw' => ?_) ?_; rotate_left
            · go_simp <;> first | rfl | exact ⟨rfl, rfl⟩
            simp only [Act.put, List.setIfInBounds_toArray, List.set_cons_zero, List.set_cons_succ]
            refine' wpT_det (o := ⟨some 54, Op.fieldAddr 27 (Operand.tmp 1) 0, 0, "l05_sparse.go:451", #[], none⟩) rfl (by rfl) (by rfl) (fun w' hw' => ?_) ?_; rotate_left
            · go_simp <;> first | rfl | exact ⟨rfl, rfl⟩
            simp only [Act.put, List.setIfInBounds_toArray, List.set_cons_zero, List.set_cons_succ]
            refine' wpT_det (o := ⟨some 55, Op.load 2 (Operand.tmp 54), 2, "l05_sparse.go:451", #[{ on := 3, ground := Ground.data }], none⟩) rfl (by rfl) (by rfl) (fun w' hw' => ?_) ?_; rotate_left
            · have z1_ := Ext.cell hw' z1; have z2_ := Ext.cell hw' z2; have c0_ := Ext.cell hw' c0; have hce_ := Ext.cell hw' hce; go_simp <;> first | rfl | exact ⟨rfl, rfl⟩
            simp only [Act.put, List.setIfInBounds_toArray, List.set_cons_zero, List.set_cons_succ]
            refine' wpT_det (o := ⟨some 56, Op.binOp BinOp.mul 2 (Operand.tmp 53) (Operand.tmp 55) 2, 2, "l05_sparse.go:451", #[{ on := 2, ground := Ground.data }, { on := 4, ground := Ground.data }], none⟩) rfl (by rfl) (by rfl) (fun w' hw' => ?_) ?_; rotate_left
            · go_simp <;> first | rfl | exact ⟨rfl, rfl⟩
            simp only [Act.put, List.setIfInBounds_toArray, List.set_cons_zero, List.set_cons_succ]
            refine' wpT_det (o := ⟨some 57, Op.move (Operand.tmp 7), 2, "l05_sparse.go:451", #[], none⟩) rfl (by rfl) (by rfl) (fun w' hw' => ?_) ?_; rotate_left
            · go_simp <;> first | rfl | exact ⟨rfl, rfl⟩
            simp only [Act.put, List.setIfInBounds_toArray, List.set_cons_zero, List.set_cons_succ]
            refine' wpT_det (o := ⟨some 58, Op.binOp BinOp.add 2 (Operand.tmp 56) (Operand.tmp 57) 2, 2, "l05_sparse.go:451", #[{ on := 5, ground := Ground.data }, { on := 6, ground := Ground.data }], none⟩) rfl (by rfl) (by rfl) (fun w' hw' => ?_) ?_; rotate_left
            · go_simp <;> first | rfl | exact ⟨rfl, rfl⟩
            simp only [Act.put, List.setIfInBounds_toArray, List.set_cons_zero, List.set_cons_succ]
            refine' wpT_det (o := ⟨some 59, Op.fieldAddr 71 (Operand.tmp 4) 2, 0, "l05_sparse.go:451", #[], none⟩) rfl (by rfl) (by rfl) (fun w' hw' => ?_) ?_; rotate_left
            · go_simp <;> first | rfl | exact ⟨rfl, rfl⟩
            simp only [Act.put, List.setIfInBounds_toArray, List.set_cons_zero, List.set_cons_succ]
            refine' wpT_det (o := ⟨some 60, Op.load 23 (Operand.tmp 59), 23, "l05_sparse.go:451", #[{ on := 8, ground := Ground.data }], none⟩) rfl (by rfl) (by rfl) (fun w' hw' => ?_) ?_; rotate_left
            · have z1_ := Ext.cell hw' z1; have z2_ := Ext.cell hw' z2; have c0_ := Ext.cell hw' c0; have hce_ := Ext.cell hw' hce; go_simp <;> first | rfl | exact ⟨rfl, rfl⟩
            simp only [Act.put, List.setIfInBounds_toArray, List.set_cons_zero, List.set_cons_succ]
            refine' wpT_det (o := ⟨some 61, Op.move (Operand.tmp 6), 2, "l05_sparse.go:451", #[], none⟩) rfl (by rfl) (by rfl) (fun w' hw' => ?_) ?_; rotate_left
            · go_simp <;> first | rfl | exact ⟨rfl, rfl⟩
            simp only [Act.put, List.setIfInBounds_toArray, List.set_cons_zero, List.set_cons_succ]
            refine' wpT_det (o := ⟨some 62, Op.fieldAddr 27 (Operand.tmp 1) 0, 0, "l05_sparse.go:451", #[], none⟩) rfl (by rfl) (by rfl) (fun w' hw' => ?_) ?_; rotate_left
            · go_simp <;> first | rfl | exact ⟨rfl, rfl⟩
            simp only [Act.put, List.setIfInBounds_toArray, List.set_cons_zero, List.set_cons_succ]
            refine' wpT_det (o := ⟨some 63, Op.load 2 (Operand.tmp 62), 2, "l05_sparse.go:451", #[{ on := 11, ground := Ground.data }], none⟩) rfl (by rfl) (by rfl) (fun w' hw' => ?_) ?_; rotate_left
            · have z1_ := Ext.cell hw' z1; have z2_ := Ext.cell hw' z2; have c0_ := Ext.cell hw' c0; have hce_ := Ext.cell hw' hce; go_simp <;> first | rfl | exact ⟨rfl, rfl⟩
            simp only [Act.put, List.setIfInBounds_toArray, List.set_cons_zero, List.set_cons_succ]
            refine' wpT_det (o := ⟨some 64, Op.binOp BinOp.mul 2 (Operand.tmp 61) (Operand.tmp 63) 2, 2, "l05_sparse.go:451", #[{ on := 10, ground := Ground.data }, { on := 12, ground := Ground.data }], none⟩) rfl (by rfl) (by rfl) (fun w' hw' => ?_) ?_; rotate_left
            · go_simp <;> first | rfl | exact ⟨rfl, rfl⟩
            simp only [Act.put, List.setIfInBounds_toArray, List.set_cons_zero, List.set_cons_succ]
            refine' wpT_det (o := ⟨some 65, Op.move (Operand.tmp 7), 2, "l05_sparse.go:451", #[], none⟩) rfl (by rfl) (by rfl) (fun w' hw' => ?_) ?_; rotate_left
            · go_simp <;> first | rfl | exact ⟨rfl, rfl⟩
            simp only [Act.put, List.setIfInBounds_toArray, List.set_cons_zero, List.set_cons_succ]
            refine' wpT_det (o := ⟨some 66, Op.binOp BinOp.add 2 (Operand.tmp 64) (Operand.tmp 65) 2, 2, "l05_sparse.go:451", #[{ on := 13, ground := Ground.data }, { on := 14, ground := Ground.data }], none⟩) rfl (by rfl) (by rfl) (fun w' hw' => ?_) ?_; rotate_left
            · go_simp <;> first | rfl | exact ⟨rfl, rfl⟩
            simp only [Act.put, List.setIfInBounds_toArray, List.set_cons_zero, List.set_cons_succ]
            refine' wpT_det (o := ⟨some 67, Op.indexAddr 23 (Operand.tmp 60) (Operand.tmp 66), 0, "l05_sparse.go:451", #[{ on := 9, ground := Ground.data }, { on := 15, ground := Ground.data }], none⟩) rfl (by rfl) (by rfl) (fun w' hw' => ?_) ?_; rotate_left
            · go_simp <;> first | rfl | exact ⟨rfl, rfl⟩
            simp only [Act.put, List.setIfInBounds_toArray, List.set_cons_zero, List.set_cons_succ]
            refine' wpT_det (o := ⟨some 68, Op.load 43 (Operand.tmp 67), 43, "l05_sparse.go:451", #[{ on := 16, ground := Ground.data }], none⟩) rfl (by rfl) (by rfl) (fun w' hw' => ?_) ?_; rotate_left
            · have z1_ := Ext.cell hw' z1; have z2_ := Ext.cell hw' z2; have c0_ := Ext.cell hw' c0; have hce_ := Ext.cell hw' hce; go_simp <;> first | rfl | exact ⟨rfl, rfl⟩
            simp only [Act.put, List.setIfInBounds_toArray, List.set_cons_zero, List.set_cons_succ]
            refine wpT_nil (fun w11 hw' hF => ?_)
            show wpList _ _ _ [(⟨some 69, Op.indexAddr 23 (Operand.tmp 52) (Operand.tmp 58), 0, "l05_sparse.go:451", #[{ on := 1, ground := Ground.data }, { on := 7, ground := Ground.data }, { on := 0, ground := Ground.phase }, { on := 1, ground := Ground.phase }, { on := 2, ground := Ground.phase }, { on := 3, ground := Ground.phase }, { on := 4, ground := Ground.phase }, { on := 5, ground := Ground.phase }, { on := 6, ground := Ground.phase }, { on := 7, ground := Ground.phase }, { on := 8, ground := Ground.phase }, { on := 9, ground := Ground.phase }, { on := 10, ground := Ground.phase }, { on := 11, ground := Ground.phase }, { on := 12, ground := Ground.phase }, { on := 13, ground := Ground.phase }, { on := 14, ground := Ground.phase }, { on := 15, ground := Ground.phase }, { on := 16, ground := Ground.phase }, { on := 17, ground := Ground.phase }], none⟩ : Oper), (⟨none, Op.store 43 (Operand.tmp 69) (Operand.tmp 68), 0, "l05_sparse.go:451", #[{ on := 18, ground := Ground.data }, { on := 17, ground := Ground.data }, { on := 0, ground := Ground.phase }, { on := 1, ground := Ground.phase }, { on := 2, ground := Ground.phase }, { on := 3, ground := Ground.phase }, { on := 4, ground := Ground.phase }, { on := 5, ground := Ground.phase }, { on := 6, ground := Ground.phase }, { on := 7, ground := Ground.phase }, { on := 8, ground := Ground.phase }, { on := 9, ground := Ground.phase }, { on := 10, ground := Ground.phase }, { on := 11, ground := Ground.phase }, { on := 12, ground := Ground.phase }, { on := 13, ground := Ground.phase }, { on := 14, ground := Ground.phase }, { on := 15, ground := Ground.phase }, { on := 16, ground := Ground.phase }, { on := 17, ground := Ground.phase }], none⟩ : Oper)] _ _
            have hx := hw'.undrew
            clear hF hw' z1 z2 c0 hce
            replace h1 := h1.ext hx
            replace ha := ha.ext hx
            replace h2 := h2.ext hx
            replace h5 := h5.ext hx
            replace h6 := h6.ext hx
            replace h7 := h7.ext hx
            replace h8 := h8.trans hx

            clear hx
            obtain ⟨hcb, hf⟩ := h7.at_ (i * N + j) (by omega)
            rw [flts_get (by omega)] at hcb
            have hsf := store_f32 Try.prog x hcb hf
            have hm := FD.putN h0 h1 ha n1 h2 h3 h4 h5 h6 h7 h8 (i * N + j) x HNB.out
            clear h0 h1 ha n1 h2 h3 h4 h5 h6 h7 h8
            go_wp2_with fail
            go_roundw
            case rel => exact ⟨j + 1, by omega, by go_num, hm⟩
            case measure => simp [intOf]; omega
          · obtain rfl : j = i + 1 := by omega
            rw [loS_row] at hst
            have hnj : ¬ (((i + 1 : Nat) : Int) ≤ (i : Int)) := by omega
            go_wp2_with fail
            go_roundw
            case rel => exact ⟨i + 1, by omega, by go_num, hst⟩
            case measure => simp [intOf]; omega
      · obtain rfl : N = i := by omega
        obtain ⟨ga, k, gv, q, ys, g1, k1, g2, q2, zs, h0, h1, ha, n1, h2, h3, h4, h5, h6, h7, h8⟩ := hst
        clear h0 h1 ha n1 h2 h3
        go_wp2_with fail
        refine (l05Close_any _ N NN _ k1 _ q2 (loS M N 0) zs hn1 hn32 HN.out _ (FAt.of h5 h6.reads h7.reads h4)).mono ?_
        rw [HXL.out]
        rintro e w9 ⟨A', kA, B', kB, V', kV, rfl, p1, p2, p3, _, _, _, hx⟩
        rw [HXS.out, HXO.out]
        replace h5 := h5.ext hx
        replace h7 := h7.ext hx
        replace h8 := h8.trans hx
        clear h6 hx c0
        go_upto_region 14 with (fail)
        have xg : Ext w9 (w9.alloc (.cells #[.int .i64 N, .slice A' X.st.length kA, .slice B' X.co.length kB, .slice V' X.va.length kV] 27)) := (Ext.refl _).alloc _
        have bt := Blk.new w9 #[.int .i64 N, .slice A' X.st.length kA, .slice B' X.co.length kB, .slice V' X.va.length kV] 27
        obtain ⟨w10, hw10⟩ : ∃ v : World, v = w9.alloc (.cells #[.int .i64 N, .slice A' X.st.length kA, .slice B' X.co.length kB, .slice V' X.va.length kV] 27) := ⟨_, rfl⟩
        obtain ⟨tb_, htb⟩ : ∃ tb_, tb_ = w9.heap.size := ⟨_, rfl⟩
        rw [← hw10] at xg
        rw [← hw10, ← htb] at bt
        rw [← hw10, ← htb]
        clear hw10 htb
        replace p1 := p1.ext xg
        replace p2 := p2.ext xg
        replace p3 := p3.ext xg
        replace h5 := h5.ext xg
        replace h7 := h7.ext xg
        replace h8 := h8.trans xg
        clear xg
        go_wp2_with fail
        refine (l05Fill_any _ N A' _ kA B' _ kB V' _ kV X.st X.co X.va HXP.out _ (SAt.of bt p1.reads p2.reads p3.reads)).mono ?_
        rw [HGG.out]
        rintro e w11 ⟨FA, fc, vs, rfl, of_, ro, hx⟩
        have hfl : (flL N G N).length = N := by simp [flL]
        rw [hfl] at of_
        rw [hfl]
        have HVL : Hid (vs.length = N) := ro.1.trans hfl
        replace h5 := h5.ext hx
        replace h7 := h7.ext hx
        replace h8 := h8.trans hx
        clear p1 p2 p3 bt hx hfl
        obtain ⟨gf, rfl, _⟩ := of_.head (by omega)
        have lv2 := h7.lt_size g2 rfl
        have c0 := (ba.ext h8).cell 0 rfl
        go_wp2_with fail
        refine (l05Blank_any N hn32 _).mono ?_
        rintro e w12 ⟨TB2, k3, UB2, q3, zs2, rfl, h4', h6, h7', hx⟩
        clear c0
        rw [← HN.out] at h6 h7'
        rw [← HN.out]
        go_upto_region 18 with (fail)
        have h5' := Blk.new w12 #[.int .i64 N, .slice TB2 NN k3, .slice UB2 NN q3] 71
        have xg : Ext w12 (w12.alloc (.cells #[.int .i64 N, .slice TB2 NN k3, .slice UB2 NN q3] 71)) := (Ext.refl _).alloc _
        have hx7 := hx.trans xg
        replace h6 := h6.ext xg
        replace h7' := h7'.ext xg
        replace h5 := h5.ext hx7
        replace h7 := h7.ext hx7
        replace of_ := of_.ext hx7
        replace ro := ro.ext hx7
        obtain ⟨g3, rfl, _⟩ := h6.head (by omega)
        obtain ⟨g4, rfl, hg4_⟩ := h7'.head (by omega)
        have n24 : g2 ≠ g4 := by omega
        replace h6 := h6.base h8.size
        replace h7' := h7'.base h8.size
        replace h8 := h8.trans hx7
        obtain ⟨w13, hw13⟩ : ∃ v : World, v = w12.alloc (.cells #[.int .i64 N, .slice (some ⟨g3, 0, none⟩) NN k3, .slice (some ⟨g4, 0, none⟩) NN q3] 71) := ⟨_, rfl⟩
        obtain ⟨fb2, hfb⟩ : ∃ fb, fb = w12.heap.size := ⟨_, rfl⟩
        rw [← hw13] at h5 h6 h7 h7' h8 of_ ro
        rw [← hw13, ← hfb] at h5'
        rw [← hw13, ← hfb]
        clear hw13 hfb hx xg hx7 lv2 hg4_
        rw [← fsS_zero N G] at h6
        have hst : FR w1 fb' fb2 N NN (loS M N 0) (fsS N G 0 0) noneM w13 := ⟨_, _, _, _, zs, _, _, _, _, zs2, h4, h5, h7, n24, h4', h5', h6, h7', h8⟩
        clear h4 h5 h7 n24 h4' h5' h6 h7' h8
        go_wp2_with fail
        go_loopw [83] (fun u wr => ∃ c : Nat, c ≤ N ∧ u = .int .i64 c ∧ FR w1 fb' fb2 N NN (loS M N 0) (fsS N G c 0) noneM wr ∧ Own wr w10.heap.size 22 (.slice (some ⟨gf, 0, none⟩) N fc) vs ∧ RowsOf wr w10.heap.size vs (flL N G N)) (fun u _ => N - (intOf u).toNat)
        case atStart => exact ⟨0, Nat.zero_le _, rfl, hst, of_, ro⟩
        case round =>
          rename World => wC
          clear hst of_ ro
          obtain ⟨c, hc, rfl, hst, of_, ro⟩ := hrel
          by_cases hlt : c < N
          · have hg1 : IntKind.i64.wrap ((c : Int) + 1) = (c : Int) + 1 := IntWalk.i64_in _ (by omega)
            obtain ⟨A, k, gv, q, ys, g1, k1, g2, q2, zs, h0, h1, h2, h3, h4, h5, h6, h7, h8⟩ := hst
            obtain ⟨i1, i2, i3, i4, i5, i6⟩ := ix32 hlt hlt hn32
            rw [← HN.out] at i4 i6
            have i7 : c * N + c < NN := by omega
            have lt := h6.reads.blen
            have c0 := (ba.ext h8).cell 0 rfl
            obtain ⟨hcb, hf⟩ := h6.at_ (c * N + c) (by omega)
            rw [bools_get (by omega)] at hcb
            have hsb := store_bool Try.prog true hcb hf
            have hm := FR.putT h0 h1 h2 h3 h4 h5 h6 h7 h8 (c * N + c) true (fsS_diag G hlt)
            obtain ⟨_, s2⟩ := h6.stored (c * N + c) (.bool true)
            have of2 := of_.other s2 (of_.apart h6 (by decide)).1
            have ro2 := ro.wrB s2 h6
            have z1 := h5.cell 1 rfl
            clear s2 lt
            go_upto_region 22 with (fail)
            obtain ⟨w14, hw14⟩ : ∃ v : World, v = wC.setCell ⟨g1, c * N + c, none⟩ (.bool true) := ⟨_, rfl⟩
            rw [← hw14] at hm of2 ro2 ⊢
            clear hw14 h0 h1 h2 h3 h4 h5 h6 h7 h8 hcb hf hsb z1 c0 of_ ro i1 i2 i3 i4 i5 i6 i7
            have HLC : Hid ((flL N G N)[c]? = some (natI (lsB N (stB G c c)))) := by show _ = _; unfold flL; simp [hlt]
            obtain ⟨L, hL⟩ : ∃ L, L = lsB N (stB G c c) := ⟨_, rfl⟩
            have HL := Lib.hid hL
            rw [← hL] at HLC
            have hl32 : L.length ≤ N := by rw [hL]; exact lsB_len _ _
            clear hL
            obtain ⟨Ac, cc, hvc, _⟩ := ro2.2 c _ HLC.out
            obtain ⟨hcf, _⟩ := of2.at_ c hlt
            rw [hvc, natI_length] at hcf
            clear hvc
            go_wp2_with fail
            clear hcf
            go_loopw [100] (fun u wr => ∃ q : Nat, q ≤ L.length ∧ u = .int .i64 q ∧ FR w1 fb' fb2 N NN (loS M N 0) (fsS N G c (q + 1)) noneM wr ∧ Own wr w10.heap.size 22 (.slice (some ⟨gf, 0, none⟩) N fc) vs ∧ RowsOf wr w10.heap.size vs (flL N G N)) (fun u _ => L.length - (intOf u).toNat)
            case atStart => exact ⟨0, Nat.zero_le _, rfl, hm, of2, ro2⟩
            case round =>
              rename World => wD
              clear hm of2 ro2
              obtain ⟨q0, hq0, rfl, hst, of_, ro⟩ := hrel
              by_cases hql : q0 < L.length
              · have hg2 : IntKind.i64.wrap ((q0 : Int) + 1) = (q0 : Int) + 1 := IntWalk.i64_in _ (by omega)
                obtain ⟨Ac, cc, hvc, hol⟩ := ro.2 c _ HLC.out
                obtain ⟨hcf, _⟩ := of_.at_ c hlt
                rw [hvc, natI_length] at hcf
                obtain ⟨ad, rfl, hcx⟩ := hol.reads.intN q0 (by rw [natI_length]; exact hql)
                rw [natI_rd hql] at hcx
                clear hvc hol
                have hxN : L.getD q0 0 < N := by
                  have hmem : L.getD q0 0 ∈ lsB N (stB G c c) := by
                    rw [← HL.out, List.getD_eq_getElem?_getD, List.getElem?_eq_getElem hql]
                    exact List.getElem_mem hql
                  exact (lsB_mem.1 hmem).1
                have HST : Hid ((tb N (fsS N G c (q0 + 1))).set (L.getD q0 0 * N + c) true = tb N (fsS N G c (q0 + 1 + 1))) := fsS_step G hlt hxN (by rw [← HL.out]; exact hql) (by rw [← HL.out])
                obtain ⟨x, hx⟩ : ∃ x, x = L.getD q0 0 := ⟨_, rfl⟩
                rw [← hx] at hcx hxN HST
                clear hx
                obtain ⟨i1, i2, i3, i4, i5, i6⟩ := ix32 hxN hlt hn32
                rw [← HN.out] at i4 i6
                have i7 : x * N + c < NN := by omega
                obtain ⟨A, k, gv, q, ys, g1, k1, g2, q2, zs, h0, h1, h2, h3, h4, h5, h6, h7, h8⟩ := hst
                have lt := h6.reads.blen
                have c0 := (ba.ext h8).cell 0 rfl
                have z1 := h5.cell 1 rfl
                go_wp2_with fail
                refine wp_region_T (cs := []) [0, 1, 2, 3, 4, 5, 6, 7, 8, 9, 10, 11, 12, 13] [14, 15] [] [] (fun _ _ => False) (fun _ _ _ => True) (by kernel_rfl) (by kernel_rfl) (fun _ _ _ _ _ _ => trivial) ?_
                refine' wpT_det (o := ⟨some 103, Op.fieldAddr 71 (Operand.tmp 11) 1, 0, "l05_sparse.go:463", #[], none⟩) rfl (by rfl) (by rfl) (fun w' hw' => ?_) ?_; rotate_left
                · go_simp <;> first | rfl | exact ⟨rfl, rfl⟩
                simp only [Act.put, List.setIfInBounds_toArray, List.set_cons_zero, List.set_cons_succ]
                refine' wpT_det (o := ⟨some 104, Op.load 69 (Operand.tmp 103), 69, "l05_sparse.go:463", #[{ on := 0, ground := Ground.data }], none⟩) rfl (by rfl) (by rfl) (fun w' hw' => ?_) ?_; rotate_left
                · have z1_ := Ext.cell hw' z1; have c0_ := Ext.cell hw' c0; have hcf_ := Ext.cell hw' hcf; have hcx_ := Ext.cell hw' hcx; go_simp <;> first | rfl | exact ⟨rfl, rfl⟩
                simp only [Act.put, List.setIfInBounds_toArray, List.set_cons_zero, List.set_cons_succ]
                refine' wpT_det (o := ⟨some 105, Op.move (Operand.tmp 10), 76, "l05_sparse.go:463", #[], none⟩) rfl (by rfl) (by rfl) (fun w' hw' => ?_) ?_; rotate_left
                · go_simp <;> first | rfl | exact ⟨rfl, rfl⟩
                simp only [Act.put, List.setIfInBounds_toArray, List.set_cons_zero, List.set_cons_succ]
                refine' wpT_det (o := ⟨some 106, Op.move (Operand.tmp 12), 3, "l05_sparse.go:463", #[], none⟩) rfl (by rfl) (by rfl) (fun w' hw' => ?_) ?_; rotate_left
                · go_simp <;> first | rfl | exact ⟨rfl, rfl⟩
                simp only [Act.put, List.setIfInBounds_toArray, List.set_cons_zero, List.set_cons_succ]
                refine' wpT_det (o := ⟨some 107, Op.indexAddr 76 (Operand.tmp 105) (Operand.tmp 106), 0, "l05_sparse.go:463", #[{ on := 2, ground := Ground.data }, { on := 3, ground := Ground.data }], none⟩) rfl (by rfl) (by rfl) (fun w' hw' => ?_) ?_; rotate_left
                · go_simp <;> first | rfl | exact ⟨rfl, rfl⟩
                simp only [Act.put, List.setIfInBounds_toArray, List.set_cons_zero, List.set_cons_succ]
                refine' wpT_det (o := ⟨some 108, Op.load 22 (Operand.tmp 107), 22, "l05_sparse.go:463", #[{ on := 4, ground := Ground.data }], none⟩) rfl (by rfl) (by rfl) (fun w' hw' => ?_) ?_; rotate_left
                · have z1_ := Ext.cell hw' z1; have c0_ := Ext.cell hw' c0; have hcf_ := Ext.cell hw' hcf; have hcx_ := Ext.cell hw' hcx; go_simp <;> first | rfl | exact ⟨rfl, rfl⟩
                simp only [Act.put, List.setIfInBounds_toArray, List.set_cons_zero, List.set_cons_succ]
                refine' wpT_det (o := ⟨some 109, Op.move (Operand.tmp 13), 3, "l05_sparse.go:463", #[], none⟩) rfl (by rfl) (by rfl) (fun w' hw' => ?_) ?_; rotate_left
                · go_simp <;> first | rfl | exact ⟨rfl, rfl⟩
                simp only [Act.put, List.setIfInBounds_toArray, List.set_cons_zero, List.set_cons_succ]
                refine' wpT_det (o := ⟨some 110, Op.indexAddr 22 (Operand.tmp 108) (Operand.tmp 109), 0, "l05_sparse.go:463", #[{ on := 5, ground := Ground.data }, { on := 6, ground := Ground.data }], none⟩) rfl (by rfl) (by rfl) (fun w' hw' => ?_) ?_; rotate_left
                · go_simp <;> first | rfl | exact ⟨rfl, rfl⟩
                simp only [Act.put, List.setIfInBounds_toArray, List.set_cons_zero, List.set_cons_succ]
                refine' wpT_det (o := ⟨some 111, Op.load 2 (Operand.tmp 110), 2, "l05_sparse.go:463", #[{ on := 7, ground := Ground.data }], none⟩) rfl (by rfl) (by rfl) (fun w' hw' => ?_) ?_; rotate_left
                · have z1_ := Ext.cell hw' z1; have c0_ := Ext.cell hw' c0; have hcf_ := Ext.cell hw' hcf; have hcx_ := Ext.cell hw' hcx; go_simp <;> first | rfl | exact ⟨rfl, rfl⟩
                simp only [Act.put, List.setIfInBounds_toArray, List.set_cons_zero, List.set_cons_succ]
                refine' wpT_det (o := ⟨some 112, Op.fieldAddr 27 (Operand.tmp 1) 0, 0, "l05_sparse.go:463", #[], none⟩) rfl (by rfl) (by rfl) (fun w' hw' => ?_) ?_; rotate_left
                · go_simp <;> first | rfl | exact ⟨rfl, rfl⟩
                simp only [Act.put, List.setIfInBounds_toArray, List.set_cons_zero, List.set_cons_succ]
                refine' wpT_det (o := ⟨some 113, Op.load 2 (Operand.tmp 112), 2, "l05_sparse.go:463", #[{ on := 9, ground := Ground.data }], none⟩) rfl (by rfl) (by rfl) (fun w' hw' => ?_) ?_; rotate_left
                · have z1_ := Ext.cell hw' z1; have c0_ := Ext.cell hw' c0; have hcf_ := Ext.cell hw' hcf; have hcx_ := Ext.cell hw' hcx; go_simp <;> first | rfl | exact ⟨rfl, rfl⟩
                simp only [Act.put, List.setIfInBounds_toArray, List.set_cons_zero, List.set_cons_succ]
                refine' wpT_det (o := ⟨some 114, Op.binOp BinOp.mul 2 (Operand.tmp 111) (Operand.tmp 113) 2, 2, "l05_sparse.go:463", #[{ on := 8, ground := Ground.data }, { on := 10, ground := Ground.data }], none⟩) rfl (by rfl) (by rfl) (fun w' hw' => ?_) ?_; rotate_left
                · go_simp <;> first | rfl | exact ⟨rfl, rfl⟩
                simp only [Act.put, List.setIfInBounds_toArray, List.set_cons_zero, List.set_cons_succ]
                refine' wpT_det (o := ⟨some 115, Op.move (Operand.tmp 12), 3, "l05_sparse.go:463", #[], none⟩) rfl (by rfl) (by rfl) (fun w' hw' => ?_) ?_; rotate_left
                · go_simp <;> first | rfl | exact ⟨rfl, rfl⟩
                simp only [Act.put, List.setIfInBounds_toArray, List.set_cons_zero, List.set_cons_succ]
                refine' wpT_det (o := ⟨some 116, Op.binOp BinOp.add 2 (Operand.tmp 114) (Operand.tmp 115) 2, 2, "l05_sparse.go:463", #[{ on := 11, ground := Ground.data }, { on := 12, ground := Ground.data }], none⟩) rfl (by rfl) (by rfl) (fun w' hw' => ?_) ?_; rotate_left
                · go_simp <;> first | rfl | exact ⟨rfl, rfl⟩
                simp only [Act.put, List.setIfInBounds_toArray, List.set_cons_zero, List.set_cons_succ]
                refine wpT_nil (fun w15 hw' hF => ?_)
                show wpList _ _ _ [(⟨some 117, Op.indexAddr 69 (Operand.tmp 104) (Operand.tmp 116), 0, "l05_sparse.go:463", #[{ on := 1, ground := Ground.data }, { on := 13, ground := Ground.data }, { on := 0, ground := Ground.phase }, { on := 1, ground := Ground.phase }, { on := 2, ground := Ground.phase }, { on := 3, ground := Ground.phase }, { on := 4, ground := Ground.phase }, { on := 5, ground := Ground.phase }, { on := 6, ground := Ground.phase }, { on := 7, ground := Ground.phase }, { on := 8, ground := Ground.phase }, { on := 9, ground := Ground.phase }, { on := 10, ground := Ground.phase }, { on := 11, ground := Ground.phase }, { on := 12, ground := Ground.phase }, { on := 13, ground := Ground.phase }], none⟩ : Oper), (⟨none, Op.store 4 (Operand.tmp 117) (Operand.const (Value.bool true)), 0, "l05_sparse.go:463", #[{ on := 14, ground := Ground.data }, { on := 0, ground := Ground.phase }, { on := 1, ground := Ground.phase }, { on := 2, ground := Ground.phase }, { on := 3, ground := Ground.phase }, { on := 4, ground := Ground.phase }, { on := 5, ground := Ground.phase }, { on := 6, ground := Ground.phase }, { on := 7, ground := Ground.phase }, { on := 8, ground := Ground.phase }, { on := 9, ground := Ground.phase }, { on := 10, ground := Ground.phase }, { on := 11, ground := Ground.phase }, { on := 12, ground := Ground.phase }, { on := 13, ground := Ground.phase }], none⟩ : Oper)] _ _
                have hx := hw'.undrew
                clear hF hw' z1 c0 hcf hcx
                replace h1 := h1.ext hx
                replace h2 := h2.ext hx
                replace h5 := h5.ext hx
                replace h6 := h6.ext hx
                replace h7 := h7.ext hx
                replace h8 := h8.trans hx
                replace of_ := of_.ext hx
                replace ro := ro.ext hx

                clear hx
                obtain ⟨hcb, hf⟩ := h6.at_ (x * N + c) (by omega)
                rw [bools_get (by omega)] at hcb
                have hsb := store_bool Try.prog true hcb hf
                have hm := FR.putT h0 h1 h2 h3 h4 h5 h6 h7 h8 (x * N + c) true HST.out
                obtain ⟨_, s2⟩ := h6.stored (x * N + c) (.bool true)
                have of2 := of_.other s2 (of_.apart h6 (by decide)).1
                have ro2 := ro.wrB s2 h6
                clear h0 h1 h2 h3 h4 h5 h6 h7 h8 s2 of_ ro lt
                go_wp2_with fail
                go_roundw
                case rel => exact ⟨q0 + 1, by omega, by go_num, hm, of2, ro2⟩
                case measure => simp [intOf]; omega
              · have hqe : q0 = L.length := by omega
                have hrow := fsS_row (n := N) (c := c) (q := q0) G (by rw [← HL.out]; exact hqe)
                rw [hrow] at hst
                clear hrow hqe
                go_wp2_with fail
                go_roundw
                case rel => exact ⟨c + 1, by omega, by go_num, hst, of_, ro⟩
                case measure => simp [intOf]; omega
          · obtain rfl : N = c := by omega
            clear of_ ro
            go_wp2_with fail
            refine (l05Root_any w1 fb' fb2 N NN (trB G) (loS M N 0) _ hn1 hn32 HN.out (fsS_end HSY.out) _ hst).mono ?_
            rw [← HD.out]
            rintro e w16 ⟨A'', kA, B'', kB, V'', kV, rfl, p1, p2, p3, n12, n13, n23, hx⟩
            clear ba hst
            replace p1 := p1.base hx0.size
            replace p2 := p2.base hx0.size
            replace p3 := p3.base hx0.size
            replace b1 := b1.ext hx
            replace hx0 := hx0.trans hx
            clear hx
            have y0 := b1.cell 0 rfl
            have y1 := b1.cell 1 rfl
            have y2 := b1.cell 2 rfl
            have y3 := b1.cell 3 rfl
            have f0 := b1.free 0
            have f1 := b1.free 1
            have f2 := b1.free 2
            have f3 := b1.free 3
            have hq0 := b1.lt
            go_wp2_with fail
            have d0 := b1.set 0 (.int .i64 D.sd)
            have d1 := d0.set 1 (.slice A'' D.st.length kA)
            have d2 := d1.set 2 (.slice B'' D.co.length kB)
            have d3 := d2.set 3 (.slice V'' D.va.length kV)
            have q1 := ((((p1.setBlk b1 (by decide) 0 (.int .i64 D.sd)).setBlk d0 (by decide) 1 (.slice A'' D.st.length kA)).setBlk d1 (by decide) 2 (.slice B'' D.co.length kB)).setBlk d2 (by decide) 3 (.slice V'' D.va.length kV))
            have q2 := ((((p2.setBlk b1 (by decide) 0 (.int .i64 D.sd)).setBlk d0 (by decide) 1 (.slice A'' D.st.length kA)).setBlk d1 (by decide) 2 (.slice B'' D.co.length kB)).setBlk d2 (by decide) 3 (.slice V'' D.va.length kV))
            have q3 := ((((p3.setBlk b1 (by decide) 0 (.int .i64 D.sd)).setBlk d0 (by decide) 1 (.slice A'' D.st.length kA)).setBlk d1 (by decide) 2 (.slice B'' D.co.length kB)).setBlk d2 (by decide) 3 (.slice V'' D.va.length kV))
            have x2 := ((((hx0.set (p := ⟨w.heap.size + 1, 0, none⟩) (by simp; try omega) (.int .i64 D.sd)).set (p := ⟨w.heap.size + 1, 1, none⟩) (by simp; try omega) (.slice A'' D.st.length kA)).set (p := ⟨w.heap.size + 1, 2, none⟩) (by simp; try omega) (.slice B'' D.co.length kB)).set (p := ⟨w.heap.size + 1, 3, none⟩) (by simp; try omega) (.slice V'' D.va.length kV))
            have r0 := d3.cell 0 rfl
            have r1 := d3.cell 1 rfl
            have r2 := d3.cell 2 rfl
            have r3 := d3.cell 3 rfl
            refine bodyPost_ret (v := .tuple #[.agg #[.int .i64 D.sd, .slice A'' D.st.length kA, .slice B'' D.co.length kB, .slice V'' D.va.length kV], .bool D.ok]) (by simp only [results, Try.results21]; simp [go_sem, r0, r1, r2, r3]) rfl ?_
            exact ⟨A'', kA, B'', kB, V'', kV, rfl, q1, q2, q3, n12, n13, n23, x2⟩

end Go.Proofs.Ytkifpligpobiaaa
