
/- SparseWeigh, the reference. -/

import Derived.Test.YtkifpligpobiaaaJ3

import Derived.Test.YtkifpligpobiaaaQ4

import Derived.Test.YtkifpligpobiaaaQ2
set_option linter.unusedVariables false
set_option linter.unusedSimpArgs false

namespace Go.Proofs.Ytkifpligpobiaaa

open Go.RowKit


/-- A square is being weighed in place: the first t indices are done. -/
def weS (x y n : Nat) (M M' : Sqr) (t : Nat) : Sqr := fun a b => if a * n + b < t ∧ b < n then weiM x y M M' a b else M a b
theorem weS_zero (x y n : Nat) (M M' : Sqr) : weS x y n M M' 0 = M := by
  funext a b
  unfold weS
  rw [if_neg (by omega)]
theorem weS_full {x y n : Nat} {M M' : Sqr} : ∀ a b, a < n → b < n → weS x y n M M' (n * n) a b = weiM x y M M' a b := by
  intro a b ha hb
  unfold weS
  rw [if_pos ⟨ix_lt ha hb, hb⟩]
theorem ix_one {n a b i j : Nat} (hb : b < n) (hj : j < n) (h : a * n + b = i * n + j) : a = i ∧ b = j := by
  rcases Nat.lt_trichotomy a i with e | e | e
  · have := Nat.mul_le_mul_right n (show a + 1 ≤ i from e)
    rw [Nat.succ_mul] at this
    omega
  · subst e
    omega
  · have := Nat.mul_le_mul_right n (show i + 1 ≤ a from e)
    rw [Nat.succ_mul] at this
    omega
section

variable {x y n : Nat} {M M' : Sqr} {t i j : Nat}

theorem weS_other (hj : j < n) (ht : t = i * n + j) {a b : Nat} (h : ¬ (a = i ∧ b = j)) : weS x y n M M' (t + 1) a b = weS x y n M M' t a b := by
  unfold weS
  by_cases hb : b < n
  · have : a * n + b ≠ t := fun e => h (ix_one hb hj (e.trans ht))
    by_cases hl : a * n + b < t
    · rw [if_pos ⟨by omega, hb⟩, if_pos ⟨hl, hb⟩]
    · rw [if_neg (by omega), if_neg (by omega)]
  · rw [if_neg (fun e => hb e.2), if_neg (fun e => hb e.2)]
theorem weS_here (ht : t = i * n + j) : weS x y n M M' t i j = M i j := by
  unfold weS
  rw [if_neg (by omega)]
theorem weS_done (hj : j < n) (ht : t = i * n + j) : weS x y n M M' (t + 1) i j = weiM x y M M' i j := by
  unfold weS
  rw [if_pos ⟨by omega, hj⟩]
theorem weS_skip (hj : j < n) (ht : t = i * n + j) (h1 : (M i j).isSome = false) (h2 : (M' i j).isSome = false) : weS x y n M M' (t + 1) = weS x y n M M' t := by
  funext a b
  by_cases h : a = i ∧ b = j
  · obtain ⟨rfl, rfl⟩ := h
    rw [weS_done hj ht, weS_here ht]
    unfold weiM
    rw [h1, h2]
    cases hm : M a b with
    | none => rfl
    | some v => rw [hm] at h1; cases h1
  · exact weS_other hj ht h
theorem weS_tb (hi : i < n) (hj : j < n) (ht : t = i * n + j) : rdb (tb n (weS x y n M M' t)) (t : Int) = (M i j).isSome := by
  have := tb_at (weS x y n M M' t) hi hj
  rw [← ht, weS_here ht] at this
  exact this
theorem weS_tb2 (hi : i < n) (hj : j < n) (ht : t = i * n + j) : rdb (tb n M') (t : Int) = (M' i j).isSome := by
  have := tb_at M' hi hj
  rw [← ht] at this
  exact this
theorem weS_nb {ys : List Nat} (h : cfs ys = nb n (weS x y n M M' t)) (hi : i < n) (hj : j < n) (ht : t = i * n + j) : c32 (rdf ys (t : Int)) = (M i j).getD (some 0) := by
  have := nb_at h hi hj
  rw [← ht, weS_here ht] at this
  exact this
theorem weS_nb2 {ys : List Nat} (h : cfs ys = nb n M') (hi : i < n) (hj : j < n) (ht : t = i * n + j) : c32 (rdf ys (t : Int)) = (M' i j).getD (some 0) := by
  have := nb_at h hi hj
  rw [← ht] at this
  exact this
theorem weS_tset (hi : i < n) (hj : j < n) (ht : t = i * n + j) (h : ((M i j).isSome || (M' i j).isSome) = true) : (tb n (weS x y n M M' t)).set t true = tb n (weS x y n M M' (t + 1)) := by
  have := tb_set (M := weS x y n M M' t) (M' := weS x y n M M' (t + 1)) (x := true) hi hj (by rw [weS_done hj ht]; unfold weiM; rw [if_pos h]; rfl) (fun a b hab => by rw [weS_other hj ht hab])
  rwa [← ht] at this
theorem weS_nset (hi : i < n) (hj : j < n) (ht : t = i * n + j) (h : ((M i j).isSome || (M' i j).isSome) = true) {v : Option Nat} (hv : v = wv x y M M' i j) : (nb n (weS x y n M M' t)).set t v = nb n (weS x y n M M' (t + 1)) := by
  have := nb_set (M := weS x y n M M' t) (M' := weS x y n M M' (t + 1)) (x := v) hi hj (by rw [weS_done hj ht]; unfold weiM; rw [if_pos h, hv]; rfl) (fun a b hab => by rw [weS_other hj ht hab])
  rwa [← ht] at this
end

/-- Two opened squares, of which the first is written. -/
def FW2 (w0 wm : World) (b b' n N : Nat) (M1 M2 M' : Sqr) (w : World) : Prop := ∃ g1 k g2 q zs A2 k2 V2 q2 ys, cfs zs = nb n M2 ∧ Blk w b #[.int .i64 n, .slice (some ⟨g1, 0, none⟩) N k, .slice (some ⟨g2, 0, none⟩) N q] 71 ∧
  Own w w0.heap.size 4 (.slice (some ⟨g1, 0, none⟩) N k) (bools (tb n M1)) ∧ Own w w0.heap.size 43 (.slice (some ⟨g2, 0, none⟩) N q) (flts zs) ∧ Ext w0 w ∧ g1 < wm.heap.size ∧ g2 < wm.heap.size ∧
  cfs ys = nb n M' ∧ Blk w b' #[.int .i64 n, .slice A2 N k2, .slice V2 N q2] 71 ∧ Own w wm.heap.size 4 (.slice A2 N k2) (bools (tb n M')) ∧ Own w wm.heap.size 43 (.slice V2 N q2) (flts ys)
section

variable {w0 wm w : World} {b b' n N g1 k g2 q k2 q2 : Nat} {A2 V2 : Option Addr} {M1 M2 M' : Sqr} {zs ys : List Nat}

theorem FW2.putT (h0 : cfs zs = nb n M2) (h1 : Blk w b #[.int .i64 n, .slice (some ⟨g1, 0, none⟩) N k, .slice (some ⟨g2, 0, none⟩) N q] 71) (h2 : Own w w0.heap.size 4 (.slice (some ⟨g1, 0, none⟩) N k) (bools (tb n M1))) (h3 : Own w w0.heap.size 43 (.slice (some ⟨g2, 0, none⟩) N q) (flts zs)) (h4 : Ext w0 w)
    (h5 : g1 < wm.heap.size) (h6 : g2 < wm.heap.size) (h7 : cfs ys = nb n M') (h8 : Blk w b' #[.int .i64 n, .slice A2 N k2, .slice V2 N q2] 71) (h9 : Own w wm.heap.size 4 (.slice A2 N k2) (bools (tb n M'))) (h10 : Own w wm.heap.size 43 (.slice V2 N q2) (flts ys))
    (t : Nat) (x : Bool) {M1' : Sqr} (e : (tb n M1).set t x = tb n M1') : FW2 w0 wm b b' n N M1' M2 M' (w.setCell ⟨g1, t, none⟩ (.bool x)) := by
  obtain ⟨s1, s2⟩ := h2.stored t (.bool x)
  exact ⟨_, _, _, _, zs, _, _, _, _, ys, h0, h1.wr s2 h2 (by decide), by rw [← e, bools_set]; exact s1, h3.other s2 (h2.apart h3 (by decide)).2, s2.ext h4 h2, h5, h6, h7, h8.wr s2 h2 (by decide), h9.other s2 (.inr (h9.above h5)), h10.other s2 (.inr (h10.above h5))⟩
theorem FW2.putN (h0 : cfs zs = nb n M2) (h1 : Blk w b #[.int .i64 n, .slice (some ⟨g1, 0, none⟩) N k, .slice (some ⟨g2, 0, none⟩) N q] 71) (h2 : Own w w0.heap.size 4 (.slice (some ⟨g1, 0, none⟩) N k) (bools (tb n M1))) (h3 : Own w w0.heap.size 43 (.slice (some ⟨g2, 0, none⟩) N q) (flts zs)) (h4 : Ext w0 w)
    (h5 : g1 < wm.heap.size) (h6 : g2 < wm.heap.size) (h7 : cfs ys = nb n M') (h8 : Blk w b' #[.int .i64 n, .slice A2 N k2, .slice V2 N q2] 71) (h9 : Own w wm.heap.size 4 (.slice A2 N k2) (bools (tb n M'))) (h10 : Own w wm.heap.size 43 (.slice V2 N q2) (flts ys))
    (t : Nat) (x : Nat) {M2' : Sqr} (e : (nb n M2).set t (c32 x) = nb n M2') : FW2 w0 wm b b' n N M1 M2' M' (w.setCell ⟨g2, t, none⟩ (.float .f32 x)) := by
  obtain ⟨s1, s2⟩ := h3.stored t (.float .f32 x)
  exact ⟨_, _, _, _, zs.set t x, _, _, _, _, ys, by rw [cfs_set, h0, e], h1.wr s2 h3 (by decide), h2.other s2 (h2.apart h3 (by decide)).1, by rw [flts_set]; exact s1, s2.ext h4 h3, h5, h6, h7, h8.wr s2 h3 (by decide), h9.other s2 (.inr (h9.above h6)), h10.other s2 (.inr (h10.above h6))⟩
end

set_option maxRecDepth 20000 in
set_option maxHeartbeats 8000000 in
theorem specSparseWeigh_any (sd : Int) (A : Option Addr) (n ca : Nat) (B : Option Addr) (m cb : Nat) (V : Option Addr) (p cv : Nat) (sd' : Int) (A' : Option Addr) (n' ca' : Nat) (B' : Option Addr) (m' cb' : Nat) (V' : Option Addr) (p' cv' : Nat) (x y : Nat) (st co : List Int) (va : List Nat) (st' co' : List Int) (va' : List Nat) (w : World) (hr : Rds w A n (ints st)) (hq : Rds w B m (ints co)) (hv : Rds w V p (flts va)) (hr' : Rds w A' n' (ints st')) (hq' : Rds w B' m' (ints co')) (hv' : Rds w V' p' (flts va')) :
    Calls Try.prog 59 #[.agg #[.int .i64 sd, .slice A n ca, .slice B m cb, .slice V p cv], .agg #[.int .i64 sd', .slice A' n' ca', .slice B' m' cb', .slice V' p' cv'], .float .f32 x, .float .f32 y] w (RetSqB w (weiD sd sd' x y st co va st' co' va')) := by
  have HM := Lib.hid hq.ilen
  have HM' := Lib.hid hq'.ilen
  cases hs : isSp sd st co va with
  | false =>
    have hd : weiD sd sd' x y st co va st' co' va' = SD.bad := by unfold weiD; rw [hs]; rfl
    go_enter Try.func59, Try.ntmps59
    go_upto_region 1 with (fail)
    obtain ⟨w0, hw0⟩ : ∃ w0, w0 = (((w.alloc (.cells #[.int .i64 sd, .slice A n ca, .slice B m cb, .slice V p cv] 27)).alloc (.cells #[.int .i64 sd', .slice A' n' ca', .slice B' m' cb', .slice V' p' cv'] 27)).alloc (.cells #[.int .i64 0, .slice none 0 0, .slice none 0 0, .slice none 0 0] 27)) := ⟨_, rfl⟩
    have hx0 : Ext w w0 := by subst hw0; exact (((Ext.refl _).alloc _).alloc _).alloc _
    have ba : Blk w0 (w.heap.size) #[.int .i64 sd, .slice A n ca, .slice B m cb, .slice V p cv] 27 := by subst hw0; exact (Blk.new w _ _).ext (((Ext.refl _).alloc _).alloc _)
    have bb : Blk w0 (w.heap.size + 1) #[.int .i64 sd', .slice A' n' ca', .slice B' m' cb', .slice V' p' cv'] 27 := by subst hw0; simpa using (Blk.new (w.alloc (.cells #[.int .i64 sd, .slice A n ca, .slice B m cb, .slice V p cv] 27)) _ _).ext ((Ext.refl _).alloc _)
    have b1 : Blk w0 (w.heap.size + 1 + 1) #[.int .i64 0, .slice none 0 0, .slice none 0 0, .slice none 0 0] 27 := by subst hw0; simpa using (Blk.new ((w.alloc (.cells #[.int .i64 sd, .slice A n ca, .slice B m cb, .slice V p cv] 27)).alloc (.cells #[.int .i64 sd', .slice A' n' ca', .slice B' m' cb', .slice V' p' cv'] 27)) _ _)
    rw [← hw0]
    clear hw0
    go_wp2_with fail
    refine (l05Is_any _ sd A n ca B m cb V p cv st co va _ (SAt.of ba (hr.below hx0) (hq.below hx0) (hv.below hx0))).mono ?_
    rintro e w1 ⟨rfl, hx⟩
    rw [hs]
    replace ba := ba.ext hx
    replace bb := bb.ext hx
    replace b1 := b1.ext hx
    replace hx0 := hx0.trans hx
    clear hx
    have y0 := b1.cell 0 rfl
    have y1 := b1.cell 1 rfl
    have y2 := b1.cell 2 rfl
    have y3 := b1.cell 3 rfl
    have f0 := b1.free 0
    have f1 := b1.free 1
    have f2 := b1.free 2
    have f3 := b1.free 3
    have hq0 := b1.lt
    go_wp2_with fail
    have d0 := b1.set 0 (.int .i64 0)
    have d1 := d0.set 1 (.slice none 0 0)
    have d2 := d1.set 2 (.slice none 0 0)
    have d3 := d2.set 3 (.slice none 0 0)
    have x2 := ((((hx0.set (p := ⟨w.heap.size + 1 + 1, 0, none⟩) (by simp; try omega) (.int .i64 0)).set (p := ⟨w.heap.size + 1 + 1, 1, none⟩) (by simp; try omega) (.slice none 0 0)).set (p := ⟨w.heap.size + 1 + 1, 2, none⟩) (by simp; try omega) (.slice none 0 0)).set (p := ⟨w.heap.size + 1 + 1, 3, none⟩) (by simp; try omega) (.slice none 0 0))
    have r0 := d3.cell 0 rfl
    have r1 := d3.cell 1 rfl
    have r2 := d3.cell 2 rfl
    have r3 := d3.cell 3 rfl
    refine bodyPost_ret (v := .tuple #[.agg #[.int .i64 0, .slice none 0 0, .slice none 0 0, .slice none 0 0], .bool false]) (by simp only [results, Try.results59]; simp [go_sem, r0, r1, r2, r3]) rfl (RetSqB.bad hd rfl x2)
  | true =>
    cases hs' : isSp sd' st' co' va' with
    | false =>
      have hd : weiD sd sd' x y st co va st' co' va' = SD.bad := by unfold weiD; rw [hs, hs']; rfl
      go_enter Try.func59, Try.ntmps59
      go_upto_region 1 with (fail)
      obtain ⟨w0, hw0⟩ : ∃ w0, w0 = (((w.alloc (.cells #[.int .i64 sd, .slice A n ca, .slice B m cb, .slice V p cv] 27)).alloc (.cells #[.int .i64 sd', .slice A' n' ca', .slice B' m' cb', .slice V' p' cv'] 27)).alloc (.cells #[.int .i64 0, .slice none 0 0, .slice none 0 0, .slice none 0 0] 27)) := ⟨_, rfl⟩
      have hx0 : Ext w w0 := by subst hw0; exact (((Ext.refl _).alloc _).alloc _).alloc _
      have ba : Blk w0 (w.heap.size) #[.int .i64 sd, .slice A n ca, .slice B m cb, .slice V p cv] 27 := by subst hw0; exact (Blk.new w _ _).ext (((Ext.refl _).alloc _).alloc _)
      have bb : Blk w0 (w.heap.size + 1) #[.int .i64 sd', .slice A' n' ca', .slice B' m' cb', .slice V' p' cv'] 27 := by subst hw0; simpa using (Blk.new (w.alloc (.cells #[.int .i64 sd, .slice A n ca, .slice B m cb, .slice V p cv] 27)) _ _).ext ((Ext.refl _).alloc _)
      have b1 : Blk w0 (w.heap.size + 1 + 1) #[.int .i64 0, .slice none 0 0, .slice none 0 0, .slice none 0 0] 27 := by subst hw0; simpa using (Blk.new ((w.alloc (.cells #[.int .i64 sd, .slice A n ca, .slice B m cb, .slice V p cv] 27)).alloc (.cells #[.int .i64 sd', .slice A' n' ca', .slice B' m' cb', .slice V' p' cv'] 27)) _ _)
      rw [← hw0]
      clear hw0
      go_wp2_with fail
      refine (l05Is_any _ sd A n ca B m cb V p cv st co va _ (SAt.of ba (hr.below hx0) (hq.below hx0) (hv.below hx0))).mono ?_
      rintro e w1 ⟨rfl, hx⟩
      rw [hs]
      replace ba := ba.ext hx
      replace bb := bb.ext hx
      replace b1 := b1.ext hx
      replace hx0 := hx0.trans hx
      clear hx
      go_wp2_with fail
      refine (l05Is_any _ sd' A' n' ca' B' m' cb' V' p' cv' st' co' va' _ (SAt.of bb (hr'.below hx0) (hq'.below hx0) (hv'.below hx0))).mono ?_
      rintro e w2 ⟨rfl, hx⟩
      rw [hs']
      replace ba := ba.ext hx
      replace bb := bb.ext hx
      replace b1 := b1.ext hx
      replace hx0 := hx0.trans hx
      clear hx
      have y0 := b1.cell 0 rfl
      have y1 := b1.cell 1 rfl
      have y2 := b1.cell 2 rfl
      have y3 := b1.cell 3 rfl
      have f0 := b1.free 0
      have f1 := b1.free 1
      have f2 := b1.free 2
      have f3 := b1.free 3
      have hq0 := b1.lt
      go_wp2_with fail
      have d0 := b1.set 0 (.int .i64 0)
      have d1 := d0.set 1 (.slice none 0 0)
      have d2 := d1.set 2 (.slice none 0 0)
      have d3 := d2.set 3 (.slice none 0 0)
      have x2 := ((((hx0.set (p := ⟨w.heap.size + 1 + 1, 0, none⟩) (by simp; try omega) (.int .i64 0)).set (p := ⟨w.heap.size + 1 + 1, 1, none⟩) (by simp; try omega) (.slice none 0 0)).set (p := ⟨w.heap.size + 1 + 1, 2, none⟩) (by simp; try omega) (.slice none 0 0)).set (p := ⟨w.heap.size + 1 + 1, 3, none⟩) (by simp; try omega) (.slice none 0 0))
      have r0 := d3.cell 0 rfl
      have r1 := d3.cell 1 rfl
      have r2 := d3.cell 2 rfl
      have r3 := d3.cell 3 rfl
      refine bodyPost_ret (v := .tuple #[.agg #[.int .i64 0, .slice none 0 0, .slice none 0 0, .slice none 0 0], .bool false]) (by simp only [results, Try.results59]; simp [go_sem, r0, r1, r2, r3]) rfl (RetSqB.bad hd rfl x2)
    | true =>
      by_cases hss : sd = sd'
      rotate_left
      · have hd : weiD sd sd' x y st co va st' co' va' = SD.bad := by unfold weiD; rw [hs, hs', decide_eq_false hss]; rfl
        have hse : (sd != sd') = true := by simpa using hss
        go_enter Try.func59, Try.ntmps59
        go_upto_region 1 with (fail)
        obtain ⟨w0, hw0⟩ : ∃ w0, w0 = (((w.alloc (.cells #[.int .i64 sd, .slice A n ca, .slice B m cb, .slice V p cv] 27)).alloc (.cells #[.int .i64 sd', .slice A' n' ca', .slice B' m' cb', .slice V' p' cv'] 27)).alloc (.cells #[.int .i64 0, .slice none 0 0, .slice none 0 0, .slice none 0 0] 27)) := ⟨_, rfl⟩
        have hx0 : Ext w w0 := by subst hw0; exact (((Ext.refl _).alloc _).alloc _).alloc _
        have ba : Blk w0 (w.heap.size) #[.int .i64 sd, .slice A n ca, .slice B m cb, .slice V p cv] 27 := by subst hw0; exact (Blk.new w _ _).ext (((Ext.refl _).alloc _).alloc _)
        have bb : Blk w0 (w.heap.size + 1) #[.int .i64 sd', .slice A' n' ca', .slice B' m' cb', .slice V' p' cv'] 27 := by subst hw0; simpa using (Blk.new (w.alloc (.cells #[.int .i64 sd, .slice A n ca, .slice B m cb, .slice V p cv] 27)) _ _).ext ((Ext.refl _).alloc _)
        have b1 : Blk w0 (w.heap.size + 1 + 1) #[.int .i64 0, .slice none 0 0, .slice none 0 0, .slice none 0 0] 27 := by subst hw0; simpa using (Blk.new ((w.alloc (.cells #[.int .i64 sd, .slice A n ca, .slice B m cb, .slice V p cv] 27)).alloc (.cells #[.int .i64 sd', .slice A' n' ca', .slice B' m' cb', .slice V' p' cv'] 27)) _ _)
        rw [← hw0]
        clear hw0
        go_wp2_with fail
        refine (l05Is_any _ sd A n ca B m cb V p cv st co va _ (SAt.of ba (hr.below hx0) (hq.below hx0) (hv.below hx0))).mono ?_
        rintro e w1 ⟨rfl, hx⟩
        rw [hs]
        replace ba := ba.ext hx
        replace bb := bb.ext hx
        replace b1 := b1.ext hx
        replace hx0 := hx0.trans hx
        clear hx
        go_wp2_with fail
        refine (l05Is_any _ sd' A' n' ca' B' m' cb' V' p' cv' st' co' va' _ (SAt.of bb (hr'.below hx0) (hq'.below hx0) (hv'.below hx0))).mono ?_
        rintro e w2 ⟨rfl, hx⟩
        rw [hs']
        replace ba := ba.ext hx
        replace bb := bb.ext hx
        replace b1 := b1.ext hx
        replace hx0 := hx0.trans hx
        clear hx
        have c0 := ba.cell 0 rfl
        have d0 := bb.cell 0 rfl
        have y0 := b1.cell 0 rfl
        have y1 := b1.cell 1 rfl
        have y2 := b1.cell 2 rfl
        have y3 := b1.cell 3 rfl
        have f0 := b1.free 0
        have f1 := b1.free 1
        have f2 := b1.free 2
        have f3 := b1.free 3
        have hq0 := b1.lt
        go_wp2_with fail
        have d0 := b1.set 0 (.int .i64 0)
        have d1 := d0.set 1 (.slice none 0 0)
        have d2 := d1.set 2 (.slice none 0 0)
        have d3 := d2.set 3 (.slice none 0 0)
        have x2 := ((((hx0.set (p := ⟨w.heap.size + 1 + 1, 0, none⟩) (by simp; try omega) (.int .i64 0)).set (p := ⟨w.heap.size + 1 + 1, 1, none⟩) (by simp; try omega) (.slice none 0 0)).set (p := ⟨w.heap.size + 1 + 1, 2, none⟩) (by simp; try omega) (.slice none 0 0)).set (p := ⟨w.heap.size + 1 + 1, 3, none⟩) (by simp; try omega) (.slice none 0 0))
        have r0 := d3.cell 0 rfl
        have r1 := d3.cell 1 rfl
        have r2 := d3.cell 2 rfl
        have r3 := d3.cell 3 rfl
        refine bodyPost_ret (v := .tuple #[.agg #[.int .i64 0, .slice none 0 0, .slice none 0 0, .slice none 0 0], .bool false]) (by simp only [results, Try.results59]; simp [go_sem, r0, r1, r2, r3]) rfl (RetSqB.bad hd rfl x2)
      · subst hss
        have hse : (sd != sd) = false := by simp
        have hsp := isSp_iff.1 hs
        have hsp' := isSp_iff.1 hs'
        obtain ⟨N, rfl⟩ : ∃ N : Nat, sd = N := ⟨sd.toNat, by have := hsp.s1; omega⟩
        have hn1 : 1 ≤ N := by have := hsp.s1; omega
        have hn32 : N ≤ 32 := by have := hsp.s1; omega
        have HSP := Lib.hid hsp
        have HSP' := Lib.hid hsp'
        clear hsp hsp'
        cases hf1 : isFin .f32 x with
        | false =>
          have hd : weiD N N x y st co va st' co' va' = SD.bad := by unfold weiD; rw [hs, hs', hf1]; simp
          go_enter Try.func59, Try.ntmps59
          go_upto_region 1 with (fail)
          obtain ⟨w0, hw0⟩ : ∃ w0, w0 = (((w.alloc (.cells #[.int .i64 N, .slice A n ca, .slice B m cb, .slice V p cv] 27)).alloc (.cells #[.int .i64 N, .slice A' n' ca', .slice B' m' cb', .slice V' p' cv'] 27)).alloc (.cells #[.int .i64 0, .slice none 0 0, .slice none 0 0, .slice none 0 0] 27)) := ⟨_, rfl⟩
          have hx0 : Ext w w0 := by subst hw0; exact (((Ext.refl _).alloc _).alloc _).alloc _
          have ba : Blk w0 (w.heap.size) #[.int .i64 N, .slice A n ca, .slice B m cb, .slice V p cv] 27 := by subst hw0; exact (Blk.new w _ _).ext (((Ext.refl _).alloc _).alloc _)
          have bb : Blk w0 (w.heap.size + 1) #[.int .i64 N, .slice A' n' ca', .slice B' m' cb', .slice V' p' cv'] 27 := by subst hw0; simpa using (Blk.new (w.alloc (.cells #[.int .i64 N, .slice A n ca, .slice B m cb, .slice V p cv] 27)) _ _).ext ((Ext.refl _).alloc _)
          have b1 : Blk w0 (w.heap.size + 1 + 1) #[.int .i64 0, .slice none 0 0, .slice none 0 0, .slice none 0 0] 27 := by subst hw0; simpa using (Blk.new ((w.alloc (.cells #[.int .i64 N, .slice A n ca, .slice B m cb, .slice V p cv] 27)).alloc (.cells #[.int .i64 N, .slice A' n' ca', .slice B' m' cb', .slice V' p' cv'] 27)) _ _)
          rw [← hw0]
          clear hw0
          go_wp2_with fail
          refine (l05Is_any _ N A n ca B m cb V p cv st co va _ (SAt.of ba (hr.below hx0) (hq.below hx0) (hv.below hx0))).mono ?_
          rintro e w1 ⟨rfl, hx⟩
          rw [hs]
          replace ba := ba.ext hx
          replace bb := bb.ext hx
          replace b1 := b1.ext hx
          replace hx0 := hx0.trans hx
          clear hx
          go_wp2_with fail
          refine (l05Is_any _ N A' n' ca' B' m' cb' V' p' cv' st' co' va' _ (SAt.of bb (hr'.below hx0) (hq'.below hx0) (hv'.below hx0))).mono ?_
          rintro e w2 ⟨rfl, hx⟩
          rw [hs']
          replace ba := ba.ext hx
          replace bb := bb.ext hx
          replace b1 := b1.ext hx
          replace hx0 := hx0.trans hx
          clear hx
          have c0 := ba.cell 0 rfl
          have d0 := bb.cell 0 rfl
          go_wp2_with fail
          refine (l01Finite_any x _).mono ?_
          rintro e w3 ⟨rfl, hx⟩
          rw [hf1]
          replace ba := ba.ext hx
          replace bb := bb.ext hx
          replace b1 := b1.ext hx
          replace hx0 := hx0.trans hx
          clear hx
          clear c0 d0
          have y0 := b1.cell 0 rfl
          have y1 := b1.cell 1 rfl
          have y2 := b1.cell 2 rfl
          have y3 := b1.cell 3 rfl
          have f0 := b1.free 0
          have f1 := b1.free 1
          have f2 := b1.free 2
          have f3 := b1.free 3
          have hq0 := b1.lt
          go_wp2_with fail
          have d0 := b1.set 0 (.int .i64 0)
          have d1 := d0.set 1 (.slice none 0 0)
          have d2 := d1.set 2 (.slice none 0 0)
          have d3 := d2.set 3 (.slice none 0 0)
          have x2 := ((((hx0.set (p := ⟨w.heap.size + 1 + 1, 0, none⟩) (by simp; try omega) (.int .i64 0)).set (p := ⟨w.heap.size + 1 + 1, 1, none⟩) (by simp; try omega) (.slice none 0 0)).set (p := ⟨w.heap.size + 1 + 1, 2, none⟩) (by simp; try omega) (.slice none 0 0)).set (p := ⟨w.heap.size + 1 + 1, 3, none⟩) (by simp; try omega) (.slice none 0 0))
          have r0 := d3.cell 0 rfl
          have r1 := d3.cell 1 rfl
          have r2 := d3.cell 2 rfl
          have r3 := d3.cell 3 rfl
          refine bodyPost_ret (v := .tuple #[.agg #[.int .i64 0, .slice none 0 0, .slice none 0 0, .slice none 0 0], .bool false]) (by simp only [results, Try.results59]; simp [go_sem, r0, r1, r2, r3]) rfl (RetSqB.bad hd rfl x2)
        | true =>
        cases hf2 : isFin .f32 y with
        | false =>
          have hd : weiD N N x y st co va st' co' va' = SD.bad := by unfold weiD; rw [hs, hs', hf2]; simp
          go_enter Try.func59, Try.ntmps59
          go_upto_region 1 with (fail)
          obtain ⟨w0, hw0⟩ : ∃ w0, w0 = (((w.alloc (.cells #[.int .i64 N, .slice A n ca, .slice B m cb, .slice V p cv] 27)).alloc (.cells #[.int .i64 N, .slice A' n' ca', .slice B' m' cb', .slice V' p' cv'] 27)).alloc (.cells #[.int .i64 0, .slice none 0 0, .slice none 0 0, .slice none 0 0] 27)) := ⟨_, rfl⟩
          have hx0 : Ext w w0 := by subst hw0; exact (((Ext.refl _).alloc _).alloc _).alloc _
          have ba : Blk w0 (w.heap.size) #[.int .i64 N, .slice A n ca, .slice B m cb, .slice V p cv] 27 := by subst hw0; exact (Blk.new w _ _).ext (((Ext.refl _).alloc _).alloc _)
          have bb : Blk w0 (w.heap.size + 1) #[.int .i64 N, .slice A' n' ca', .slice B' m' cb', .slice V' p' cv'] 27 := by subst hw0; simpa using (Blk.new (w.alloc (.cells #[.int .i64 N, .slice A n ca, .slice B m cb, .slice V p cv] 27)) _ _).ext ((Ext.refl _).alloc _)
          have b1 : Blk w0 (w.heap.size + 1 + 1) #[.int .i64 0, .slice none 0 0, .slice none 0 0, .slice none 0 0] 27 := by subst hw0; simpa using (Blk.new ((w.alloc (.cells #[.int .i64 N, .slice A n ca, .slice B m cb, .slice V p cv] 27)).alloc (.cells #[.int .i64 N, .slice A' n' ca', .slice B' m' cb', .slice V' p' cv'] 27)) _ _)
          rw [← hw0]
          clear hw0
          go_wp2_with fail
          refine (l05Is_any _ N A n ca B m cb V p cv st co va _ (SAt.of ba (hr.below hx0) (hq.below hx0) (hv.below hx0))).mono ?_
          rintro e w1 ⟨rfl, hx⟩
          rw [hs]
          replace ba := ba.ext hx
          replace bb := bb.ext hx
          replace b1 := b1.ext hx
          replace hx0 := hx0.trans hx
          clear hx
          go_wp2_with fail
          refine (l05Is_any _ N A' n' ca' B' m' cb' V' p' cv' st' co' va' _ (SAt.of bb (hr'.below hx0) (hq'.below hx0) (hv'.below hx0))).mono ?_
          rintro e w2 ⟨rfl, hx⟩
          rw [hs']
          replace ba := ba.ext hx
          replace bb := bb.ext hx
          replace b1 := b1.ext hx
          replace hx0 := hx0.trans hx
          clear hx
          have c0 := ba.cell 0 rfl
          have d0 := bb.cell 0 rfl
          go_wp2_with fail
          refine (l01Finite_any x _).mono ?_
          rintro e w3 ⟨rfl, hx⟩
          rw [hf1]
          replace ba := ba.ext hx
          replace bb := bb.ext hx
          replace b1 := b1.ext hx
          replace hx0 := hx0.trans hx
          clear hx
          clear c0 d0
          go_wp2_with fail
          refine (l01Finite_any y _).mono ?_
          rintro e w4 ⟨rfl, hx⟩
          rw [hf2]
          replace ba := ba.ext hx
          replace bb := bb.ext hx
          replace b1 := b1.ext hx
          replace hx0 := hx0.trans hx
          clear hx
          have y0 := b1.cell 0 rfl
          have y1 := b1.cell 1 rfl
          have y2 := b1.cell 2 rfl
          have y3 := b1.cell 3 rfl
          have f0 := b1.free 0
          have f1 := b1.free 1
          have f2 := b1.free 2
          have f3 := b1.free 3
          have hq0 := b1.lt
          go_wp2_with fail
          have d0 := b1.set 0 (.int .i64 0)
          have d1 := d0.set 1 (.slice none 0 0)
          have d2 := d1.set 2 (.slice none 0 0)
          have d3 := d2.set 3 (.slice none 0 0)
          have x2 := ((((hx0.set (p := ⟨w.heap.size + 1 + 1, 0, none⟩) (by simp; try omega) (.int .i64 0)).set (p := ⟨w.heap.size + 1 + 1, 1, none⟩) (by simp; try omega) (.slice none 0 0)).set (p := ⟨w.heap.size + 1 + 1, 2, none⟩) (by simp; try omega) (.slice none 0 0)).set (p := ⟨w.heap.size + 1 + 1, 3, none⟩) (by simp; try omega) (.slice none 0 0))
          have r0 := d3.cell 0 rfl
          have r1 := d3.cell 1 rfl
          have r2 := d3.cell 2 rfl
          have r3 := d3.cell 3 rfl
          refine bodyPost_ret (v := .tuple #[.agg #[.int .i64 0, .slice none 0 0, .slice none 0 0, .slice none 0 0], .bool false]) (by simp only [results, Try.results59]; simp [go_sem, r0, r1, r2, r3]) rfl (RetSqB.bad hd rfl x2)
        | true =>
          have hd : weiD N N x y st co va st' co' va' = giveSp N (weiM x y (vw st co va m) (vw st' co' va' m')) := by unfold weiD; rw [hs, hs', hf1, hf2]; (try rw [HM.out]); (try rw [HM'.out]); simp
          obtain ⟨D, hD⟩ : ∃ D, D = weiD N N x y st co va st' co' va' := ⟨_, rfl⟩
          rw [← hD]
          rw [← hD] at hd
          have HD := Lib.hid hd
          clear hd hD
          go_enter Try.func59, Try.ntmps59
          go_upto_region 1 with (fail)
          obtain ⟨w0, hw0⟩ : ∃ w0, w0 = (((w.alloc (.cells #[.int .i64 N, .slice A n ca, .slice B m cb, .slice V p cv] 27)).alloc (.cells #[.int .i64 N, .slice A' n' ca', .slice B' m' cb', .slice V' p' cv'] 27)).alloc (.cells #[.int .i64 0, .slice none 0 0, .slice none 0 0, .slice none 0 0] 27)) := ⟨_, rfl⟩
          have hx0 : Ext w w0 := by subst hw0; exact (((Ext.refl _).alloc _).alloc _).alloc _
          have ba : Blk w0 (w.heap.size) #[.int .i64 N, .slice A n ca, .slice B m cb, .slice V p cv] 27 := by subst hw0; exact (Blk.new w _ _).ext (((Ext.refl _).alloc _).alloc _)
          have bb : Blk w0 (w.heap.size + 1) #[.int .i64 N, .slice A' n' ca', .slice B' m' cb', .slice V' p' cv'] 27 := by subst hw0; simpa using (Blk.new (w.alloc (.cells #[.int .i64 N, .slice A n ca, .slice B m cb, .slice V p cv] 27)) _ _).ext ((Ext.refl _).alloc _)
          have b1 : Blk w0 (w.heap.size + 1 + 1) #[.int .i64 0, .slice none 0 0, .slice none 0 0, .slice none 0 0] 27 := by subst hw0; simpa using (Blk.new ((w.alloc (.cells #[.int .i64 N, .slice A n ca, .slice B m cb, .slice V p cv] 27)).alloc (.cells #[.int .i64 N, .slice A' n' ca', .slice B' m' cb', .slice V' p' cv'] 27)) _ _)
          rw [← hw0]
          clear hw0
          go_wp2_with fail
          refine (l05Is_any _ N A n ca B m cb V p cv st co va _ (SAt.of ba (hr.below hx0) (hq.below hx0) (hv.below hx0))).mono ?_
          rintro e w1 ⟨rfl, hx⟩
          rw [hs]
          replace ba := ba.ext hx
          replace bb := bb.ext hx
          replace b1 := b1.ext hx
          replace hx0 := hx0.trans hx
          clear hx
          go_wp2_with fail
          refine (l05Is_any _ N A' n' ca' B' m' cb' V' p' cv' st' co' va' _ (SAt.of bb (hr'.below hx0) (hq'.below hx0) (hv'.below hx0))).mono ?_
          rintro e w2 ⟨rfl, hx⟩
          rw [hs']
          replace ba := ba.ext hx
          replace bb := bb.ext hx
          replace b1 := b1.ext hx
          replace hx0 := hx0.trans hx
          clear hx
          have c0 := ba.cell 0 rfl
          have d0 := bb.cell 0 rfl
          go_wp2_with fail
          refine (l01Finite_any x _).mono ?_
          rintro e w3 ⟨rfl, hx⟩
          rw [hf1]
          replace ba := ba.ext hx
          replace bb := bb.ext hx
          replace b1 := b1.ext hx
          replace hx0 := hx0.trans hx
          clear hx
          clear c0 d0
          go_wp2_with fail
          refine (l01Finite_any y _).mono ?_
          rintro e w4 ⟨rfl, hx⟩
          rw [hf2]
          replace ba := ba.ext hx
          replace bb := bb.ext hx
          replace b1 := b1.ext hx
          replace hx0 := hx0.trans hx
          clear hx
          obtain ⟨M, hM⟩ : ∃ M, M = vw st co va m := ⟨_, rfl⟩
          obtain ⟨M', hM'⟩ : ∃ M', M' = vw st' co' va' m' := ⟨_, rfl⟩
          rw [← hM, ← hM'] at HD
          have HV := Lib.hid hM
          have HV' := Lib.hid hM'
          clear hM hM'
          obtain ⟨NN, hNN⟩ : ∃ NN, NN = N * N := ⟨_, rfl⟩
          have HN := Lib.hid hNN
          have hNN1 : 1 ≤ NN := by rw [hNN]; exact Nat.mul_pos hn1 hn1
          have hNN2 : NN ≤ 1024 := by rw [hNN]; exact Nat.mul_le_mul hn32 hn32
          clear hNN
          go_wp2_with fail
          refine (l05Open_any _ N A n ca B m cb V p cv st co va HSP.out _ (SAt.of ba (hr.below hx0) (hq.below hx0) (hv.below hx0))).mono ?_
          rw [← HV.out]
          rintro e w5 ⟨T, k, U, q, zs, rfl, h0, h2, h3, hx⟩
          rw [← HN.out] at h2 h3
          rw [← HN.out]
          go_upto_region 4 with (fail)
          have h1 := Blk.new w5 #[.int .i64 N, .slice T NN k, .slice U NN q] 71
          have xg : Ext w5 (w5.alloc (.cells #[.int .i64 N, .slice T NN k, .slice U NN q] 71)) := (Ext.refl _).alloc _
          replace h2 := h2.ext xg
          replace h3 := h3.ext xg
          have h4 := hx.trans xg
          obtain ⟨g1, rfl, _⟩ := h2.head (by omega)
          obtain ⟨g2, rfl, _⟩ := h3.head (by omega)
          obtain ⟨w6, hw6⟩ : ∃ v : World, v = w5.alloc (.cells #[.int .i64 N, .slice (some ⟨g1, 0, none⟩) NN k, .slice (some ⟨g2, 0, none⟩) NN q] 71) := ⟨_, rfl⟩
          obtain ⟨fb, hfb⟩ : ∃ fb, fb = w5.heap.size := ⟨_, rfl⟩
          rw [← hw6] at h2 h3 h4
          rw [← hw6, ← hfb] at h1
          rw [← hw6, ← hfb]
          clear hw6 hfb hx xg
          have h5 := h2.lt_size g1 rfl
          have h6 := h3.lt_size g2 rfl
          have bb' := bb.ext h4
          have hx6 := hx0.trans h4
          go_wp2_with fail
          refine (l05Open_any _ N A' n' ca' B' m' cb' V' p' cv' st' co' va' HSP'.out _ (SAt.of bb' (hr'.below hx6) (hq'.below hx6) (hv'.below hx6))).mono ?_
          rw [← HV'.out]
          rintro e w7 ⟨A2, k2, V2, q2, ys2, rfl, h7, h9, h10, hx⟩
          rw [← HN.out] at h9 h10
          rw [← HN.out]
          clear bb' hx6
          go_upto_region 5 with (fail)
          have h8 := Blk.new w7 #[.int .i64 N, .slice A2 NN k2, .slice V2 NN q2] 71
          have xg : Ext w7 (w7.alloc (.cells #[.int .i64 N, .slice A2 NN k2, .slice V2 NN q2] 71)) := (Ext.refl _).alloc _
          have hx7 := hx.trans xg
          replace h9 := h9.ext xg
          replace h10 := h10.ext xg
          replace h1 := h1.ext hx7
          replace h2 := h2.ext hx7
          replace h3 := h3.ext hx7
          replace h4 := h4.trans hx7
          obtain ⟨w8, hw8⟩ : ∃ v : World, v = w7.alloc (.cells #[.int .i64 N, .slice A2 NN k2, .slice V2 NN q2] 71) := ⟨_, rfl⟩
          obtain ⟨fb', hfb⟩ : ∃ fb, fb = w7.heap.size := ⟨_, rfl⟩
          rw [← hw8] at h1 h2 h3 h4 h9 h10
          rw [← hw8, ← hfb] at h8
          rw [← hw8, ← hfb]
          clear hw8 hfb hx xg hx7
          rw [← weS_zero x y N M M'] at h0 h2
          have hst : FW2 w4 w6 fb fb' N NN (weS x y N M M' 0) (weS x y N M M' 0) M' w8 := ⟨_, _, _, _, zs, _, _, _, _, ys2, h0, h1, h2, h3, h4, h5, h6, h7, h8, h9, h10⟩
          have e1 := h1.cell 1 rfl
          clear h0 h2 h3 h4 h5 h6 h7 h8 h9 h10 h1
          go_wp2_with fail
          clear e1
          go_loopw [42] (fun u wr => ∃ t : Nat, t ≤ NN ∧ u = .int .i64 t ∧ FW2 w4 w6 fb fb' N NN (weS x y N M M' t) (weS x y N M M' t) M' wr) (fun u _ => NN - (intOf u).toNat)
          case atStart => exact ⟨0, Nat.zero_le _, rfl, hst⟩
          case round =>
            rename World => wA
            clear hst
            obtain ⟨t, ht, rfl, g1, k, g2, q, zs, A2, k2, V2, q2, ys2, h0, h1, h2, h3, h4, h5, h6, h7, h8, h9, h10⟩ := hrel
            by_cases hlt : t < NN
            · have hg1 : IntKind.i64.wrap ((t : Int) + 1) = (t : Int) + 1 := IntWalk.i64_in _ (by omega)
              obtain ⟨i, j, hi, hj, hij⟩ : ∃ i j, i < N ∧ j < N ∧ t = i * N + j := ⟨t / N, t % N, Nat.div_lt_of_lt_mul (by rw [← HN.out]; exact hlt), Nat.mod_lt _ hn1, by rw [Nat.mul_comm]; exact (Nat.div_add_mod t N).symm⟩
              have HT := Lib.hid hij
              clear hij
              have lt := h2.reads.blen
              have lt2 := h9.reads.blen
              obtain ⟨adb, rfl, hcc⟩ := h9.reads.boolN t hlt
              obtain ⟨hca, _⟩ := h2.at_ t (by omega)
              rw [bools_get (by omega)] at hca
              have hta := weS_tb (x := x) (y := y) (M := M) (M' := M') hi hj HT.out
              have htb := weS_tb2 (M' := M') hi hj HT.out
              rw [hta] at hca
              rw [htb] at hcc
              have z0 := h1.cell 1 rfl
              have e1 := h8.cell 1 rfl
              cases ha : (M i j).isSome with
              | true =>
                have HOR : ((M i j).isSome || (M' i j).isSome) = true := by rw [ha]; rfl
                have HOR2 := Lib.hid HOR
                rw [ha] at hca
                go_upto_region 9 with (fail)
                clear z0
                obtain ⟨hcb, hf⟩ := h2.at_ t (by omega)
                rw [bools_get (by omega)] at hcb
                have hsb := store_bool Try.prog true hcb hf
                have hm := FW2.putT h0 h1 h2 h3 h4 h5 h6 h7 h8 h9 h10 t true (weS_tset (x := x) (y := y) hi hj HT.out HOR)
                have z1 : wA.cell? ⟨fb, 1, none⟩ = some (.slice (some ⟨g1, 0, none⟩) NN k) := h1.cell 1 rfl
                go_upto_region 10 with (fail)
                obtain ⟨w6, hw6⟩ : ∃ v : World, v = wA.setCell ⟨g1, t, none⟩ (.bool true) := ⟨_, rfl⟩
                rw [← hw6] at hm ⊢
                clear hw6 h0 h1 h2 h3 h4 h5 h6 h7 h8 h9 h10 lt lt2 hcb hf hsb z1 e1 hta htb hca hcc HOR
                obtain ⟨g1, k, g2, q, zs, A2, k2, V2, q2, ys2, h0, h1, h2, h3, h4, h5, h6, h7, h8, h9, h10⟩ := hm
                have lz := h3.reads.flen
                have lz2 := h10.reads.flen
                obtain ⟨adv, rfl, hce⟩ := h10.reads.fltN t (by omega)
                obtain ⟨hcb, hf⟩ := h3.at_ t (by omega)
                rw [flts_get (by omega)] at hcb
                have hn1_ := weS_nb h0 hi hj HT.out
                have hn2_ := weS_nb2 h7 hi hj HT.out
                obtain ⟨o, ho⟩ : ∃ o, o = rdf zs (t : Int) := ⟨_, rfl⟩
                obtain ⟨o2, ho2⟩ : ∃ o2, o2 = rdf ys2 (t : Int) := ⟨_, rfl⟩
                rw [← ho] at hcb hn1_
                rw [← ho2] at hce hn2_
                have HN1 := Lib.hid hn1_
                have HN2 := Lib.hid hn2_
                clear ho ho2 hn1_ hn2_ hf
                have z2 := h1.cell 2 rfl
                have z3 := h8.cell 2 rfl
                refine wp_region_T (cs := []) [0, 1, 2, 3, 4, 5, 6, 7, 8, 9, 10, 11, 12, 13, 14, 15, 16, 17] [18, 19] [9, 16, 17] [] (fun i__ v => match i__ with | 9 => ∃ r, v = .float .f32 r ∧ c32 r = (fmul (c32 x) ((M i j).getD (some 0))) | 16 => ∃ r, v = .float .f32 r ∧ c32 r = (fmul (c32 y) ((M' i j).getD (some 0))) | 17 => ∃ r, v = .float .f32 r ∧ c32 r = (wv x y M M' i j) | _ => False) (fun _ _ _ => True) (by kernel_rfl) (by kernel_rfl) (fun _ _ _ _ _ _ => trivial) ?_
                refine' wpT_det (o := ⟨some 61, Op.fieldAddr 71 (Operand.tmp 10) 2, 0, "l05_sparse.go:175", #[], none⟩) rfl (by rfl) (by rfl) (fun w' hw' => ?_) ?_; rotate_left
                · go_simp <;> first | rfl | exact ⟨rfl, rfl⟩
                simp only [Act.put, List.setIfInBounds_toArray, List.set_cons_zero, List.set_cons_succ]
                refine' wpT_det (o := ⟨some 62, Op.load 23 (Operand.tmp 61), 23, "l05_sparse.go:175", #[{ on := 0, ground := Ground.data }], none⟩) rfl (by rfl) (by rfl) (fun w' hw' => ?_) ?_; rotate_left
                · have z2_ := Ext.cell hw' z2; have z3_ := Ext.cell hw' z3; have hcb_ := Ext.cell hw' hcb; have hce_ := Ext.cell hw' hce; go_simp <;> first | rfl | exact ⟨rfl, rfl⟩
                simp only [Act.put, List.setIfInBounds_toArray, List.set_cons_zero, List.set_cons_succ]
                refine' wpT_det (o := ⟨some 63, Op.move (Operand.tmp 12), 3, "l05_sparse.go:175", #[], none⟩) rfl (by rfl) (by rfl) (fun w' hw' => ?_) ?_; rotate_left
                · go_simp <;> first | rfl | exact ⟨rfl, rfl⟩
                simp only [Act.put, List.setIfInBounds_toArray, List.set_cons_zero, List.set_cons_succ]
                refine' wpT_det (o := ⟨some 64, Op.move (Operand.tmp 2), 43, "l05_sparse.go:175", #[], none⟩) rfl (by rfl) (by rfl) (fun w' hw' => ?_) ?_; rotate_left
                · go_simp <;> first | rfl | exact ⟨rfl, rfl⟩
                simp only [Act.put, List.setIfInBounds_toArray, List.set_cons_zero, List.set_cons_succ]
                refine' wpT_det (o := ⟨some 65, Op.fieldAddr 71 (Operand.tmp 10) 2, 0, "l05_sparse.go:175", #[], none⟩) rfl (by rfl) (by rfl) (fun w' hw' => ?_) ?_; rotate_left
                · go_simp <;> first | rfl | exact ⟨rfl, rfl⟩
                simp only [Act.put, List.setIfInBounds_toArray, List.set_cons_zero, List.set_cons_succ]
                refine' wpT_det (o := ⟨some 66, Op.load 23 (Operand.tmp 65), 23, "l05_sparse.go:175", #[{ on := 4, ground := Ground.data }], none⟩) rfl (by rfl) (by rfl) (fun w' hw' => ?_) ?_; rotate_left
                · have z2_ := Ext.cell hw' z2; have z3_ := Ext.cell hw' z3; have hcb_ := Ext.cell hw' hcb; have hce_ := Ext.cell hw' hce; go_simp <;> first | rfl | exact ⟨rfl, rfl⟩
                simp only [Act.put, List.setIfInBounds_toArray, List.set_cons_zero, List.set_cons_succ]
                refine' wpT_det (o := ⟨some 67, Op.move (Operand.tmp 12), 3, "l05_sparse.go:175", #[], none⟩) rfl (by rfl) (by rfl) (fun w' hw' => ?_) ?_; rotate_left
                · go_simp <;> first | rfl | exact ⟨rfl, rfl⟩
                simp only [Act.put, List.setIfInBounds_toArray, List.set_cons_zero, List.set_cons_succ]
                refine' wpT_det (o := ⟨some 68, Op.indexAddr 23 (Operand.tmp 66) (Operand.tmp 67), 0, "l05_sparse.go:175", #[{ on := 5, ground := Ground.data }, { on := 6, ground := Ground.data }], none⟩) rfl (by rfl) (by rfl) (fun w' hw' => ?_) ?_; rotate_left
                · go_simp <;> first | rfl | exact ⟨rfl, rfl⟩
                simp only [Act.put, List.setIfInBounds_toArray, List.set_cons_zero, List.set_cons_succ]
                refine' wpT_det (o := ⟨some 69, Op.load 43 (Operand.tmp 68), 43, "l05_sparse.go:175", #[{ on := 7, ground := Ground.data }], none⟩) rfl (by rfl) (by rfl) (fun w' hw' => ?_) ?_; rotate_left
                · have z2_ := Ext.cell hw' z2; have z3_ := Ext.cell hw' z3; have hcb_ := Ext.cell hw' hcb; have hce_ := Ext.cell hw' hce; go_simp <;> first | rfl | exact ⟨rfl, rfl⟩
                simp only [Act.put, List.setIfInBounds_toArray, List.set_cons_zero, List.set_cons_succ]
                refine wpT_nd (o := ⟨some 70, Op.binOp BinOp.mul 43 (Operand.tmp 64) (Operand.tmp 69) 43, 43, "l05_sparse.go:175", #[{ on := 3, ground := Ground.data }, { on := 8, ground := Ground.data }], none⟩) rfl (by rfl) (by rfl) (fun w' hw' hF R__ hGo => ?_) (by obtain ⟨r, hr⟩ := ex_d .mul ((by rw [HN1.out]) : fop .mul .f32 (c32 (x)) (c32 (o)) = (fmul (c32 x) ((M i j).getD (some 0)))); exact ⟨_, r, rfl, hr⟩) ?_
                · exact gives_f .mul (.inr (.inr (.inl rfl))) _ _ _ _ rfl (x) (o) rfl rfl (fmul (c32 x) ((M i j).getD (some 0))) (by rw [HN1.out]) (fun r w2 hx hc => hGo _ _ hx ⟨r, rfl, hc⟩ trivial)
                rintro _ ⟨f9, rfl, hf9⟩
                simp only [Act.put, List.setIfInBounds_toArray, List.set_cons_zero, List.set_cons_succ]
                refine' wpT_det (o := ⟨some 71, Op.move (Operand.tmp 3), 43, "l05_sparse.go:175", #[], none⟩) rfl (by rfl) (by rfl) (fun w' hw' => ?_) ?_; rotate_left
                · go_simp <;> first | rfl | exact ⟨rfl, rfl⟩
                simp only [Act.put, List.setIfInBounds_toArray, List.set_cons_zero, List.set_cons_succ]
                refine' wpT_det (o := ⟨some 72, Op.fieldAddr 71 (Operand.tmp 11) 2, 0, "l05_sparse.go:175", #[], none⟩) rfl (by rfl) (by rfl) (fun w' hw' => ?_) ?_; rotate_left
                · go_simp <;> first | rfl | exact ⟨rfl, rfl⟩
                simp only [Act.put, List.setIfInBounds_toArray, List.set_cons_zero, List.set_cons_succ]
                refine' wpT_det (o := ⟨some 73, Op.load 23 (Operand.tmp 72), 23, "l05_sparse.go:175", #[{ on := 11, ground := Ground.data }], none⟩) rfl (by rfl) (by rfl) (fun w' hw' => ?_) ?_; rotate_left
                · have z2_ := Ext.cell hw' z2; have z3_ := Ext.cell hw' z3; have hcb_ := Ext.cell hw' hcb; have hce_ := Ext.cell hw' hce; go_simp <;> first | rfl | exact ⟨rfl, rfl⟩
                simp only [Act.put, List.setIfInBounds_toArray, List.set_cons_zero, List.set_cons_succ]
                refine' wpT_det (o := ⟨some 74, Op.move (Operand.tmp 12), 3, "l05_sparse.go:175", #[], none⟩) rfl (by rfl) (by rfl) (fun w' hw' => ?_) ?_; rotate_left
                · go_simp <;> first | rfl | exact ⟨rfl, rfl⟩
                simp only [Act.put, List.setIfInBounds_toArray, List.set_cons_zero, List.set_cons_succ]
                refine' wpT_det (o := ⟨some 75, Op.indexAddr 23 (Operand.tmp 73) (Operand.tmp 74), 0, "l05_sparse.go:175", #[{ on := 12, ground := Ground.data }, { on := 13, ground := Ground.data }], none⟩) rfl (by rfl) (by rfl) (fun w' hw' => ?_) ?_; rotate_left
                · go_simp <;> first | rfl | exact ⟨rfl, rfl⟩
                simp only [Act.put, List.setIfInBounds_toArray, List.set_cons_zero, List.set_cons_succ]
                refine' wpT_det (o := ⟨some 76, Op.load 43 (Operand.tmp 75), 43, "l05_sparse.go:175", #[{ on := 14, ground := Ground.data }], none⟩) rfl (by rfl) (by rfl) (fun w' hw' => ?_) ?_; rotate_left
                · have z2_ := Ext.cell hw' z2; have z3_ := Ext.cell hw' z3; have hcb_ := Ext.cell hw' hcb; have hce_ := Ext.cell hw' hce; go_simp <;> first | rfl | exact ⟨rfl, rfl⟩
                simp only [Act.put, List.setIfInBounds_toArray, List.set_cons_zero, List.set_cons_succ]
                refine wpT_nd (o := ⟨some 77, Op.binOp BinOp.mul 43 (Operand.tmp 71) (Operand.tmp 76) 43, 43, "l05_sparse.go:175", #[{ on := 10, ground := Ground.data }, { on := 15, ground := Ground.data }], none⟩) rfl (by rfl) (by rfl) (fun w' hw' hF R__ hGo => ?_) (by obtain ⟨r, hr⟩ := ex_d .mul ((by rw [HN2.out]) : fop .mul .f32 (c32 (y)) (c32 (o2)) = (fmul (c32 y) ((M' i j).getD (some 0)))); exact ⟨_, r, rfl, hr⟩) ?_
                · exact gives_f .mul (.inr (.inr (.inl rfl))) _ _ _ _ rfl (y) (o2) rfl rfl (fmul (c32 y) ((M' i j).getD (some 0))) (by rw [HN2.out]) (fun r w2 hx hc => hGo _ _ hx ⟨r, rfl, hc⟩ trivial)
                rintro _ ⟨f16, rfl, hf16⟩
                simp only [Act.put, List.setIfInBounds_toArray, List.set_cons_zero, List.set_cons_succ]
                refine wpT_nd (o := ⟨some 78, Op.binOp BinOp.add 43 (Operand.tmp 70) (Operand.tmp 77) 43, 43, "l05_sparse.go:175", #[{ on := 9, ground := Ground.data }, { on := 16, ground := Ground.data }], none⟩) rfl (by rfl) (by rfl) (fun w' hw' hF R__ hGo => ?_) (by obtain ⟨r, hr⟩ := ex_d .add ((by rw [hf9, hf16]; rfl) : fop .add .f32 (c32 (f9)) (c32 (f16)) = (wv x y M M' i j)); exact ⟨_, r, rfl, hr⟩) ?_
                · exact gives_f .add (.inl rfl) _ _ _ _ rfl (f9) (f16) rfl rfl (wv x y M M' i j) (by rw [hf9, hf16]; rfl) (fun r w2 hx hc => hGo _ _ hx ⟨r, rfl, hc⟩ trivial)
                rintro _ ⟨f17, rfl, hf17⟩
                simp only [Act.put, List.setIfInBounds_toArray, List.set_cons_zero, List.set_cons_succ]
                refine wpT_nil (fun w7 hw' hF => ?_)
                show wpList _ _ _ [(⟨some 79, Op.indexAddr 23 (Operand.tmp 62) (Operand.tmp 63), 0, "l05_sparse.go:175", #[{ on := 1, ground := Ground.data }, { on := 2, ground := Ground.data }, { on := 0, ground := Ground.phase }, { on := 1, ground := Ground.phase }, { on := 2, ground := Ground.phase }, { on := 3, ground := Ground.phase }, { on := 4, ground := Ground.phase }, { on := 5, ground := Ground.phase }, { on := 6, ground := Ground.phase }, { on := 7, ground := Ground.phase }, { on := 8, ground := Ground.phase }, { on := 9, ground := Ground.phase }, { on := 10, ground := Ground.phase }, { on := 11, ground := Ground.phase }, { on := 12, ground := Ground.phase }, { on := 13, ground := Ground.phase }, { on := 14, ground := Ground.phase }, { on := 15, ground := Ground.phase }, { on := 16, ground := Ground.phase }, { on := 17, ground := Ground.phase }], none⟩ : Oper), (⟨none, Op.store 43 (Operand.tmp 79) (Operand.tmp 78), 0, "l05_sparse.go:175", #[{ on := 18, ground := Ground.data }, { on := 17, ground := Ground.data }, { on := 0, ground := Ground.phase }, { on := 1, ground := Ground.phase }, { on := 2, ground := Ground.phase }, { on := 3, ground := Ground.phase }, { on := 4, ground := Ground.phase }, { on := 5, ground := Ground.phase }, { on := 6, ground := Ground.phase }, { on := 7, ground := Ground.phase }, { on := 8, ground := Ground.phase }, { on := 9, ground := Ground.phase }, { on := 10, ground := Ground.phase }, { on := 11, ground := Ground.phase }, { on := 12, ground := Ground.phase }, { on := 13, ground := Ground.phase }, { on := 14, ground := Ground.phase }, { on := 15, ground := Ground.phase }, { on := 16, ground := Ground.phase }, { on := 17, ground := Ground.phase }], none⟩ : Oper)] _ _
                have hx := hw'.undrew
                clear hF hw' z2 z3 hcb hce HN1 HN2
                replace h1 := h1.ext hx
                replace h2 := h2.ext hx
                replace h3 := h3.ext hx
                replace h4 := h4.trans hx
                replace h8 := h8.ext hx
                replace h9 := h9.ext hx
                replace h10 := h10.ext hx
                clear hx
                obtain ⟨hcb, hf⟩ := h3.at_ t (by omega)
                rw [flts_get (by omega)] at hcb
                have hsf := store_f32 Try.prog f17 hcb hf
                have hm := FW2.putN h0 h1 h2 h3 h4 h5 h6 h7 h8 h9 h10 t f17 (weS_nset (x := x) (y := y) (M' := M') hi hj HT.out HOR2.out hf17)
                clear h0 h1 h2 h3 h4 h5 h6 h7 h8 h9 h10 HOR2
                go_wp2_with fail
                go_roundw
                case rel => exact ⟨t + 1, by omega, by go_num, hm⟩
                case measure => simp [intOf]; omega

              | false =>
                rw [ha] at hca
                cases hb : (M' i j).isSome with
                | true =>
                  have HOR : ((M i j).isSome || (M' i j).isSome) = true := by rw [hb]; simp
                  have HOR2 := Lib.hid HOR
                  rw [hb] at hcc
                  go_upto_region 9 with (fail)
                  clear z0
                  obtain ⟨hcb, hf⟩ := h2.at_ t (by omega)
                  rw [bools_get (by omega)] at hcb
                  have hsb := store_bool Try.prog true hcb hf
                  have hm := FW2.putT h0 h1 h2 h3 h4 h5 h6 h7 h8 h9 h10 t true (weS_tset (x := x) (y := y) hi hj HT.out HOR)
                  have z1 : wA.cell? ⟨fb, 1, none⟩ = some (.slice (some ⟨g1, 0, none⟩) NN k) := h1.cell 1 rfl
                  go_upto_region 10 with (fail)
                  obtain ⟨w6, hw6⟩ : ∃ v : World, v = wA.setCell ⟨g1, t, none⟩ (.bool true) := ⟨_, rfl⟩
                  rw [← hw6] at hm ⊢
                  clear hw6 h0 h1 h2 h3 h4 h5 h6 h7 h8 h9 h10 lt lt2 hcb hf hsb z1 e1 hta htb hca hcc HOR
                  obtain ⟨g1, k, g2, q, zs, A2, k2, V2, q2, ys2, h0, h1, h2, h3, h4, h5, h6, h7, h8, h9, h10⟩ := hm
                  have lz := h3.reads.flen
                  have lz2 := h10.reads.flen
                  obtain ⟨adv, rfl, hce⟩ := h10.reads.fltN t (by omega)
                  obtain ⟨hcb, hf⟩ := h3.at_ t (by omega)
                  rw [flts_get (by omega)] at hcb
                  have hn1_ := weS_nb h0 hi hj HT.out
                  have hn2_ := weS_nb2 h7 hi hj HT.out
                  obtain ⟨o, ho⟩ : ∃ o, o = rdf zs (t : Int) := ⟨_, rfl⟩
                  obtain ⟨o2, ho2⟩ : ∃ o2, o2 = rdf ys2 (t : Int) := ⟨_, rfl⟩
                  rw [← ho] at hcb hn1_
                  rw [← ho2] at hce hn2_
                  have HN1 := Lib.hid hn1_
                  have HN2 := Lib.hid hn2_
                  clear ho ho2 hn1_ hn2_ hf
                  have z2 := h1.cell 2 rfl
                  have z3 := h8.cell 2 rfl
                  refine wp_region_T (cs := []) [0, 1, 2, 3, 4, 5, 6, 7, 8, 9, 10, 11, 12, 13, 14, 15, 16, 17] [18, 19] [9, 16, 17] [] (fun i__ v => match i__ with | 9 => ∃ r, v = .float .f32 r ∧ c32 r = (fmul (c32 x) ((M i j).getD (some 0))) | 16 => ∃ r, v = .float .f32 r ∧ c32 r = (fmul (c32 y) ((M' i j).getD (some 0))) | 17 => ∃ r, v = .float .f32 r ∧ c32 r = (wv x y M M' i j) | _ => False) (fun _ _ _ => True) (by kernel_rfl) (by kernel_rfl) (fun _ _ _ _ _ _ => trivial) ?_
                  refine' wpT_det (o := ⟨some 61, Op.fieldAddr 71 (Operand.tmp 10) 2, 0, "l05_sparse.go:175", #[], none⟩) rfl (by rfl) (by rfl) (fun w' hw' => ?_) ?_; rotate_left
                  · go_simp <;> first | rfl | exact ⟨rfl, rfl⟩
                  simp only [Act.put, List.setIfInBounds_toArray, List.set_cons_zero, List.set_cons_succ]
                  refine' wpT_det (o := ⟨some 62, Op.load 23 (Operand.tmp 61), 23, "l05_sparse.go:175", #[{ on := 0, ground := Ground.data }], none⟩) rfl (by rfl) (by rfl) (fun w' hw' => ?_) ?_; rotate_left
                  · have z2_ := Ext.cell hw' z2; have z3_ := Ext.cell hw' z3; have hcb_ := Ext.cell hw' hcb; have hce_ := Ext.cell hw' hce; go_simp <;> first | rfl | exact ⟨rfl, rfl⟩
                  simp only [Act.put, List.setIfInBounds_toArray, List.set_cons_zero, List.set_cons_succ]
                  refine' wpT_det (o := ⟨some 63, Op.move (Operand.tmp 12), 3, "l05_sparse.go:175", #[], none⟩) rfl (by rfl) (by rfl) (fun w' hw' => ?_) ?_; rotate_left
                  · go_simp <;> first | rfl | exact ⟨rfl, rfl⟩
                  simp only [Act.put, List.setIfInBounds_toArray, List.set_cons_zero, List.set_cons_succ]
                  refine' wpT_det (o := ⟨some 64, Op.move (Operand.tmp 2), 43, "l05_sparse.go:175", #[], none⟩) rfl (by rfl) (by rfl) (fun w' hw' => ?_) ?_; rotate_left
                  · go_simp <;> first | rfl | exact ⟨rfl, rfl⟩
                  simp only [Act.put, List.setIfInBounds_toArray, List.set_cons_zero, List.set_cons_succ]
                  refine' wpT_det (o := ⟨some 65, Op.fieldAddr 71 (Operand.tmp 10) 2, 0, "l05_sparse.go:175", #[], none⟩) rfl (by rfl) (by rfl) (fun w' hw' => ?_) ?_; rotate_left
                  · go_simp <;> first | rfl | exact ⟨rfl, rfl⟩
                  simp only [Act.put, List.setIfInBounds_toArray, List.set_cons_zero, List.set_cons_succ]
                  refine' wpT_det (o := ⟨some 66, Op.load 23 (Operand.tmp 65), 23, "l05_sparse.go:175", #[{ on := 4, ground := Ground.data }], none⟩) rfl (by rfl) (by rfl) (fun w' hw' => ?_) ?_; rotate_left
                  · have z2_ := Ext.cell hw' z2; have z3_ := Ext.cell hw' z3; have hcb_ := Ext.cell hw' hcb; have hce_ := Ext.cell hw' hce; go_simp <;> first | rfl | exact ⟨rfl, rfl⟩
                  simp only [Act.put, List.setIfInBounds_toArray, List.set_cons_zero, List.set_cons_succ]
                  refine' wpT_det (o := ⟨some 67, Op.move (Operand.tmp 12), 3, "l05_sparse.go:175", #[], none⟩) rfl (by rfl) (by rfl) (fun w' hw' => ?_) ?_; rotate_left
                  · go_simp <;> first | rfl | exact ⟨rfl, rfl⟩
                  simp only [Act.put, List.setIfInBounds_toArray, List.set_cons_zero, List.set_cons_succ]
                  refine' wpT_det (o := ⟨some 68, Op.indexAddr 23 (Operand.tmp 66) (Operand.tmp 67), 0, "l05_sparse.go:175", #[{ on := 5, ground := Ground.data }, { on := 6, ground := Ground.data }], none⟩) rfl (by rfl) (by rfl) (fun w' hw' => ?_) ?_; rotate_left
                  · go_simp <;> first | rfl | exact ⟨rfl, rfl⟩
                  simp only [Act.put, List.setIfInBounds_toArray, List.set_cons_zero, List.set_cons_succ]
                  refine' wpT_det (o := ⟨some 69, Op.load 43 (Operand.tmp 68), 43, "l05_sparse.go:175", #[{ on := 7, ground := Ground.data }], none⟩) rfl (by rfl) (by rfl) (fun w' hw' => ?_) ?_; rotate_left
                  · have z2_ := Ext.cell hw' z2; have z3_ := Ext.cell hw' z3; have hcb_ := Ext.cell hw' hcb; have hce_ := Ext.cell hw' hce; go_simp <;> first | rfl | exact ⟨rfl, rfl⟩
                  simp only [Act.put, List.setIfInBounds_toArray, List.set_cons_zero, List.set_cons_succ]
                  refine wpT_nd (o := ⟨some 70, Op.binOp BinOp.mul 43 (Operand.tmp 64) (Operand.tmp 69) 43, 43, "l05_sparse.go:175", #[{ on := 3, ground := Ground.data }, { on := 8, ground := Ground.data }], none⟩) rfl (by rfl) (by rfl) (fun w' hw' hF R__ hGo => ?_) (by obtain ⟨r, hr⟩ := ex_d .mul ((by rw [HN1.out]) : fop .mul .f32 (c32 (x)) (c32 (o)) = (fmul (c32 x) ((M i j).getD (some 0)))); exact ⟨_, r, rfl, hr⟩) ?_
                  · exact gives_f .mul (.inr (.inr (.inl rfl))) _ _ _ _ rfl (x) (o) rfl rfl (fmul (c32 x) ((M i j).getD (some 0))) (by rw [HN1.out]) (fun r w2 hx hc => hGo _ _ hx ⟨r, rfl, hc⟩ trivial)
                  rintro _ ⟨f9, rfl, hf9⟩
                  simp only [Act.put, List.setIfInBounds_toArray, List.set_cons_zero, List.set_cons_succ]
                  refine' wpT_det (o := ⟨some 71, Op.move (Operand.tmp 3), 43, "l05_sparse.go:175", #[], none⟩) rfl (by rfl) (by rfl) (fun w' hw' => ?_) ?_; rotate_left
                  · go_simp <;> first | rfl | exact ⟨rfl, rfl⟩
                  simp only [Act.put, List.setIfInBounds_toArray, List.set_cons_zero, List.set_cons_succ]
                  refine' wpT_det (o := ⟨some 72, Op.fieldAddr 71 (Operand.tmp 11) 2, 0, "l05_sparse.go:175", #[], none⟩) rfl (by rfl) (by rfl) (fun w' hw' => ?_) ?_; rotate_left
                  · go_simp <;> first | rfl | exact ⟨rfl, rfl⟩
                  simp only [Act.put, List.setIfInBounds_toArray, List.set_cons_zero, List.set_cons_succ]
                  refine' wpT_det (o := ⟨some 73, Op.load 23 (Operand.tmp 72), 23, "l05_sparse.go:175", #[{ on := 11, ground := Ground.data }], none⟩) rfl (by rfl) (by rfl) (fun w' hw' => ?_) ?_; rotate_left
                  · have z2_ := Ext.cell hw' z2; have z3_ := Ext.cell hw' z3; have hcb_ := Ext.cell hw' hcb; have hce_ := Ext.cell hw' hce; go_simp <;> first | rfl | exact ⟨rfl, rfl⟩
                  simp only [Act.put, List.setIfInBounds_toArray, List.set_cons_zero, List.set_cons_succ]
                  refine' wpT_det (o := ⟨some 74, Op.move (Operand.tmp 12), 3, "l05_sparse.go:175", #[], none⟩) rfl (by rfl) (by rfl) (fun w' hw' => ?_) ?_; rotate_left
                  · go_simp <;> first | rfl | exact ⟨rfl, rfl⟩
                  simp only [Act.put, List.setIfInBounds_toArray, List.set_cons_zero, List.set_cons_succ]
                  refine' wpT_det (o := ⟨some 75, Op.indexAddr 23 (Operand.tmp 73) (Operand.tmp 74), 0, "l05_sparse.go:175", #[{ on := 12, ground := Ground.data }, { on := 13, ground := Ground.data }], none⟩) rfl (by rfl) (by rfl) (fun w' hw' => ?_) ?_; rotate_left
                  · go_simp <;> first | rfl | exact ⟨rfl, rfl⟩
                  simp only [Act.put, List.setIfInBounds_toArray, List.set_cons_zero, List.set_cons_succ]
                  refine' wpT_det (o := ⟨some 76, Op.load 43 (Operand.tmp 75), 43, "l05_sparse.go:175", #[{ on := 14, ground := Ground.data }], none⟩) rfl (by rfl) (by rfl) (fun w' hw' => ?_) ?_; rotate_left
                  · have z2_ := Ext.cell hw' z2; have z3_ := Ext.cell hw' z3; have hcb_ := Ext.cell hw' hcb; have hce_ := Ext.cell hw' hce; go_simp <;> first | rfl | exact ⟨rfl, rfl⟩
                  simp only [Act.put, List.setIfInBounds_toArray, List.set_cons_zero, List.set_cons_succ]
                  refine wpT_nd (o := ⟨some 77, Op.binOp BinOp.mul 43 (Operand.tmp 71) (Operand.tmp 76) 43, 43, "l05_sparse.go:175", #[{ on := 10, ground := Ground.data }, { on := 15, ground := Ground.data }], none⟩) rfl (by rfl) (by rfl) (fun w' hw' hF R__ hGo => ?_) (by obtain ⟨r, hr⟩ := ex_d .mul ((by rw [HN2.out]) : fop .mul .f32 (c32 (y)) (c32 (o2)) = (fmul (c32 y) ((M' i j).getD (some 0)))); exact ⟨_, r, rfl, hr⟩) ?_
                  · exact gives_f .mul (.inr (.inr (.inl rfl))) _ _ _ _ rfl (y) (o2) rfl rfl (fmul (c32 y) ((M' i j).getD (some 0))) (by rw [HN2.out]) (fun r w2 hx hc => hGo _ _ hx ⟨r, rfl, hc⟩ trivial)
                  rintro _ ⟨f16, rfl, hf16⟩
                  simp only [Act.put, List.setIfInBounds_toArray, List.set_cons_zero, List.set_cons_succ]
                  refine wpT_nd (o := ⟨some 78, Op.binOp BinOp.add 43 (Operand.tmp 70) (Operand.tmp 77) 43, 43, "l05_sparse.go:175", #[{ on := 9, ground := Ground.data }, { on := 16, ground := Ground.data }], none⟩) rfl (by rfl) (by rfl) (fun w' hw' hF R__ hGo => ?_) (by obtain ⟨r, hr⟩ := ex_d .add ((by rw [hf9, hf16]; rfl) : fop .add .f32 (c32 (f9)) (c32 (f16)) = (wv x y M M' i j)); exact ⟨_, r, rfl, hr⟩) ?_
                  · exact gives_f .add (.inl rfl) _ _ _ _ rfl (f9) (f16) rfl rfl (wv x y M M' i j) (by rw [hf9, hf16]; rfl) (fun r w2 hx hc => hGo _ _ hx ⟨r, rfl, hc⟩ trivial)
                  rintro _ ⟨f17, rfl, hf17⟩
                  simp only [Act.put, List.setIfInBounds_toArray, List.set_cons_zero, List.set_cons_succ]
                  refine wpT_nil (fun w7 hw' hF => ?_)
                  show wpList _ _ _ [(⟨some 79, Op.indexAddr 23 (Operand.tmp 62) (Operand.tmp 63), 0, "l05_sparse.go:175", #[{ on := 1, ground := Ground.data }, { on := 2, ground := Ground.data }, { on := 0, ground := Ground.phase }, { on := 1, ground := Ground.phase }, { on := 2, ground := Ground.phase }, { on := 3, ground := Ground.phase }, { on := 4, ground := Ground.phase }, { on := 5, ground := Ground.phase }, { on := 6, ground := Ground.phase }, { on := 7, ground := Ground.phase }, { on := 8, ground := Ground.phase }, { on := 9, ground := Ground.phase }, { on := 10, ground := Ground.phase }, { on := 11, ground := Ground.phase }, { on := 12, ground := Ground.phase }, { on := 13, ground := Ground.phase }, { on := 14, ground := Ground.phase }, { on := 15, ground := Ground.phase }, { on := 16, ground := Ground.phase }, { on := 17, ground := Ground.phase }], none⟩ : Oper), (⟨none, Op.store 43 (Operand.tmp 79) (Operand.tmp 78), 0, "l05_sparse.go:175", #[{ on := 18, ground := Ground.data }, { on := 17, ground := Ground.data }, { on := 0, ground := Ground.phase }, { on := 1, ground := Ground.phase }, { on := 2, ground := Ground.phase }, { on := 3, ground := Ground.phase }, { on := 4, ground := Ground.phase }, { on := 5, ground := Ground.phase }, { on := 6, ground := Ground.phase }, { on := 7, ground := Ground.phase }, { on := 8, ground := Ground.phase }, { on := 9, ground := Ground.phase }, { on := 10, ground := Ground.phase }, { on := 11, ground := Ground.phase }, { on := 12, ground := Ground.phase }, { on := 13, ground := Ground.phase }, { on := 14, ground := Ground.phase }, { on := 15, ground := Ground.phase }, { on := 16, ground := Ground.phase }, { on := 17, ground := Ground.phase }], none⟩ : Oper)] _ _
                  have hx := hw'.undrew
                  clear hF hw' z2 z3 hcb hce HN1 HN2
                  replace h1 := h1.ext hx
                  replace h2 := h2.ext hx
                  replace h3 := h3.ext hx
                  replace h4 := h4.trans hx
                  replace h8 := h8.ext hx
                  replace h9 := h9.ext hx
                  replace h10 := h10.ext hx
                  clear hx
                  obtain ⟨hcb, hf⟩ := h3.at_ t (by omega)
                  rw [flts_get (by omega)] at hcb
                  have hsf := store_f32 Try.prog f17 hcb hf
                  have hm := FW2.putN h0 h1 h2 h3 h4 h5 h6 h7 h8 h9 h10 t f17 (weS_nset (x := x) (y := y) (M' := M') hi hj HT.out HOR2.out hf17)
                  clear h0 h1 h2 h3 h4 h5 h6 h7 h8 h9 h10 HOR2
                  go_wp2_with fail
                  go_roundw
                  case rel => exact ⟨t + 1, by omega, by go_num, hm⟩
                  case measure => simp [intOf]; omega

                | false =>
                  rw [hb] at hcc
                  have hsk := weS_skip (x := x) (y := y) hj HT.out ha hb
                  have hst : FW2 w4 w6 fb fb' N NN (weS x y N M M' t) (weS x y N M M' t) M' wA := ⟨_, _, _, _, zs, _, _, _, _, ys2, h0, h1, h2, h3, h4, h5, h6, h7, h8, h9, h10⟩
                  rw [← hsk] at hst
                  clear h0 h1 h2 h3 h4 h5 h6 h7 h8 h9 h10 hsk hta htb
                  go_wp2_with fail
                  go_roundw
                  case rel => exact ⟨t + 1, by omega, by go_num, hst⟩
                  case measure => simp [intOf]; omega
            · obtain rfl : t = NN := by omega
              replace hx0 := hx0.trans h4
              replace b1 := b1.ext h4
              have ew : ∀ a b, a < N → b < N → weS x y N M M' t a b = weiM x y M M' a b := by rw [HN.out]; exact weS_full
              rw [tb_congr (fun a b ha hb => by rw [ew a b ha hb])] at h2
              rw [nb_congr (fun a b ha hb => by rw [ew a b ha hb])] at h0
              clear ew
              go_wp2_with fail
              refine (l05Close_any _ N t _ k _ q (weiM x y M M') zs hn1 hn32 HN.out _ (FAt.of h1 h2.reads h3.reads h0)).mono ?_
              rw [← HD.out]
              rintro e w9 ⟨A'', kA, B'', kB, V'', kV, rfl, p1, p2, p3, n12, n13, n23, hx⟩
              clear h0 h1 h2 h3 h4 h5 h6 h7 h8 h9 h10 ba bb
              replace p1 := p1.base hx0.size
              replace p2 := p2.base hx0.size
              replace p3 := p3.base hx0.size
              replace b1 := b1.ext hx
              replace hx0 := hx0.trans hx
              clear hx
              have y0 := b1.cell 0 rfl
              have y1 := b1.cell 1 rfl
              have y2 := b1.cell 2 rfl
              have y3 := b1.cell 3 rfl
              have f0 := b1.free 0
              have f1 := b1.free 1
              have f2 := b1.free 2
              have f3 := b1.free 3
              have hq0 := b1.lt
              go_wp2_with fail
              have d0 := b1.set 0 (.int .i64 D.sd)
              have d1 := d0.set 1 (.slice A'' D.st.length kA)
              have d2 := d1.set 2 (.slice B'' D.co.length kB)
              have d3 := d2.set 3 (.slice V'' D.va.length kV)
              have q1 := ((((p1.setBlk b1 (by decide) 0 (.int .i64 D.sd)).setBlk d0 (by decide) 1 (.slice A'' D.st.length kA)).setBlk d1 (by decide) 2 (.slice B'' D.co.length kB)).setBlk d2 (by decide) 3 (.slice V'' D.va.length kV))
              have q2 := ((((p2.setBlk b1 (by decide) 0 (.int .i64 D.sd)).setBlk d0 (by decide) 1 (.slice A'' D.st.length kA)).setBlk d1 (by decide) 2 (.slice B'' D.co.length kB)).setBlk d2 (by decide) 3 (.slice V'' D.va.length kV))
              have q3 := ((((p3.setBlk b1 (by decide) 0 (.int .i64 D.sd)).setBlk d0 (by decide) 1 (.slice A'' D.st.length kA)).setBlk d1 (by decide) 2 (.slice B'' D.co.length kB)).setBlk d2 (by decide) 3 (.slice V'' D.va.length kV))
              have x2 := ((((hx0.set (p := ⟨w.heap.size + 1 + 1, 0, none⟩) (by simp; try omega) (.int .i64 D.sd)).set (p := ⟨w.heap.size + 1 + 1, 1, none⟩) (by simp; try omega) (.slice A'' D.st.length kA)).set (p := ⟨w.heap.size + 1 + 1, 2, none⟩) (by simp; try omega) (.slice B'' D.co.length kB)).set (p := ⟨w.heap.size + 1 + 1, 3, none⟩) (by simp; try omega) (.slice V'' D.va.length kV))
              have r0 := d3.cell 0 rfl
              have r1 := d3.cell 1 rfl
              have r2 := d3.cell 2 rfl
              have r3 := d3.cell 3 rfl
              refine bodyPost_ret (v := .tuple #[.agg #[.int .i64 D.sd, .slice A'' D.st.length kA, .slice B'' D.co.length kB, .slice V'' D.va.length kV], .bool D.ok]) (by simp only [results, Try.results59]; simp [go_sem, r0, r1, r2, r3]) rfl ?_
              exact ⟨A'', kA, B'', kB, V'', kV, rfl, q1, q2, q3, n12, n13, n23, x2⟩


end Go.Proofs.Ytkifpligpobiaaa
