
/- SparseWeigh, the program. -/

import Derived.Test.YtkifpligpobiaaaJ2

import Derived.Test.YtkifpligpobiaaaReg3

import Derived.Test.YtkifpligpobiaaaH14
set_option linter.unusedVariables false
set_option linter.unusedSimpArgs false

namespace Go.Proofs.Ytkifpligpobiaaa

open Go.RowKit


/-- A weighed sum at a place. -/
def wv (x y : Nat) (M M' : Sqr) (i j : Nat) : Option Nat := fadd (fmul (c32 x) ((M i j).getD (some 0))) (fmul (c32 y) ((M' i j).getD (some 0)))
def weiM (x y : Nat) (M M' : Sqr) : Sqr := fun i j => if (M i j).isSome || (M' i j).isSome then some (wv x y M M' i j) else none
/-- What SparseWeigh answers. -/
noncomputable def weiD (sd sd' : Int) (x y : Nat) (st co : List Int) (va : List Nat) (st' co' : List Int) (va' : List Nat) : SD := if isSp sd st co va && isSp sd' st' co' va' && decide (sd = sd') && (isFin .f32 x && isFin .f32 y) then giveSp sd.toNat (weiM x y (vw st co va co.length) (vw st' co' va' co'.length)) else SD.bad
/-- The sum as far as the first square has been gone through. -/
def w1S (x y : Nat) (M M' : Sqr) (S : Nat → Nat → Bool) : Sqr := fun i j => if (M i j).isSome && !S i j then some (wv x y M M' i j) else none
/-- .. and as far as the second one. -/
def w2S (x y : Nat) (M M' : Sqr) (S : Nat → Nat → Bool) : Sqr := fun i j => if (M i j).isSome || ((M' i j).isSome && !S i j) then some (wv x y M M' i j) else none
theorem w1S_zero {n : Nat} (x y : Nat) (M M' : Sqr) : ∀ i j, i < n → j < n → noneM i j = w1S x y M M' (fun i j => (M i j).isSome) i j := by
  intro i j _ _
  unfold w1S
  cases h : (M i j).isSome <;> simp [noneM, h]
theorem w1S_step {n : Nat} {x y : Nat} {M M' : Sqr} {S : Nat → Nat → Bool} {i j : Nat} (h : (M i j).isSome = true) : ∀ a b, a < n → b < n → updM (w1S x y M M' S) i j (some (wv x y M M' i j)) a b = w1S x y M M' (strike S i j) a b := by
  intro a b _ _
  by_cases e : a = i ∧ b = j
  · obtain ⟨rfl, rfl⟩ := e
    rw [updM_same]
    unfold w1S
    rw [strike_self, h]
    rfl
  · rw [updM_other _ e]
    unfold w1S
    rw [strike_other e]
theorem w1S_end {n : Nat} {x y : Nat} {M M' : Sqr} {S : Nat → Nat → Bool} (h : ∀ i j, i < n → j < n → S i j = false) : ∀ a b, a < n → b < n → w1S x y M M' S a b = w2S x y M M' (fun i j => (M' i j).isSome) a b := by
  intro a b ha hb
  unfold w1S w2S
  rw [h a b ha hb]
  cases h1 : (M a b).isSome <;> cases h2 : (M' a b).isSome <;> simp [h1, h2]
theorem w2S_step {n : Nat} {x y : Nat} {M M' : Sqr} {S : Nat → Nat → Bool} {i j : Nat} (h : (M' i j).isSome = true) : ∀ a b, a < n → b < n → updM (w2S x y M M' S) i j (some (wv x y M M' i j)) a b = w2S x y M M' (strike S i j) a b := by
  intro a b _ _
  by_cases e : a = i ∧ b = j
  · obtain ⟨rfl, rfl⟩ := e
    rw [updM_same]
    unfold w2S
    rw [strike_self, h]
    cases (M a b).isSome <;> rfl
  · rw [updM_other _ e]
    unfold w2S
    rw [strike_other e]
theorem w2S_end {n : Nat} {x y : Nat} {M M' : Sqr} {S : Nat → Nat → Bool} (h : ∀ i j, i < n → j < n → S i j = false) : ∀ a b, a < n → b < n → w2S x y M M' S a b = weiM x y M M' a b := by
  intro a b ha hb
  unfold w2S weiM
  rw [h a b ha hb]
  cases (M a b).isSome <;> cases (M' a b).isSome <;> rfl
theorem rds_twoF (w : World) (x y : Nat) : Rds (w.alloc (.cells #[.float .f32 x, .float .f32 y] 43)) (some ⟨w.heap.size, 0, none⟩) 2 (flts [x, y]) := rds_two w (.float .f32 x) (.float .f32 y) 43
theorem fin_two (x y : Nat) : finL [x, y] = (isFin .f32 x && isFin .f32 y) := by unfold finL; simp

set_option maxRecDepth 20000 in
set_option maxHeartbeats 8000000 in
theorem implSparseWeigh_any (sd : Int) (A : Option Addr) (n ca : Nat) (B : Option Addr) (m cb : Nat) (V : Option Addr) (p cv : Nat) (sd' : Int) (A' : Option Addr) (n' ca' : Nat) (B' : Option Addr) (m' cb' : Nat) (V' : Option Addr) (p' cv' : Nat) (x y : Nat) (st co : List Int) (va : List Nat) (st' co' : List Int) (va' : List Nat) (w : World) (hr : Rds w A n (ints st)) (hq : Rds w B m (ints co)) (hv : Rds w V p (flts va)) (hr' : Rds w A' n' (ints st')) (hq' : Rds w B' m' (ints co')) (hv' : Rds w V' p' (flts va')) :
    Calls Try.prog 60 #[.agg #[.int .i64 sd, .slice A n ca, .slice B m cb, .slice V p cv], .agg #[.int .i64 sd', .slice A' n' ca', .slice B' m' cb', .slice V' p' cv'], .float .f32 x, .float .f32 y] w (RetSqB w (weiD sd sd' x y st co va st' co' va')) := by
  have HM := Lib.hid hq.ilen
  have HM' := Lib.hid hq'.ilen
  cases hs : isSp sd st co va with
  | false =>
    have hd : weiD sd sd' x y st co va st' co' va' = SD.bad := by unfold weiD; rw [hs]; rfl
    go_enter Try.func60, Try.ntmps60
    go_upto_region 1 with (fail)
    obtain ⟨w0, hw0⟩ : ∃ w0, w0 = (((w.alloc (.cells #[.int .i64 sd, .slice A n ca, .slice B m cb, .slice V p cv] 27)).alloc (.cells #[.int .i64 sd', .slice A' n' ca', .slice B' m' cb', .slice V' p' cv'] 27)).alloc (.cells #[.int .i64 0, .slice none 0 0, .slice none 0 0, .slice none 0 0] 27)) := ⟨_, rfl⟩
    have hx0 : Ext w w0 := by subst hw0; exact (((Ext.refl _).alloc _).alloc _).alloc _
    have ba : Blk w0 (w.heap.size) #[.int .i64 sd, .slice A n ca, .slice B m cb, .slice V p cv] 27 := by subst hw0; exact (Blk.new w _ _).ext (((Ext.refl _).alloc _).alloc _)
    have bb : Blk w0 (w.heap.size + 1) #[.int .i64 sd', .slice A' n' ca', .slice B' m' cb', .slice V' p' cv'] 27 := by subst hw0; simpa using (Blk.new (w.alloc (.cells #[.int .i64 sd, .slice A n ca, .slice B m cb, .slice V p cv] 27)) _ _).ext ((Ext.refl _).alloc _)
    have b1 : Blk w0 (w.heap.size + 1 + 1) #[.int .i64 0, .slice none 0 0, .slice none 0 0, .slice none 0 0] 27 := by subst hw0; simpa using (Blk.new ((w.alloc (.cells #[.int .i64 sd, .slice A n ca, .slice B m cb, .slice V p cv] 27)).alloc (.cells #[.int .i64 sd', .slice A' n' ca', .slice B' m' cb', .slice V' p' cv'] 27)) _ _)
    rw [← hw0]
    clear hw0
    have c0 := ba.cell 0 rfl
    have c1 := ba.cell 1 rfl
    have c2 := ba.cell 2 rfl
    have c3 := ba.cell 3 rfl
    go_wp2_with fail
    refine (implValidSparse_any sd A n ca B m cb V p cv st co va _ (hr.below hx0) (hq.below hx0) (hv.below hx0)).mono ?_
    rintro e w1 ⟨rfl, hx⟩
    rw [hs]
    clear c0 c1 c2 c3
    replace ba := ba.ext hx
    replace bb := bb.ext hx
    replace b1 := b1.ext hx
    replace hx0 := hx0.trans hx
    clear hx
    have y0 := b1.cell 0 rfl
    have y1 := b1.cell 1 rfl
    have y2 := b1.cell 2 rfl
    have y3 := b1.cell 3 rfl
    have f0 := b1.free 0
    have f1 := b1.free 1
    have f2 := b1.free 2
    have f3 := b1.free 3
    have hq0 := b1.lt
    go_wp2_with fail
    have d0 := b1.set 0 (.int .i64 0)
    have d1 := d0.set 1 (.slice none 0 0)
    have d2 := d1.set 2 (.slice none 0 0)
    have d3 := d2.set 3 (.slice none 0 0)
    have x2 := ((((hx0.set (p := ⟨w.heap.size + 1 + 1, 0, none⟩) (by simp; try omega) (.int .i64 0)).set (p := ⟨w.heap.size + 1 + 1, 1, none⟩) (by simp; try omega) (.slice none 0 0)).set (p := ⟨w.heap.size + 1 + 1, 2, none⟩) (by simp; try omega) (.slice none 0 0)).set (p := ⟨w.heap.size + 1 + 1, 3, none⟩) (by simp; try omega) (.slice none 0 0))
    have r0 := d3.cell 0 rfl
    have r1 := d3.cell 1 rfl
    have r2 := d3.cell 2 rfl
    have r3 := d3.cell 3 rfl
    refine bodyPost_ret (v := .tuple #[.agg #[.int .i64 0, .slice none 0 0, .slice none 0 0, .slice none 0 0], .bool false]) (by simp only [results, Try.results60]; simp [go_sem, r0, r1, r2, r3]) rfl (RetSqB.bad hd rfl x2)
  | true =>
    cases hs' : isSp sd' st' co' va' with
    | false =>
      have hd : weiD sd sd' x y st co va st' co' va' = SD.bad := by unfold weiD; rw [hs, hs']; rfl
      go_enter Try.func60, Try.ntmps60
      go_upto_region 1 with (fail)
      obtain ⟨w0, hw0⟩ : ∃ w0, w0 = (((w.alloc (.cells #[.int .i64 sd, .slice A n ca, .slice B m cb, .slice V p cv] 27)).alloc (.cells #[.int .i64 sd', .slice A' n' ca', .slice B' m' cb', .slice V' p' cv'] 27)).alloc (.cells #[.int .i64 0, .slice none 0 0, .slice none 0 0, .slice none 0 0] 27)) := ⟨_, rfl⟩
      have hx0 : Ext w w0 := by subst hw0; exact (((Ext.refl _).alloc _).alloc _).alloc _
      have ba : Blk w0 (w.heap.size) #[.int .i64 sd, .slice A n ca, .slice B m cb, .slice V p cv] 27 := by subst hw0; exact (Blk.new w _ _).ext (((Ext.refl _).alloc _).alloc _)
      have bb : Blk w0 (w.heap.size + 1) #[.int .i64 sd', .slice A' n' ca', .slice B' m' cb', .slice V' p' cv'] 27 := by subst hw0; simpa using (Blk.new (w.alloc (.cells #[.int .i64 sd, .slice A n ca, .slice B m cb, .slice V p cv] 27)) _ _).ext ((Ext.refl _).alloc _)
      have b1 : Blk w0 (w.heap.size + 1 + 1) #[.int .i64 0, .slice none 0 0, .slice none 0 0, .slice none 0 0] 27 := by subst hw0; simpa using (Blk.new ((w.alloc (.cells #[.int .i64 sd, .slice A n ca, .slice B m cb, .slice V p cv] 27)).alloc (.cells #[.int .i64 sd', .slice A' n' ca', .slice B' m' cb', .slice V' p' cv'] 27)) _ _)
      rw [← hw0]
      clear hw0
      have c0 := ba.cell 0 rfl
      have c1 := ba.cell 1 rfl
      have c2 := ba.cell 2 rfl
      have c3 := ba.cell 3 rfl
      go_wp2_with fail
      refine (implValidSparse_any sd A n ca B m cb V p cv st co va _ (hr.below hx0) (hq.below hx0) (hv.below hx0)).mono ?_
      rintro e w1 ⟨rfl, hx⟩
      rw [hs]
      clear c0 c1 c2 c3
      replace ba := ba.ext hx
      replace bb := bb.ext hx
      replace b1 := b1.ext hx
      replace hx0 := hx0.trans hx
      clear hx
      have d0 := bb.cell 0 rfl
      have d1 := bb.cell 1 rfl
      have d2 := bb.cell 2 rfl
      have d3 := bb.cell 3 rfl
      go_wp2_with fail
      refine (implValidSparse_any sd' A' n' ca' B' m' cb' V' p' cv' st' co' va' _ (hr'.below hx0) (hq'.below hx0) (hv'.below hx0)).mono ?_
      rintro e w2 ⟨rfl, hx⟩
      rw [hs']
      clear d0 d1 d2 d3
      replace ba := ba.ext hx
      replace bb := bb.ext hx
      replace b1 := b1.ext hx
      replace hx0 := hx0.trans hx
      clear hx
      have y0 := b1.cell 0 rfl
      have y1 := b1.cell 1 rfl
      have y2 := b1.cell 2 rfl
      have y3 := b1.cell 3 rfl
      have f0 := b1.free 0
      have f1 := b1.free 1
      have f2 := b1.free 2
      have f3 := b1.free 3
      have hq0 := b1.lt
      go_wp2_with fail
      have d0 := b1.set 0 (.int .i64 0)
      have d1 := d0.set 1 (.slice none 0 0)
      have d2 := d1.set 2 (.slice none 0 0)
      have d3 := d2.set 3 (.slice none 0 0)
      have x2 := ((((hx0.set (p := ⟨w.heap.size + 1 + 1, 0, none⟩) (by simp; try omega) (.int .i64 0)).set (p := ⟨w.heap.size + 1 + 1, 1, none⟩) (by simp; try omega) (.slice none 0 0)).set (p := ⟨w.heap.size + 1 + 1, 2, none⟩) (by simp; try omega) (.slice none 0 0)).set (p := ⟨w.heap.size + 1 + 1, 3, none⟩) (by simp; try omega) (.slice none 0 0))
      have r0 := d3.cell 0 rfl
      have r1 := d3.cell 1 rfl
      have r2 := d3.cell 2 rfl
      have r3 := d3.cell 3 rfl
      refine bodyPost_ret (v := .tuple #[.agg #[.int .i64 0, .slice none 0 0, .slice none 0 0, .slice none 0 0], .bool false]) (by simp only [results, Try.results60]; simp [go_sem, r0, r1, r2, r3]) rfl (RetSqB.bad hd rfl x2)
    | true =>
      by_cases hss : sd = sd'
      rotate_left
      · have hd : weiD sd sd' x y st co va st' co' va' = SD.bad := by unfold weiD; rw [hs, hs', decide_eq_false hss]; rfl
        have hse : (sd != sd') = true := by simpa using hss
        go_enter Try.func60, Try.ntmps60
        go_upto_region 1 with (fail)
        obtain ⟨w0, hw0⟩ : ∃ w0, w0 = (((w.alloc (.cells #[.int .i64 sd, .slice A n ca, .slice B m cb, .slice V p cv] 27)).alloc (.cells #[.int .i64 sd', .slice A' n' ca', .slice B' m' cb', .slice V' p' cv'] 27)).alloc (.cells #[.int .i64 0, .slice none 0 0, .slice none 0 0, .slice none 0 0] 27)) := ⟨_, rfl⟩
        have hx0 : Ext w w0 := by subst hw0; exact (((Ext.refl _).alloc _).alloc _).alloc _
        have ba : Blk w0 (w.heap.size) #[.int .i64 sd, .slice A n ca, .slice B m cb, .slice V p cv] 27 := by subst hw0; exact (Blk.new w _ _).ext (((Ext.refl _).alloc _).alloc _)
        have bb : Blk w0 (w.heap.size + 1) #[.int .i64 sd', .slice A' n' ca', .slice B' m' cb', .slice V' p' cv'] 27 := by subst hw0; simpa using (Blk.new (w.alloc (.cells #[.int .i64 sd, .slice A n ca, .slice B m cb, .slice V p cv] 27)) _ _).ext ((Ext.refl _).alloc _)
        have b1 : Blk w0 (w.heap.size + 1 + 1) #[.int .i64 0, .slice none 0 0, .slice none 0 0, .slice none 0 0] 27 := by subst hw0; simpa using (Blk.new ((w.alloc (.cells #[.int .i64 sd, .slice A n ca, .slice B m cb, .slice V p cv] 27)).alloc (.cells #[.int .i64 sd', .slice A' n' ca', .slice B' m' cb', .slice V' p' cv'] 27)) _ _)
        rw [← hw0]
        clear hw0
        have c0 := ba.cell 0 rfl
        have c1 := ba.cell 1 rfl
        have c2 := ba.cell 2 rfl
        have c3 := ba.cell 3 rfl
        go_wp2_with fail
        refine (implValidSparse_any sd A n ca B m cb V p cv st co va _ (hr.below hx0) (hq.below hx0) (hv.below hx0)).mono ?_
        rintro e w1 ⟨rfl, hx⟩
        rw [hs]
        clear c0 c1 c2 c3
        replace ba := ba.ext hx
        replace bb := bb.ext hx
        replace b1 := b1.ext hx
        replace hx0 := hx0.trans hx
        clear hx
        have d0 := bb.cell 0 rfl
        have d1 := bb.cell 1 rfl
        have d2 := bb.cell 2 rfl
        have d3 := bb.cell 3 rfl
        go_wp2_with fail
        refine (implValidSparse_any sd' A' n' ca' B' m' cb' V' p' cv' st' co' va' _ (hr'.below hx0) (hq'.below hx0) (hv'.below hx0)).mono ?_
        rintro e w2 ⟨rfl, hx⟩
        rw [hs']
        clear d0 d1 d2 d3
        replace ba := ba.ext hx
        replace bb := bb.ext hx
        replace b1 := b1.ext hx
        replace hx0 := hx0.trans hx
        clear hx
        have c0 := ba.cell 0 rfl
        have d0 := bb.cell 0 rfl
        have y0 := b1.cell 0 rfl
        have y1 := b1.cell 1 rfl
        have y2 := b1.cell 2 rfl
        have y3 := b1.cell 3 rfl
        have f0 := b1.free 0
        have f1 := b1.free 1
        have f2 := b1.free 2
        have f3 := b1.free 3
        have hq0 := b1.lt
        go_wp2_with fail
        have d0 := b1.set 0 (.int .i64 0)
        have d1 := d0.set 1 (.slice none 0 0)
        have d2 := d1.set 2 (.slice none 0 0)
        have d3 := d2.set 3 (.slice none 0 0)
        have x2 := ((((hx0.set (p := ⟨w.heap.size + 1 + 1, 0, none⟩) (by simp; try omega) (.int .i64 0)).set (p := ⟨w.heap.size + 1 + 1, 1, none⟩) (by simp; try omega) (.slice none 0 0)).set (p := ⟨w.heap.size + 1 + 1, 2, none⟩) (by simp; try omega) (.slice none 0 0)).set (p := ⟨w.heap.size + 1 + 1, 3, none⟩) (by simp; try omega) (.slice none 0 0))
        have r0 := d3.cell 0 rfl
        have r1 := d3.cell 1 rfl
        have r2 := d3.cell 2 rfl
        have r3 := d3.cell 3 rfl
        refine bodyPost_ret (v := .tuple #[.agg #[.int .i64 0, .slice none 0 0, .slice none 0 0, .slice none 0 0], .bool false]) (by simp only [results, Try.results60]; simp [go_sem, r0, r1, r2, r3]) rfl (RetSqB.bad hd rfl x2)
      · subst hss
        have hse : (sd != sd) = false := by simp
        have hsp := isSp_iff.1 hs
        have hsp' := isSp_iff.1 hs'
        obtain ⟨N, rfl⟩ : ∃ N : Nat, sd = N := ⟨sd.toNat, by have := hsp.s1; omega⟩
        have hn1 : 1 ≤ N := by have := hsp.s1; omega
        have hn32 : N ≤ 32 := by have := hsp.s1; omega
        have HSP := Lib.hid hsp
        have HSP' := Lib.hid hsp'
        clear hsp hsp'
        cases hfin : (isFin .f32 x && isFin .f32 y) with
        | false =>
          have hd : weiD N N x y st co va st' co' va' = SD.bad := by unfold weiD; rw [hs, hs', hfin]; simp
          go_enter Try.func60, Try.ntmps60
          go_upto_region 1 with (fail)
          obtain ⟨w0, hw0⟩ : ∃ w0, w0 = (((w.alloc (.cells #[.int .i64 N, .slice A n ca, .slice B m cb, .slice V p cv] 27)).alloc (.cells #[.int .i64 N, .slice A' n' ca', .slice B' m' cb', .slice V' p' cv'] 27)).alloc (.cells #[.int .i64 0, .slice none 0 0, .slice none 0 0, .slice none 0 0] 27)) := ⟨_, rfl⟩
          have hx0 : Ext w w0 := by subst hw0; exact (((Ext.refl _).alloc _).alloc _).alloc _
          have ba : Blk w0 (w.heap.size) #[.int .i64 N, .slice A n ca, .slice B m cb, .slice V p cv] 27 := by subst hw0; exact (Blk.new w _ _).ext (((Ext.refl _).alloc _).alloc _)
          have bb : Blk w0 (w.heap.size + 1) #[.int .i64 N, .slice A' n' ca', .slice B' m' cb', .slice V' p' cv'] 27 := by subst hw0; simpa using (Blk.new (w.alloc (.cells #[.int .i64 N, .slice A n ca, .slice B m cb, .slice V p cv] 27)) _ _).ext ((Ext.refl _).alloc _)
          have b1 : Blk w0 (w.heap.size + 1 + 1) #[.int .i64 0, .slice none 0 0, .slice none 0 0, .slice none 0 0] 27 := by subst hw0; simpa using (Blk.new ((w.alloc (.cells #[.int .i64 N, .slice A n ca, .slice B m cb, .slice V p cv] 27)).alloc (.cells #[.int .i64 N, .slice A' n' ca', .slice B' m' cb', .slice V' p' cv'] 27)) _ _)
          rw [← hw0]
          clear hw0
          have c0 := ba.cell 0 rfl
          have c1 := ba.cell 1 rfl
          have c2 := ba.cell 2 rfl
          have c3 := ba.cell 3 rfl
          go_wp2_with fail
          refine (implValidSparse_any N A n ca B m cb V p cv st co va _ (hr.below hx0) (hq.below hx0) (hv.below hx0)).mono ?_
          rintro e w1 ⟨rfl, hx⟩
          rw [hs]
          clear c0 c1 c2 c3
          replace ba := ba.ext hx
          replace bb := bb.ext hx
          replace b1 := b1.ext hx
          replace hx0 := hx0.trans hx
          clear hx
          have d0 := bb.cell 0 rfl
          have d1 := bb.cell 1 rfl
          have d2 := bb.cell 2 rfl
          have d3 := bb.cell 3 rfl
          go_wp2_with fail
          refine (implValidSparse_any N A' n' ca' B' m' cb' V' p' cv' st' co' va' _ (hr'.below hx0) (hq'.below hx0) (hv'.below hx0)).mono ?_
          rintro e w2 ⟨rfl, hx⟩
          rw [hs']
          clear d0 d1 d2 d3
          replace ba := ba.ext hx
          replace bb := bb.ext hx
          replace b1 := b1.ext hx
          replace hx0 := hx0.trans hx
          clear hx
          have c0 := ba.cell 0 rfl
          have d0 := bb.cell 0 rfl
          go_wp2_with fail
          refine (areFinite_any _ 2 _ [x, y] _ (rds_twoF w2 x y)).mono ?_
          rintro e w3 ⟨rfl, hx⟩
          rw [fin_two]
          rw [hfin]
          replace hx := (Ext.refl w2).alloc _ |>.trans hx
          clear c0 d0
          replace ba := ba.ext hx
          replace bb := bb.ext hx
          replace b1 := b1.ext hx
          replace hx0 := hx0.trans hx
          clear hx
          have y0 := b1.cell 0 rfl
          have y1 := b1.cell 1 rfl
          have y2 := b1.cell 2 rfl
          have y3 := b1.cell 3 rfl
          have f0 := b1.free 0
          have f1 := b1.free 1
          have f2 := b1.free 2
          have f3 := b1.free 3
          have hq0 := b1.lt
          go_wp2_with fail
          have d0 := b1.set 0 (.int .i64 0)
          have d1 := d0.set 1 (.slice none 0 0)
          have d2 := d1.set 2 (.slice none 0 0)
          have d3 := d2.set 3 (.slice none 0 0)
          have x2 := ((((hx0.set (p := ⟨w.heap.size + 1 + 1, 0, none⟩) (by simp; try omega) (.int .i64 0)).set (p := ⟨w.heap.size + 1 + 1, 1, none⟩) (by simp; try omega) (.slice none 0 0)).set (p := ⟨w.heap.size + 1 + 1, 2, none⟩) (by simp; try omega) (.slice none 0 0)).set (p := ⟨w.heap.size + 1 + 1, 3, none⟩) (by simp; try omega) (.slice none 0 0))
          have r0 := d3.cell 0 rfl
          have r1 := d3.cell 1 rfl
          have r2 := d3.cell 2 rfl
          have r3 := d3.cell 3 rfl
          refine bodyPost_ret (v := .tuple #[.agg #[.int .i64 0, .slice none 0 0, .slice none 0 0, .slice none 0 0], .bool false]) (by simp only [results, Try.results60]; simp [go_sem, r0, r1, r2, r3]) rfl (RetSqB.bad hd rfl x2)
        | true =>
          have hd : weiD N N x y st co va st' co' va' = giveSp N (weiM x y (vw st co va m) (vw st' co' va' m')) := by unfold weiD; rw [hs, hs', hfin]; (try rw [HM.out]); (try rw [HM'.out]); simp
          obtain ⟨D, hD⟩ : ∃ D, D = weiD N N x y st co va st' co' va' := ⟨_, rfl⟩
          rw [← hD]
          rw [← hD] at hd
          have HD := Lib.hid hd
          clear hd hD
          go_enter Try.func60, Try.ntmps60
          go_upto_region 1 with (fail)
          obtain ⟨w0, hw0⟩ : ∃ w0, w0 = (((w.alloc (.cells #[.int .i64 N, .slice A n ca, .slice B m cb, .slice V p cv] 27)).alloc (.cells #[.int .i64 N, .slice A' n' ca', .slice B' m' cb', .slice V' p' cv'] 27)).alloc (.cells #[.int .i64 0, .slice none 0 0, .slice none 0 0, .slice none 0 0] 27)) := ⟨_, rfl⟩
          have hx0 : Ext w w0 := by subst hw0; exact (((Ext.refl _).alloc _).alloc _).alloc _
          have ba : Blk w0 (w.heap.size) #[.int .i64 N, .slice A n ca, .slice B m cb, .slice V p cv] 27 := by subst hw0; exact (Blk.new w _ _).ext (((Ext.refl _).alloc _).alloc _)
          have bb : Blk w0 (w.heap.size + 1) #[.int .i64 N, .slice A' n' ca', .slice B' m' cb', .slice V' p' cv'] 27 := by subst hw0; simpa using (Blk.new (w.alloc (.cells #[.int .i64 N, .slice A n ca, .slice B m cb, .slice V p cv] 27)) _ _).ext ((Ext.refl _).alloc _)
          have b1 : Blk w0 (w.heap.size + 1 + 1) #[.int .i64 0, .slice none 0 0, .slice none 0 0, .slice none 0 0] 27 := by subst hw0; simpa using (Blk.new ((w.alloc (.cells #[.int .i64 N, .slice A n ca, .slice B m cb, .slice V p cv] 27)).alloc (.cells #[.int .i64 N, .slice A' n' ca', .slice B' m' cb', .slice V' p' cv'] 27)) _ _)
          rw [← hw0]
          clear hw0
          have c0 := ba.cell 0 rfl
          have c1 := ba.cell 1 rfl
          have c2 := ba.cell 2 rfl
          have c3 := ba.cell 3 rfl
          go_wp2_with fail
          refine (implValidSparse_any N A n ca B m cb V p cv st co va _ (hr.below hx0) (hq.below hx0) (hv.below hx0)).mono ?_
          rintro e w1 ⟨rfl, hx⟩
          rw [hs]
          clear c0 c1 c2 c3
          replace ba := ba.ext hx
          replace bb := bb.ext hx
          replace b1 := b1.ext hx
          replace hx0 := hx0.trans hx
          clear hx
          have d0 := bb.cell 0 rfl
          have d1 := bb.cell 1 rfl
          have d2 := bb.cell 2 rfl
          have d3 := bb.cell 3 rfl
          go_wp2_with fail
          refine (implValidSparse_any N A' n' ca' B' m' cb' V' p' cv' st' co' va' _ (hr'.below hx0) (hq'.below hx0) (hv'.below hx0)).mono ?_
          rintro e w2 ⟨rfl, hx⟩
          rw [hs']
          clear d0 d1 d2 d3
          replace ba := ba.ext hx
          replace bb := bb.ext hx
          replace b1 := b1.ext hx
          replace hx0 := hx0.trans hx
          clear hx
          have c0 := ba.cell 0 rfl
          have d0 := bb.cell 0 rfl
          go_wp2_with fail
          refine (areFinite_any _ 2 _ [x, y] _ (rds_twoF w2 x y)).mono ?_
          rintro e w3 ⟨rfl, hx⟩
          rw [fin_two]
          rw [hfin]
          replace hx := (Ext.refl w2).alloc _ |>.trans hx
          clear c0 d0
          replace ba := ba.ext hx
          replace bb := bb.ext hx
          replace b1 := b1.ext hx
          replace hx0 := hx0.trans hx
          clear hx
          obtain ⟨M, hM⟩ : ∃ M, M = vw st co va m := ⟨_, rfl⟩
          obtain ⟨M', hM'⟩ : ∃ M', M' = vw st' co' va' m' := ⟨_, rfl⟩
          rw [← hM, ← hM'] at HD
          have HV := Lib.hid hM
          have HV' := Lib.hid hM'
          clear hM hM'
          have hmk := make_map_run
          have c0 := ba.cell 0 rfl
          have c1 := ba.cell 1 rfl
          have c2 := ba.cell 2 rfl
          have c3 := ba.cell 3 rfl
          have d0 := bb.cell 0 rfl
          have d1 := bb.cell 1 rfl
          have d2 := bb.cell 2 rfl
          have d3 := bb.cell 3 rfl
          go_wp2_with fail
          refine R3.wp_region_T (cs := []) [0, 1, 2, 3, 4, 5, 6] [7] [1, 3, 4] [] (fun i__ v => match i__ with | 1 => ∃ b, v = .map (some b) | 3 => ∃ b, v = .map (some b) | 4 => ∃ b, v = .map (some b) | _ => False) (fun i__ ψ__ v w' => match i__ with | 1 => ∀ b, v = .map (some b) → MapV w' b (N * N) N M ∧ w3.heap.size ≤ b | 3 => ∀ b, v = .map (some b) → MapV w' b (N * N) N M' ∧ w3.heap.size ≤ b | 4 => ∀ b, v = .map (some b) → MapV w' b (N * N) N (w1S x y M M' (fun i j => (M i j).isSome)) ∧ w3.heap.size ≤ b | _ => True) (fun k u i v => (k = 1 ∨ k = 3 ∨ k = 4) → ∀ b b', u = .map (some b) → v = .map (some b') → b ≠ b') (by kernel_rfl) (by kernel_rfl) (by intro i ψ__ v w' w2 h hx; revert h; (try dsimp only); split <;> intro h <;> first | trivial | exact (fun b e => ⟨(h b e).1.ext hx, (h b e).2⟩)) ?_
          refine' R3.wpT_det (o := ⟨some 40, Op.load 27 (Operand.tmp 4), 27, "l05_sparse.go:157", #[], none⟩) rfl (by rfl) (by rfl) (fun w' hw' => ?_) ?_; rotate_left
          · have c0_ := Ext.cell hw' c0; have c1_ := Ext.cell hw' c1; have c2_ := Ext.cell hw' c2; have c3_ := Ext.cell hw' c3; have d0_ := Ext.cell hw' d0; have d1_ := Ext.cell hw' d1; have d2_ := Ext.cell hw' d2; have d3_ := Ext.cell hw' d3; go_simp <;> first | rfl | exact ⟨rfl, rfl⟩
          simp only [Act.put, List.setIfInBounds_toArray, List.set_cons_zero, List.set_cons_succ]
          refine R3.wpT_nd (o := ⟨some 41, Op.call { callee := Callee.value (Operand.func 89), args := #[Operand.tmp 40], argTypes := #[27] }, 92, "l05_sparse.go:157", #[{ on := 0, ground := Ground.data }], none⟩) rfl (by rfl) (by rfl) (fun w' hw' hF R__ hGo => ?_) ⟨_, 0, rfl⟩ ?_
          · go_simp
            refine R3.gives_enter rfl ?_
            refine (numbers_any N A n ca B m cb V p cv st co va HSP.out _ (hr.below (hx0.trans hw'.undrew)) (hq.below (hx0.trans hw'.undrew)) (hv.below (hx0.trans hw'.undrew))).mono ?_
            rw [← HV.out]
            rintro e w2 ⟨bn, rfl, k1, k2, hx⟩
            exact ⟨_, rfl, hGo _ _ hx ⟨_, rfl⟩ (fun b e => by obtain rfl : bn = b := (by simpa using e);  exact ⟨k1, Nat.le_trans hw'.size k2⟩) (fun kk ψ u hk1 hk2 h hk3 b b' e1 e2 => by (obtain rfl : _ = b' := (by simpa using e2)); rcases hk3 with rfl | rfl | rfl <;> (try exact absurd rfl hk1) <;> (have hh := (h b e1).1.lt; omega))⟩
          rintro _ ⟨b2, rfl⟩
          simp only [Act.put, List.setIfInBounds_toArray, List.set_cons_zero, List.set_cons_succ]
          refine' R3.wpT_det (o := ⟨some 42, Op.load 27 (Operand.tmp 5), 27, "l05_sparse.go:157", #[], none⟩) rfl (by rfl) (by rfl) (fun w' hw' => ?_) ?_; rotate_left
          · have c0_ := Ext.cell hw' c0; have c1_ := Ext.cell hw' c1; have c2_ := Ext.cell hw' c2; have c3_ := Ext.cell hw' c3; have d0_ := Ext.cell hw' d0; have d1_ := Ext.cell hw' d1; have d2_ := Ext.cell hw' d2; have d3_ := Ext.cell hw' d3; go_simp <;> first | rfl | exact ⟨rfl, rfl⟩
          simp only [Act.put, List.setIfInBounds_toArray, List.set_cons_zero, List.set_cons_succ]
          refine R3.wpT_nd (o := ⟨some 43, Op.call { callee := Callee.value (Operand.func 89), args := #[Operand.tmp 42], argTypes := #[27] }, 92, "l05_sparse.go:157", #[{ on := 2, ground := Ground.data }, { on := 1, ground := Ground.chain }], none⟩) rfl (by rfl) (by rfl) (fun w' hw' hF R__ hGo => ?_) ⟨_, 0, rfl⟩ ?_
          · go_simp
            refine R3.gives_enter rfl ?_
            refine (numbers_any N A' n' ca' B' m' cb' V' p' cv' st' co' va' HSP'.out _ (hr'.below (hx0.trans hw'.undrew)) (hq'.below (hx0.trans hw'.undrew)) (hv'.below (hx0.trans hw'.undrew))).mono ?_
            rw [← HV'.out]
            rintro e w2 ⟨bn, rfl, k1, k2, hx⟩
            exact ⟨_, rfl, hGo _ _ hx ⟨_, rfl⟩ (fun b e => by obtain rfl : bn = b := (by simpa using e);  exact ⟨k1, Nat.le_trans hw'.size k2⟩) (fun kk ψ u hk1 hk2 h hk3 b b' e1 e2 => by (obtain rfl : _ = b' := (by simpa using e2)); rcases hk3 with rfl | rfl | rfl <;> (try exact absurd rfl hk1) <;> (have hh := (h b e1).1.lt; omega))⟩
          rintro _ ⟨b3, rfl⟩
          simp only [Act.put, List.setIfInBounds_toArray, List.set_cons_zero, List.set_cons_succ]
          refine R3.wpT_nd (o := ⟨some 44, Op.makeMap 92 none, 92, "l05_sparse.go:157", #[], none⟩) rfl (by rfl) (by rfl) (fun w' hw' hF R__ hGo => ?_) ⟨_, 0, rfl⟩ ?_
          · go_simp; exact R3.gives_value rfl (hGo _ _ ((Ext.refl _).alloc _) ⟨_, rfl⟩ (fun b e => by obtain rfl : w'.heap.size = b := (by simpa using e);  exact ⟨(MapV.empty w' N).tight.congr (w1S_zero x y M M'), hw'.size⟩) (fun kk ψ u hk1 hk2 h hk3 b b' e1 e2 => by (obtain rfl : _ = b' := (by simpa using e2)); rcases hk3 with rfl | rfl | rfl <;> (try exact absurd rfl hk1) <;> (have hh := (h b e1).1.lt; omega)))
          rintro _ ⟨b4, rfl⟩
          simp only [Act.put, List.setIfInBounds_toArray, List.set_cons_zero, List.set_cons_succ]
          refine' R3.wpT_det (o := ⟨some 10, Op.assign (Operand.tmp 41), 92, "l05_sparse.go:157", #[{ on := 1, ground := Ground.data }, { on := 3, ground := Ground.chain }, { on := 0, ground := Ground.phase }, { on := 1, ground := Ground.phase }, { on := 2, ground := Ground.textOnly Departure.lateStores }, { on := 3, ground := Ground.textOnly Departure.lateStoresUnsure }, { on := 4, ground := Ground.textOnly Departure.lateStoresUnsure }], none⟩) rfl (by rfl) (by rfl) (fun w' hw' => ?_) ?_; rotate_left
          · go_simp <;> first | rfl | exact ⟨rfl, rfl⟩
          simp only [Act.put, List.setIfInBounds_toArray, List.set_cons_zero, List.set_cons_succ]
          refine' R3.wpT_det (o := ⟨some 11, Op.assign (Operand.tmp 43), 92, "l05_sparse.go:157", #[{ on := 3, ground := Ground.data }, { on := 5, ground := Ground.chain }, { on := 0, ground := Ground.phase }, { on := 1, ground := Ground.phase }, { on := 2, ground := Ground.phase }, { on := 3, ground := Ground.phase }, { on := 4, ground := Ground.textOnly Departure.lateStoresUnsure }, { on := 5, ground := Ground.phase }], none⟩) rfl (by rfl) (by rfl) (fun w' hw' => ?_) ?_; rotate_left
          · go_simp <;> first | rfl | exact ⟨rfl, rfl⟩
          simp only [Act.put, List.setIfInBounds_toArray, List.set_cons_zero, List.set_cons_succ]
          refine R3.wpT_nil (fun w5 hw' hF hRho => ?_)
          show wpList _ _ _ [(⟨some 12, Op.assign (Operand.tmp 44), 92, "l05_sparse.go:157", #[{ on := 4, ground := Ground.data }, { on := 6, ground := Ground.chain }, { on := 0, ground := Ground.phase }, { on := 1, ground := Ground.phase }, { on := 2, ground := Ground.phase }, { on := 3, ground := Ground.phase }, { on := 4, ground := Ground.phase }, { on := 5, ground := Ground.phase }, { on := 6, ground := Ground.phase }], none⟩ : Oper)] _ _
          have f1 := (hF 1 _ rfl : ∀ b, (Value.map (some b2)) = .map (some b) → MapV w5 b (N * N) N M ∧ w3.heap.size ≤ b) b2 rfl
          have f3 := (hF 3 _ rfl : ∀ b, (Value.map (some b3)) = .map (some b) → MapV w5 b (N * N) N M' ∧ w3.heap.size ≤ b) b3 rfl
          have f4 := (hF 4 _ rfl : ∀ b, (Value.map (some b4)) = .map (some b) → MapV w5 b (N * N) N (w1S x y M M' (fun i j => (M i j).isSome)) ∧ w3.heap.size ≤ b) b4 rfl
          have n24 : b2 ≠ b4 := by
            rcases hRho 1 _ _ 4 _ _ (by decide) rfl rfl with h | h
            · exact h (.inl rfl) b2 b4 rfl rfl
            · exact Ne.symm (h (.inr (.inr rfl)) b4 b2 rfl rfl)
          have n34 : b3 ≠ b4 := by
            rcases hRho 3 _ _ 4 _ _ (by decide) rfl rfl with h | h
            · exact h (.inr (.inl rfl)) b3 b4 rfl rfl
            · exact Ne.symm (h (.inr (.inr rfl)) b4 b3 rfl rfl)
          obtain ⟨hm2, _⟩ := f1
          obtain ⟨hm3, _⟩ := f3
          obtain ⟨hm4, hb4⟩ := f4
          have hx5 := hw'.undrew
          clear hF hw' hRho hmk c0 c1 c2 c3 d0 d1 d2 d3 HSP HSP'
          have l4 := hm4.lt
          have l3 := hm3.lt
          have l2 := hm2.lt
          go_wp2_with (at_range; refine wpList_range_V rfl _ rfl b2 N (N * N) _ rfl hm2 ?_; intro w6 cnt hR hcnt hx4 hs4)
          go_frame
          replace hm3 := hm3.ext hx4
          replace hm4 := hm4.ext hx4
          replace hx5 := hx5.trans hx4
          clear hm2 hx4 hs4 hcnt
          go_loopw [] (fun wr => ∃ (S : Nat → Nat → Bool) (cnt : Nat), RangeV wr b2 w5.heap.size (N * N) N M S cnt ∧ MapV wr b3 (N * N) N M' ∧ MapV wr b4 (N * N) N (w1S x y M M' S) ∧ Ext w3 wr) (fun wr => wr.rangeLeft b2 w5.heap.size)
          case atStart => exact ⟨_, cnt, hR, hm3, hm4, hx5⟩
          case round =>
            rename World => wA
            clear hR hm3 hm4 hx5
            obtain ⟨S, cnt, hR, hm3, hm4, hx5⟩ := hrel
            go_wp2_with (at_next; refine wpList_next_V rfl _ rfl b2 w5.heap.size (N * N) N _ S cnt hn32 rfl hR ?_ ?_)
            · intro hc0 hS
              have lA := hm4.lt
              have lA3 := hm3.lt
              replace hm4 := hm4.congr (w1S_end hS)
              have hm2 := hR.map
              have lA2 := hm2.lt
              clear hR hS
              go_wp2_with (at_range; refine wpList_range_V rfl _ rfl b3 N (N * N) _ rfl hm3 ?_; intro w7 cnt2 hR hcnt hx4 hs4)
              go_frame
              replace hm4 := hm4.ext hx4
              replace hx5 := hx5.trans hx4
              replace hm2 := hm2.ext hx4
              clear hx4 hs4 hcnt hm3
              obtain ⟨r2, hr2⟩ : ∃ r2, r2 = wA.heap.size := ⟨_, rfl⟩
              rw [← hr2] at hR lA lA3 lA2 ⊢
              clear hr2
              go_loopw [] (fun wr => ∃ (S : Nat → Nat → Bool) (cnt : Nat), RangeV wr b3 r2 (N * N) N M' S cnt ∧ MapV wr b2 (N * N) N M ∧ MapV wr b4 (N * N) N (w2S x y M M' S) ∧ Ext w3 wr) (fun wr => wr.rangeLeft b3 r2)
              case atStart => exact ⟨_, cnt2, hR, hm2, hm4, hx5⟩
              case round =>
                rename World => wB
                clear hR hm2 hm4 hx5
                obtain ⟨S, cnt, hR, hm2, hm4, hx5⟩ := hrel
                go_wp2_with (at_next; refine wpList_next_V rfl _ rfl b3 r2 (N * N) N _ S cnt hn32 rfl hR ?_ ?_)
                · intro hc0 hS
                  replace hm4 := hm4.congr (w2S_end hS)
                  clear hR hS hm2
                  replace ba := ba.ext hx5
                  replace bb := bb.ext hx5
                  replace b1 := b1.ext hx5
                  replace hx0 := hx0.trans hx5
                  clear hx5
                  have c0 := ba.cell 0 rfl
                  go_wp2_with fail
                  refine (told_any b4 (N * N) N _ hn1 hn32 _ hm4).mono ?_
                  rw [← HD.out]
                  rintro e w8 ⟨A'', kA, B'', kB, V'', kV, rfl, p1, p2, p3, n12, n13, n23, hx⟩
                  clear c0 hm4 ba bb
                  replace p1 := p1.base hx0.size
                  replace p2 := p2.base hx0.size
                  replace p3 := p3.base hx0.size
                  replace b1 := b1.ext hx
                  replace hx0 := hx0.trans hx
                  clear hx
                  have y0 := b1.cell 0 rfl
                  have y1 := b1.cell 1 rfl
                  have y2 := b1.cell 2 rfl
                  have y3 := b1.cell 3 rfl
                  have f0 := b1.free 0
                  have f1 := b1.free 1
                  have f2 := b1.free 2
                  have f3 := b1.free 3
                  have hq0 := b1.lt
                  go_wp2_with fail
                  have d0 := b1.set 0 (.int .i64 D.sd)
                  have d1 := d0.set 1 (.slice A'' D.st.length kA)
                  have d2 := d1.set 2 (.slice B'' D.co.length kB)
                  have d3 := d2.set 3 (.slice V'' D.va.length kV)
                  have q1 := ((((p1.setBlk b1 (by decide) 0 (.int .i64 D.sd)).setBlk d0 (by decide) 1 (.slice A'' D.st.length kA)).setBlk d1 (by decide) 2 (.slice B'' D.co.length kB)).setBlk d2 (by decide) 3 (.slice V'' D.va.length kV))
                  have q2 := ((((p2.setBlk b1 (by decide) 0 (.int .i64 D.sd)).setBlk d0 (by decide) 1 (.slice A'' D.st.length kA)).setBlk d1 (by decide) 2 (.slice B'' D.co.length kB)).setBlk d2 (by decide) 3 (.slice V'' D.va.length kV))
                  have q3 := ((((p3.setBlk b1 (by decide) 0 (.int .i64 D.sd)).setBlk d0 (by decide) 1 (.slice A'' D.st.length kA)).setBlk d1 (by decide) 2 (.slice B'' D.co.length kB)).setBlk d2 (by decide) 3 (.slice V'' D.va.length kV))
                  have x2 := ((((hx0.set (p := ⟨w.heap.size + 1 + 1, 0, none⟩) (by simp; try omega) (.int .i64 D.sd)).set (p := ⟨w.heap.size + 1 + 1, 1, none⟩) (by simp; try omega) (.slice A'' D.st.length kA)).set (p := ⟨w.heap.size + 1 + 1, 2, none⟩) (by simp; try omega) (.slice B'' D.co.length kB)).set (p := ⟨w.heap.size + 1 + 1, 3, none⟩) (by simp; try omega) (.slice V'' D.va.length kV))
                  have r0 := d3.cell 0 rfl
                  have r1 := d3.cell 1 rfl
                  have r2 := d3.cell 2 rfl
                  have r3 := d3.cell 3 rfl
                  refine bodyPost_ret (v := .tuple #[.agg #[.int .i64 D.sd, .slice A'' D.st.length kA, .slice B'' D.co.length kB, .slice V'' D.va.length kV], .bool D.ok]) (by simp only [results, Try.results60]; simp [go_sem, r0, r1, r2, r3]) rfl ?_
                  exact ⟨A'', kA, B'', kB, V'', kV, rfl, q1, q2, q3, n12, n13, n23, x2⟩
                · intro i j xv w7 cnt' hi hj hSij hMij hR' hlt hgr hsz hen
                  have HLE := Lib.hid hR.left_eq
                  have HMX := Lib.hid hMij
                  have hx6 := MapV.ge hgr hx5 (by omega)
                  replace hm2 := hm2.kept hgr (by simp; omega)
                  replace hm4 := hm4.kept hgr (by simp; omega)
                  have xg : Ext w7 (w7.alloc (.cells #[.int .i64 i, .int .i64 j] 95)) := (Ext.refl _).alloc _
                  have bp := Blk.new w7 #[.int .i64 i, .int .i64 j] 95
                  replace hm2 := hm2.ext xg
                  replace hm4 := hm4.ext xg
                  replace hR' := hR'.ext xg
                  replace hx6 := hx6.trans xg
                  clear hR hx5 hMij hgr hsz
                  go_upto_region 11 with (fail)
                  obtain ⟨w8, hw8⟩ : ∃ v : World, v = w7.alloc (.cells #[.int .i64 i, .int .i64 j] 95) := ⟨_, rfl⟩
                  obtain ⟨pb, hpb⟩ : ∃ pb, pb = w7.heap.size := ⟨_, rfl⟩
                  rw [← hw8, ← hpb] at bp
                  rw [← hw8] at hm2 hm4 hR' hx6
                  rw [← hw8, ← hpb]
                  clear hw8 hpb xg hen
                  have p0 := bp.cell 0 rfl
                  have p1 := bp.cell 1 rfl
                  refine wp_region_T (cs := []) [0, 1, 2, 3, 4, 5, 6, 7, 8, 9, 10] [11] [5, 6, 9, 10] [] (fun i__ v => match i__ with | 5 => ∃ r, v = .float .f32 r ∧ c32 r = (M i j).getD (some 0) | 6 => ∃ r, v = .float .f32 r ∧ c32 r = (fmul (c32 x) ((M i j).getD (some 0))) | 9 => ∃ r, v = .float .f32 r ∧ c32 r = (fmul (c32 y) ((M' i j).getD (some 0))) | 10 => ∃ r, v = .float .f32 r ∧ c32 r = (wv x y M M' i j) | _ => False) (fun _ _ _ => True) (by kernel_rfl) (by kernel_rfl) (fun _ _ _ _ _ _ => trivial) ?_
                  refine' wpT_det (o := ⟨some 70, Op.move (Operand.tmp 12), 92, "l05_sparse.go:162", #[], none⟩) rfl (by rfl) (by rfl) (fun w' hw' => ?_) ?_; rotate_left
                  · go_simp <;> first | rfl | exact ⟨rfl, rfl⟩
                  simp only [Act.put, List.setIfInBounds_toArray, List.set_cons_zero, List.set_cons_succ]
                  refine' wpT_det (o := ⟨some 71, Op.load 95 (Operand.tmp 15), 95, "l05_sparse.go:162", #[], none⟩) rfl (by rfl) (by rfl) (fun w' hw' => ?_) ?_; rotate_left
                  · have p0_ := Ext.cell hw' p0; have p1_ := Ext.cell hw' p1; go_simp <;> first | rfl | exact ⟨rfl, rfl⟩
                  simp only [Act.put, List.setIfInBounds_toArray, List.set_cons_zero, List.set_cons_succ]
                  refine' wpT_det (o := ⟨some 72, Op.move (Operand.tmp 2), 43, "l05_sparse.go:162", #[], none⟩) rfl (by rfl) (by rfl) (fun w' hw' => ?_) ?_; rotate_left
                  · go_simp <;> first | rfl | exact ⟨rfl, rfl⟩
                  simp only [Act.put, List.setIfInBounds_toArray, List.set_cons_zero, List.set_cons_succ]
                  refine' wpT_det (o := ⟨some 73, Op.move (Operand.tmp 10), 92, "l05_sparse.go:162", #[], none⟩) rfl (by rfl) (by rfl) (fun w' hw' => ?_) ?_; rotate_left
                  · go_simp <;> first | rfl | exact ⟨rfl, rfl⟩
                  simp only [Act.put, List.setIfInBounds_toArray, List.set_cons_zero, List.set_cons_succ]
                  refine' wpT_det (o := ⟨some 74, Op.load 95 (Operand.tmp 15), 95, "l05_sparse.go:162", #[], none⟩) rfl (by rfl) (by rfl) (fun w' hw' => ?_) ?_; rotate_left
                  · have p0_ := Ext.cell hw' p0; have p1_ := Ext.cell hw' p1; go_simp <;> first | rfl | exact ⟨rfl, rfl⟩
                  simp only [Act.put, List.setIfInBounds_toArray, List.set_cons_zero, List.set_cons_succ]
                  refine wpT_nd (o := ⟨some 75, Op.lookup 92 (Operand.tmp 73) (Operand.tmp 74) false, 43, "l05_sparse.go:162", #[{ on := 3, ground := Ground.data }, { on := 4, ground := Ground.data }], none⟩) rfl (by rfl) (by rfl) (fun w' hw' hF R__ hGo => ?_) (by obtain ⟨r, hr, hc⟩ := hm2.look1 hn32 hi hj; exact ⟨_, r, rfl, hc⟩) ?_
                  · obtain ⟨r, hr, hc⟩ := (hm2.ext hw'.undrew).look1 hn32 hi hj; simp only [placeV] at hr; go_simp; exact gives_value rfl (hGo _ _ (Ext.refl _) ⟨_, rfl, hc⟩ trivial)
                  rintro _ ⟨f5, rfl, hf5⟩
                  simp only [Act.put, List.setIfInBounds_toArray, List.set_cons_zero, List.set_cons_succ]
                  refine wpT_nd (o := ⟨some 76, Op.call { callee := Callee.value (Operand.func 121), args := #[Operand.tmp 72, Operand.tmp 75], argTypes := #[43, 43] }, 43, "l05_sparse.go:162", #[{ on := 2, ground := Ground.data }, { on := 5, ground := Ground.data }], none⟩) rfl (by rfl) (by rfl) (fun w' hw' hF R__ hGo => ?_) (by obtain ⟨r, hr⟩ : ∃ r, c32 r = (fmul (c32 x) ((M i j).getD (some 0))) := ex_fop _ _ _; exact ⟨_, r, rfl, hr⟩) ?_
                  · go_simp
                    refine gives_enter rfl ?_
                    refine (mul_any x f5 _).mono ?_
                    rintro e w2 ⟨r, rfl, hr, hx⟩
                    exact ⟨_, rfl, hGo _ _ hx ⟨r, rfl, (hr.trans (by rw [hf5]))⟩ trivial⟩
                  rintro _ ⟨f6, rfl, hf6⟩
                  simp only [Act.put, List.setIfInBounds_toArray, List.set_cons_zero, List.set_cons_succ]
                  refine' wpT_det (o := ⟨some 77, Op.move (Operand.tmp 3), 43, "l05_sparse.go:162", #[], none⟩) rfl (by rfl) (by rfl) (fun w' hw' => ?_) ?_; rotate_left
                  · go_simp <;> first | rfl | exact ⟨rfl, rfl⟩
                  simp only [Act.put, List.setIfInBounds_toArray, List.set_cons_zero, List.set_cons_succ]
                  refine' wpT_det (o := ⟨some 78, Op.move (Operand.tmp 16), 43, "l05_sparse.go:162", #[], none⟩) rfl (by rfl) (by rfl) (fun w' hw' => ?_) ?_; rotate_left
                  · go_simp <;> first | rfl | exact ⟨rfl, rfl⟩
                  simp only [Act.put, List.setIfInBounds_toArray, List.set_cons_zero, List.set_cons_succ]
                  refine wpT_nd (o := ⟨some 79, Op.call { callee := Callee.value (Operand.func 121), args := #[Operand.tmp 77, Operand.tmp 78], argTypes := #[43, 43] }, 43, "l05_sparse.go:162", #[{ on := 7, ground := Ground.data }, { on := 8, ground := Ground.data }, { on := 6, ground := Ground.chain }], none⟩) rfl (by rfl) (by rfl) (fun w' hw' hF R__ hGo => ?_) (by obtain ⟨r, hr⟩ : ∃ r, c32 r = (fmul (c32 y) ((M' i j).getD (some 0))) := ex_fop _ _ _; exact ⟨_, r, rfl, hr⟩) ?_
                  · go_simp
                    refine gives_enter rfl ?_
                    refine (mul_any y xv _).mono ?_
                    rintro e w2 ⟨r, rfl, hr, hx⟩
                    exact ⟨_, rfl, hGo _ _ hx ⟨r, rfl, (hr.trans (by rw [HMX.out]; rfl))⟩ trivial⟩
                  rintro _ ⟨f9, rfl, hf9⟩
                  simp only [Act.put, List.setIfInBounds_toArray, List.set_cons_zero, List.set_cons_succ]
                  refine wpT_nd (o := ⟨some 80, Op.binOp BinOp.add 43 (Operand.tmp 76) (Operand.tmp 79) 43, 43, "l05_sparse.go:162", #[{ on := 6, ground := Ground.data }, { on := 9, ground := Ground.data }], none⟩) rfl (by rfl) (by rfl) (fun w' hw' hF R__ hGo => ?_) (by obtain ⟨r, hr⟩ := ex_d .add ((by rw [hf6, hf9]; rfl) : fop .add .f32 (c32 (f6)) (c32 (f9)) = (wv x y M M' i j)); exact ⟨_, r, rfl, hr⟩) ?_
                  · exact gives_f .add (.inl rfl) _ _ _ _ rfl (f6) (f9) rfl rfl (wv x y M M' i j) (by rw [hf6, hf9]; rfl) (fun r w2 hx hc => hGo _ _ hx ⟨r, rfl, hc⟩ trivial)
                  rintro _ ⟨f10, rfl, hf10⟩
                  simp only [Act.put, List.setIfInBounds_toArray, List.set_cons_zero, List.set_cons_succ]
                  refine wpT_nil (fun w9 hw' hF => ?_)
                  show wpList _ _ _ [(⟨none, Op.mapUpdate 92 (Operand.tmp 70) (Operand.tmp 71) (Operand.tmp 80), 0, "l05_sparse.go:162", #[{ on := 0, ground := Ground.data }, { on := 1, ground := Ground.data }, { on := 10, ground := Ground.data }, { on := 9, ground := Ground.chain }, { on := 0, ground := Ground.phase }, { on := 1, ground := Ground.phase }, { on := 2, ground := Ground.phase }, { on := 3, ground := Ground.phase }, { on := 4, ground := Ground.phase }, { on := 5, ground := Ground.phase }, { on := 6, ground := Ground.phase }, { on := 7, ground := Ground.phase }, { on := 8, ground := Ground.phase }, { on := 9, ground := Ground.phase }, { on := 10, ground := Ground.phase }], none⟩ : Oper)] _ _
                  have hx := hw'.undrew
                  clear hF hw' p0 p1 bp
                  obtain ⟨w10, hrun, hm5, hg⟩ := (hm4.ext hx).update hn32 hi hj f10
                  simp only [placeV] at hrun
                  have hR2 := (hR'.ext hx).kept hg (by simp; omega) (by simp; omega)
                  have hm2' := (hm2.ext hx).kept hg (by simp; omega)
                  have hx10 := MapV.ge hg (hx6.trans hx) hb4
                  rw [hf10] at hm5
                  replace hm5 := hm5.congr (w2S_step (by rw [HMX.out]; rfl))
                  clear hx hm2 hm4 hR' hx6
                  go_wp2_with fail
                  go_roundw
                  case rel => exact ⟨_, _, hR2, hm2', hm5, hx10⟩
                  case measure => rw [hR2.left_eq, HLE.out]; exact hlt
            · intro i j xv w7 cnt' hi hj hSij hMij hR' hlt hgr hsz hen
              have HLE := Lib.hid hR.left_eq
              have HMX := Lib.hid hMij
              have HSM := hR.map
              have hx6 := MapV.ge hgr hx5 (by omega)
              replace hm3 := hm3.kept hgr (by simp; omega)
              replace hm4 := hm4.kept hgr (by simp; omega)
              have xg : Ext w7 (w7.alloc (.cells #[.int .i64 i, .int .i64 j] 95)) := (Ext.refl _).alloc _
              have bp := Blk.new w7 #[.int .i64 i, .int .i64 j] 95
              replace hm3 := hm3.ext xg
              replace hm4 := hm4.ext xg
              replace hR' := hR'.ext xg
              replace hx6 := hx6.trans xg
              clear hR hx5 hMij HSM hgr hsz
              go_upto_region 7 with (fail)
              obtain ⟨w8, hw8⟩ : ∃ v : World, v = w7.alloc (.cells #[.int .i64 i, .int .i64 j] 95) := ⟨_, rfl⟩
              obtain ⟨pb, hpb⟩ : ∃ pb, pb = w7.heap.size := ⟨_, rfl⟩
              rw [← hw8, ← hpb] at bp
              rw [← hw8] at hm3 hm4 hR' hx6
              rw [← hw8, ← hpb]
              clear hw8 hpb xg hen
              have p0 := bp.cell 0 rfl
              have p1 := bp.cell 1 rfl
              refine wp_region_T (cs := []) [0, 1, 2, 3, 4, 5, 6, 7, 8, 9, 10] [11] [4, 8, 9, 10] [] (fun i__ v => match i__ with | 4 => ∃ r, v = .float .f32 r ∧ c32 r = (fmul (c32 x) ((M i j).getD (some 0))) | 8 => ∃ r, v = .float .f32 r ∧ c32 r = (M' i j).getD (some 0) | 9 => ∃ r, v = .float .f32 r ∧ c32 r = (fmul (c32 y) ((M' i j).getD (some 0))) | 10 => ∃ r, v = .float .f32 r ∧ c32 r = (wv x y M M' i j) | _ => False) (fun _ _ _ => True) (by kernel_rfl) (by kernel_rfl) (fun _ _ _ _ _ _ => trivial) ?_
              refine' wpT_det (o := ⟨some 52, Op.move (Operand.tmp 12), 92, "l05_sparse.go:159", #[], none⟩) rfl (by rfl) (by rfl) (fun w' hw' => ?_) ?_; rotate_left
              · go_simp <;> first | rfl | exact ⟨rfl, rfl⟩
              simp only [Act.put, List.setIfInBounds_toArray, List.set_cons_zero, List.set_cons_succ]
              refine' wpT_det (o := ⟨some 53, Op.load 95 (Operand.tmp 13), 95, "l05_sparse.go:159", #[], none⟩) rfl (by rfl) (by rfl) (fun w' hw' => ?_) ?_; rotate_left
              · have p0_ := Ext.cell hw' p0; have p1_ := Ext.cell hw' p1; go_simp <;> first | rfl | exact ⟨rfl, rfl⟩
              simp only [Act.put, List.setIfInBounds_toArray, List.set_cons_zero, List.set_cons_succ]
              refine' wpT_det (o := ⟨some 54, Op.move (Operand.tmp 2), 43, "l05_sparse.go:159", #[], none⟩) rfl (by rfl) (by rfl) (fun w' hw' => ?_) ?_; rotate_left
              · go_simp <;> first | rfl | exact ⟨rfl, rfl⟩
              simp only [Act.put, List.setIfInBounds_toArray, List.set_cons_zero, List.set_cons_succ]
              refine' wpT_det (o := ⟨some 55, Op.move (Operand.tmp 14), 43, "l05_sparse.go:159", #[], none⟩) rfl (by rfl) (by rfl) (fun w' hw' => ?_) ?_; rotate_left
              · go_simp <;> first | rfl | exact ⟨rfl, rfl⟩
              simp only [Act.put, List.setIfInBounds_toArray, List.set_cons_zero, List.set_cons_succ]
              refine wpT_nd (o := ⟨some 56, Op.call { callee := Callee.value (Operand.func 121), args := #[Operand.tmp 54, Operand.tmp 55], argTypes := #[43, 43] }, 43, "l05_sparse.go:159", #[{ on := 2, ground := Ground.data }, { on := 3, ground := Ground.data }], none⟩) rfl (by rfl) (by rfl) (fun w' hw' hF R__ hGo => ?_) (by obtain ⟨r, hr⟩ : ∃ r, c32 r = (fmul (c32 x) ((M i j).getD (some 0))) := ex_fop _ _ _; exact ⟨_, r, rfl, hr⟩) ?_
              · go_simp
                refine gives_enter rfl ?_
                refine (mul_any x xv _).mono ?_
                rintro e w2 ⟨r, rfl, hr, hx⟩
                exact ⟨_, rfl, hGo _ _ hx ⟨r, rfl, (hr.trans (by rw [HMX.out]; rfl))⟩ trivial⟩
              rintro _ ⟨f4, rfl, hf4⟩
              simp only [Act.put, List.setIfInBounds_toArray, List.set_cons_zero, List.set_cons_succ]
              refine' wpT_det (o := ⟨some 57, Op.move (Operand.tmp 3), 43, "l05_sparse.go:159", #[], none⟩) rfl (by rfl) (by rfl) (fun w' hw' => ?_) ?_; rotate_left
              · go_simp <;> first | rfl | exact ⟨rfl, rfl⟩
              simp only [Act.put, List.setIfInBounds_toArray, List.set_cons_zero, List.set_cons_succ]
              refine' wpT_det (o := ⟨some 58, Op.move (Operand.tmp 11), 92, "l05_sparse.go:159", #[], none⟩) rfl (by rfl) (by rfl) (fun w' hw' => ?_) ?_; rotate_left
              · go_simp <;> first | rfl | exact ⟨rfl, rfl⟩
              simp only [Act.put, List.setIfInBounds_toArray, List.set_cons_zero, List.set_cons_succ]
              refine' wpT_det (o := ⟨some 59, Op.load 95 (Operand.tmp 13), 95, "l05_sparse.go:159", #[], none⟩) rfl (by rfl) (by rfl) (fun w' hw' => ?_) ?_; rotate_left
              · have p0_ := Ext.cell hw' p0; have p1_ := Ext.cell hw' p1; go_simp <;> first | rfl | exact ⟨rfl, rfl⟩
              simp only [Act.put, List.setIfInBounds_toArray, List.set_cons_zero, List.set_cons_succ]
              refine wpT_nd (o := ⟨some 60, Op.lookup 92 (Operand.tmp 58) (Operand.tmp 59) false, 43, "l05_sparse.go:159", #[{ on := 6, ground := Ground.data }, { on := 7, ground := Ground.data }], none⟩) rfl (by rfl) (by rfl) (fun w' hw' hF R__ hGo => ?_) (by obtain ⟨r, hr, hc⟩ := hm3.look1 hn32 hi hj; exact ⟨_, r, rfl, hc⟩) ?_
              · obtain ⟨r, hr, hc⟩ := (hm3.ext hw'.undrew).look1 hn32 hi hj; simp only [placeV] at hr; go_simp; exact gives_value rfl (hGo _ _ (Ext.refl _) ⟨_, rfl, hc⟩ trivial)
              rintro _ ⟨f8, rfl, hf8⟩
              simp only [Act.put, List.setIfInBounds_toArray, List.set_cons_zero, List.set_cons_succ]
              refine wpT_nd (o := ⟨some 61, Op.call { callee := Callee.value (Operand.func 121), args := #[Operand.tmp 57, Operand.tmp 60], argTypes := #[43, 43] }, 43, "l05_sparse.go:159", #[{ on := 5, ground := Ground.data }, { on := 8, ground := Ground.data }, { on := 4, ground := Ground.chain }], none⟩) rfl (by rfl) (by rfl) (fun w' hw' hF R__ hGo => ?_) (by obtain ⟨r, hr⟩ : ∃ r, c32 r = (fmul (c32 y) ((M' i j).getD (some 0))) := ex_fop _ _ _; exact ⟨_, r, rfl, hr⟩) ?_
              · go_simp
                refine gives_enter rfl ?_
                refine (mul_any y f8 _).mono ?_
                rintro e w2 ⟨r, rfl, hr, hx⟩
                exact ⟨_, rfl, hGo _ _ hx ⟨r, rfl, (hr.trans (by rw [hf8]))⟩ trivial⟩
              rintro _ ⟨f9, rfl, hf9⟩
              simp only [Act.put, List.setIfInBounds_toArray, List.set_cons_zero, List.set_cons_succ]
              refine wpT_nd (o := ⟨some 62, Op.binOp BinOp.add 43 (Operand.tmp 56) (Operand.tmp 61) 43, 43, "l05_sparse.go:159", #[{ on := 4, ground := Ground.data }, { on := 9, ground := Ground.data }], none⟩) rfl (by rfl) (by rfl) (fun w' hw' hF R__ hGo => ?_) (by obtain ⟨r, hr⟩ := ex_d .add ((by rw [hf4, hf9]; rfl) : fop .add .f32 (c32 (f4)) (c32 (f9)) = (wv x y M M' i j)); exact ⟨_, r, rfl, hr⟩) ?_
              · exact gives_f .add (.inl rfl) _ _ _ _ rfl (f4) (f9) rfl rfl (wv x y M M' i j) (by rw [hf4, hf9]; rfl) (fun r w2 hx hc => hGo _ _ hx ⟨r, rfl, hc⟩ trivial)
              rintro _ ⟨f10, rfl, hf10⟩
              simp only [Act.put, List.setIfInBounds_toArray, List.set_cons_zero, List.set_cons_succ]
              refine wpT_nil (fun w9 hw' hF => ?_)
              show wpList _ _ _ [(⟨none, Op.mapUpdate 92 (Operand.tmp 52) (Operand.tmp 53) (Operand.tmp 62), 0, "l05_sparse.go:159", #[{ on := 0, ground := Ground.data }, { on := 1, ground := Ground.data }, { on := 10, ground := Ground.data }, { on := 9, ground := Ground.chain }, { on := 0, ground := Ground.phase }, { on := 1, ground := Ground.phase }, { on := 2, ground := Ground.phase }, { on := 3, ground := Ground.phase }, { on := 4, ground := Ground.phase }, { on := 5, ground := Ground.phase }, { on := 6, ground := Ground.phase }, { on := 7, ground := Ground.phase }, { on := 8, ground := Ground.phase }, { on := 9, ground := Ground.phase }, { on := 10, ground := Ground.phase }], none⟩ : Oper)] _ _
              have hx := hw'.undrew
              clear hF hw' p0 p1 bp
              obtain ⟨w10, hrun, hm5, hg⟩ := (hm4.ext hx).update hn32 hi hj f10
              simp only [placeV] at hrun
              have hR2 := (hR'.ext hx).kept hg (by simp; omega) (by simp; omega)
              have hm3' := (hm3.ext hx).kept hg (by simp; omega)
              have hx10 := MapV.ge hg (hx6.trans hx) hb4
              rw [hf10] at hm5
              replace hm5 := hm5.congr (w1S_step (by rw [HMX.out]; rfl))
              clear hx hm3 hm4 hR' hx6
              go_wp2_with fail
              go_roundw
              case rel => exact ⟨_, _, hR2, hm3', hm5, hx10⟩
              case measure => rw [hR2.left_eq, HLE.out]; exact hlt


end Go.Proofs.Ytkifpligpobiaaa
