import Derived.Test.YtgjfdfmbknmpaaaB3M
set_option linter.unusedVariables false
set_option linter.unusedSimpArgs false
namespace Go.Proofs.Ytgjfdfmbknmpaaa
open Go.RowKit

set_option maxRecDepth 20000 in
set_option maxHeartbeats 1000000 in
theorem szChain_any (A : Option Addr) (n cap : Nat) (B : Option Addr) (m cap' : Nat) (left : Int) (hl : 0 ≤ left ∧ left ≤ 1048576) (hn : n ≤ 9223372036854775807) (hm : m ≤ 9223372036854775807) (w : World) :
    Calls Try.prog 30 #[.agg #[.slice A n cap, .slice B m cap'], .int .i64 left] w fun e w' => e = .returned (.int .i64 (szL (n + m) left)) ∧ Ext w w' := by
  have hx0 : Ext w (w.alloc (.cells #[.slice A n cap, .slice B m cap'] 24)) := (Ext.refl _).alloc _
  by_cases h : szL n left < 0
  · have hr : szL (n + m) left = -1 := by unfold szL at h ⊢; split at h <;> split <;> omega
    have hb : -1 = szL n left := by unfold szL at h ⊢; split at h <;> omega
    rw [hr]
    go_enter Try.func30, Try.ntmps30
    go_wp2_with fail
    refine (szFloat32S_any A n cap left hl hn _).mono ?_
    rintro e w1 ⟨rfl, rfl⟩
    go_wp2_with fail
    go_ret
    exact ⟨rfl, hx0⟩
  · have h0 : 0 ≤ szL n left ∧ szL n left ≤ 1048576 := by unfold szL at h ⊢; split at h <;> omega
    have hr : szL (n + m) left = szL m (szL n left) := by unfold szL at h0 ⊢; split at h0 <;> split <;> split <;> omega
    have h2 : -1 ≤ szL m (szL n left) ∧ szL m (szL n left) ≤ 1048576 := by unfold szL at h0 ⊢; split at h0 <;> split <;> omega
    rw [hr]
    obtain ⟨l1, hl1⟩ : ∃ l1, l1 = szL n left := ⟨_, rfl⟩
    rw [← hl1] at h h0 h2 ⊢
    have Hl1 := Lib.hid hl1
    clear hl1 hr
    by_cases h3 : szL m l1 < 0
    all_goals
      go_enter Try.func30, Try.ntmps30
      go_wp2_with fail
      refine (szFloat32S_any A n cap left hl hn _).mono ?_
      rintro e w1 ⟨rfl, rfl⟩
      rw [← Hl1.out]
      go_wp2_with fail
      refine (szFloat32S_any B m cap' l1 h0 hm _).mono ?_
      rintro e w1 ⟨rfl, rfl⟩
      go_wp2_with fail
      go_ret
      exact ⟨ret_int (by unfold szL at h3 h2 ⊢; split at h3 <;> split <;> omega), hx0⟩

/-- A chain with rows of its own. -/
def RetCh (w : World) (n m : Nat) (xs ys : List Nat) (e : Ending) (w' : World) : Prop := ∃ A k B k', e = .returned (.agg #[.slice A n k, .slice B m k']) ∧ Own w' w.heap.size 39 (.slice A n k) (flts xs) ∧ Own w' w.heap.size 39 (.slice B m k') (flts ys) ∧
  (((Value.slice A n k).ownBlock = none ∨ (Value.slice A n k).ownBlock ≠ (Value.slice B m k').ownBlock) ∧ ((Value.slice B m k').ownBlock = none ∨ (Value.slice B m k').ownBlock ≠ (Value.slice A n k).ownBlock)) ∧ Ext w w'

set_option maxRecDepth 20000 in
set_option maxHeartbeats 1000000 in
theorem toChain_any (A : Option Addr) (n cap : Nat) (B : Option Addr) (m cap' : Nat) (xs ys : List Nat) (w : World) (hr : Rds w A n (flts xs)) (hq : Rds w B m (flts ys)) (hn : n ≤ 1048576) (hm : m ≤ 1048576) :
    Calls Try.prog 32 #[.agg #[.slice A n cap, .slice B m cap']] w (RetCh w n m xs ys) := by
  go_enter Try.func32, Try.ntmps32
  go_wp2_with fail
  have hx0 : Ext w (((w.alloc (.cells #[.slice A n cap, .slice B m cap'] 24)).alloc (.cells #[.slice none 0 0, .slice none 0 0] 27)).alloc (.cells #[.slice none 0 0, .slice none 0 0] 27)) := (((Ext.refl _).alloc _).alloc _).alloc _
  have bA : Blk (((w.alloc (.cells #[.slice A n cap, .slice B m cap'] 24)).alloc (.cells #[.slice none 0 0, .slice none 0 0] 27)).alloc (.cells #[.slice none 0 0, .slice none 0 0] 27)) w.heap.size #[.slice A n cap, .slice B m cap'] 24 := (Blk.new w _ _).ext (((Ext.refl _).alloc _).alloc _)
  have b0 : Blk (((w.alloc (.cells #[.slice A n cap, .slice B m cap'] 24)).alloc (.cells #[.slice none 0 0, .slice none 0 0] 27)).alloc (.cells #[.slice none 0 0, .slice none 0 0] 27)) (w.heap.size + 1) #[.slice none 0 0, .slice none 0 0] 27 := by simpa using (Blk.new (w.alloc (.cells #[.slice A n cap, .slice B m cap'] 24)) #[.slice none 0 0, .slice none 0 0] 27).ext ((Ext.refl _).alloc _)
  have b1 : Blk (((w.alloc (.cells #[.slice A n cap, .slice B m cap'] 24)).alloc (.cells #[.slice none 0 0, .slice none 0 0] 27)).alloc (.cells #[.slice none 0 0, .slice none 0 0] 27)) (w.heap.size + 1 + 1) #[.slice none 0 0, .slice none 0 0] 27 := by simpa using Blk.new ((w.alloc (.cells #[.slice A n cap, .slice B m cap'] 24)).alloc (.cells #[.slice none 0 0, .slice none 0 0] 27)) #[.slice none 0 0, .slice none 0 0] 27
  refine (toFloat32S_any A n cap xs _ (hr.below hx0) hn).mono ?_
  rintro e w1 ⟨A', k', rfl, ho, hx⟩
  replace bA := bA.ext hx
  replace b0 := b0.ext hx
  replace b1 := b1.ext hx
  replace ho := ho.base hx0.size
  replace hx0 := hx0.trans hx
  clear hx
  have a1 := bA.cell 1 rfl
  have z0 := b1.cell 0 rfl
  have q0 := b1.free 0
  have hq1 := b1.lt
  go_wp2_with fail
  have o2 : Own (w1.setCell ⟨w.heap.size + 1 + 1, 0, none⟩ (.slice A' n k')) w.heap.size 39 (.slice A' n k') (flts xs) := ho.setBlk b1 (by decide) _ _
  have x2 : Ext w (w1.setCell ⟨w.heap.size + 1 + 1, 0, none⟩ (.slice A' n k')) := hx0.set (by simp; omega) _
  have bA2 : Blk (w1.setCell ⟨w.heap.size + 1 + 1, 0, none⟩ (.slice A' n k')) w.heap.size #[.slice A n cap, .slice B m cap'] 24 := bA.other (by omega) _ _
  have b02 : Blk (w1.setCell ⟨w.heap.size + 1 + 1, 0, none⟩ (.slice A' n k')) (w.heap.size + 1) #[.slice none 0 0, .slice none 0 0] 27 := b0.other (by omega) _ _
  have b12 : Blk (w1.setCell ⟨w.heap.size + 1 + 1, 0, none⟩ (.slice A' n k')) (w.heap.size + 1 + 1) #[.slice A' n k', .slice none 0 0] 27 := b1.set 0 _
  clear a1 z0 q0 hq1 bA b0 b1 ho hx0
  refine (toFloat32S_any B m cap' ys _ (hq.below x2) hm).mono ?_
  rintro e w3 ⟨B', j', rfl, oB, hx⟩
  have hne := o2.ne oB
  replace o2 := o2.ext hx
  replace oB := oB.base x2.size
  replace b02 := b02.ext hx
  replace b12 := b12.ext hx
  replace x2 := x2.trans hx
  clear hx bA2
  have z0 := b12.cell 0 rfl
  have z1 := b12.cell 1 rfl
  have q1 := b12.free 1
  have hq1 := b12.lt
  have y0 := b02.cell 0 rfl
  have y1 := b02.cell 1 rfl
  have f0 := b02.free 0
  have f1 := b02.free 1
  have hq0 := b02.lt
  go_wp2_with fail
  have b13 := b12.set 1 (.slice B' m j')
  have b03 : Blk (w3.setCell ⟨w.heap.size + 1 + 1, 1, none⟩ (.slice B' m j')) (w.heap.size + 1) #[.slice none 0 0, .slice none 0 0] 27 := b02.other (by omega) _ _
  have o3 := o2.setBlk b12 (by decide) 1 (.slice B' m j')
  have oB3 := oB.setBlk b12 (by decide) 1 (.slice B' m j')
  have x3 : Ext w (w3.setCell ⟨w.heap.size + 1 + 1, 1, none⟩ (.slice B' m j')) := x2.set (by simp; omega) _
  have o4 := (o3.setBlk b03 (by decide) 0 (.slice A' n k')).setBlk (b03.set 0 (.slice A' n k')) (by decide) 1 (.slice B' m j')
  have oB4 := (oB3.setBlk b03 (by decide) 0 (.slice A' n k')).setBlk (b03.set 0 (.slice A' n k')) (by decide) 1 (.slice B' m j')
  have x4 := (x3.set (p := ⟨w.heap.size + 1, 0, none⟩) (by simp) (.slice A' n k')).set (p := ⟨w.heap.size + 1, 1, none⟩) (by simp) (.slice B' m j')
  have b04 := (b03.set 0 (.slice A' n k')).set 1 (.slice B' m j')
  have r0 := b04.cell 0 rfl
  have r1 := b04.cell 1 rfl
  refine bodyPost_ret (v := .agg #[.slice A' n k', .slice B' m j']) (by simp only [results, Try.results32]; simp [go_sem, r0, r1]) rfl ⟨A', k', B', j', rfl, o4, oB4, hne, x4⟩

set_option maxRecDepth 20000 in
set_option maxHeartbeats 1000000 in
theorem eqChain_any (A A' B B' : Option Addr) (n n' m m' cap c1 cap' c2 : Nat) (xs ys xs' ys' : List Nat) (w : World) (hr : Rds w A n (flts xs)) (hr' : Rds w A' n' (flts ys)) (hq : Rds w B m (flts xs')) (hq' : Rds w B' m' (flts ys')) (h : xs = xs' ∧ ys = ys') :
    Calls Try.prog 34 #[.agg #[.slice A n cap, .slice A' n' c1], .agg #[.slice B m cap', .slice B' m' c2]] w fun e w' => e = .returned (.bool true) ∧ Ext w w' := by
  obtain ⟨rfl, rfl⟩ := h
  go_enter Try.func34, Try.ntmps34
  go_upto_region 1 with (fail)
  obtain ⟨w0, hw0⟩ : ∃ w0, w0 = ((w.alloc (.cells #[.slice A n cap, .slice A' n' c1] 27)).alloc (.cells #[.slice B m cap', .slice B' m' c2] 27)) := ⟨_, rfl⟩
  have hx0 : Ext w w0 := by subst hw0; exact ((Ext.refl _).alloc _).alloc _
  have ba : Blk w0 (w.heap.size) #[.slice A n cap, .slice A' n' c1] 27 := by subst hw0; exact (Blk.new w _ _).ext ((Ext.refl _).alloc _)
  have bb : Blk w0 (w.heap.size + 1) #[.slice B m cap', .slice B' m' c2] 27 := by subst hw0; simpa using (Blk.new (w.alloc (.cells #[.slice A n cap, .slice A' n' c1] 27)) _ _)
  rw [← hw0]
  clear hw0
  have a0 := ba.cell 0 rfl
  have d0 := bb.cell 0 rfl
  go_wp2_with fail
  refine (eqFloat32S_any A B n m cap cap' xs xs _ (hr.below hx0) (hq.below hx0) rfl).mono ?_
  rintro e w1 ⟨rfl, hx⟩
  have a1 := (ba.ext hx).cell 1 rfl
  have d1 := (bb.ext hx).cell 1 rfl
  replace hx0 := hx0.trans hx
  clear a0 d0
  go_wp2_with fail
  refine (eqFloat32S_any A' B' n' m' c1 c2 ys ys _ (hr'.below hx0) (hq'.below hx0) rfl).mono ?_
  rintro e w2 ⟨rfl, hx2⟩
  go_wp2_with fail
  go_ret
  exact ⟨rfl, hx0.trans hx2⟩

set_option maxRecDepth 20000 in
set_option maxHeartbeats 1000000 in
theorem markChain_any (base : Nat) (A : Option Addr) (n cap : Nat) (B : Option Addr) (m cap' : Nat) (vs us : List Value) (k : Int) (w : World) (hk : 0 ≤ k ∧ k ≤ 10000000) (ho : Own w base 39 (.slice A n cap) vs) (hp : Own w base 39 (.slice B m cap') us)
    (hne : (Value.slice B m cap').ownBlock = none ∨ (Value.slice B m cap').ownBlock ≠ (Value.slice A n cap).ownBlock) :
    Calls Try.prog 73 #[.agg #[.slice A n cap, .slice B m cap'], .int .i64 k] w fun e w' => e = .returned (.int .i64 (k + n + m)) ∧ ∃ w1, Own w1 base 39 (.slice A n cap) (flts (marksF k n)) ∧ Wr w w1 (.slice A n cap) ∧ Own w' base 39 (.slice B m cap') (flts (marksF (k + n) m)) ∧ Wr w1 w' (.slice B m cap') := by
  have hs := ho.small
  have hl := ho.len
  rw [hl] at hs
  clear hl
  go_enter Try.func73, Try.ntmps73
  go_upto_region 1 with (fail)
  obtain ⟨w0, hw0⟩ : ∃ w0, w0 = (w.alloc (.cells #[.slice A n cap, .slice B m cap'] 27)) := ⟨_, rfl⟩
  have hx0 : Ext w w0 := by subst hw0; exact (Ext.refl _).alloc _
  have ba : Blk w0 (w.heap.size) #[.slice A n cap, .slice B m cap'] 27 := by subst hw0; exact (Blk.new w _ _)
  rw [← hw0]
  clear hw0
  have a0 := ba.cell 0 rfl
  go_wp2_with fail
  refine (markFloat32S_any base A n cap vs k _ (by omega) (ho.ext hx0)).mono ?_
  rintro e w1 ⟨rfl, h1, h2⟩
  have bb := ba.wr h2 (ho.ext hx0) (by decide)
  have a1 := bb.cell 1 rfl
  have hp1 := (hp.ext hx0).other h2 hne
  clear a0
  go_wp2_with fail
  refine (markFloat32S_any base B m cap' us (k + n) _ (by omega) hp1).mono ?_
  rintro e w2 ⟨rfl, h3, h4⟩
  go_wp2_with fail
  go_ret
  exact ⟨rfl, w1, h1, (Wr.of_ext hx0 _).trans h2, h3, h4⟩

end Go.Proofs.Ytgjfdfmbknmpaaa
