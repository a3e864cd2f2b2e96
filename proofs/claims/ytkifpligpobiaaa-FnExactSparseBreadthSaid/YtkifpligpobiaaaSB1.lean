
/- Sparse squares of the laws: sizes, copies, comparisons, marks. -/

import Derived.Test.YtkifpligpobiaaaB1

import Derived.Test.YtkifpligpobiaaaB2M

import Derived.Test.YtkifpligpobiaaaP2
set_option linter.unusedVariables false
set_option linter.unusedSimpArgs false

namespace Go.Proofs.Ytkifpligpobiaaa

open Go.RowKit


/-- Two rows do not meet. -/
abbrev NeV (v1 v2 : Value) : Prop := (v1.ownBlock = none ∨ v1.ownBlock ≠ v2.ownBlock) ∧ (v2.ownBlock = none ∨ v2.ownBlock ≠ v1.ownBlock)
theorem NeV.symm {v1 v2 : Value} (h : NeV v1 v2) : NeV v2 v1 := ⟨h.2, h.1⟩
theorem NeV.nil (v : Value) (n c : Nat) : NeV (.slice none n c) v := by
  refine ⟨.inl rfl, ?_⟩
  show _ ∨ _ ≠ none
  cases v.ownBlock <;> simp
/-- Rows of two types do not meet. -/
theorem Own.apart {w : World} {b1 b2 : Nat} {e1 e2 : TypeId} {v1 v2 : Value} {vs1 vs2 : List Value} (h1 : Own w b1 e1 v1 vs1) (h2 : Own w b2 e2 v2 vs2) (he : e1 ≠ e2) : NeV v1 v2 := by
  have key : ∀ k, v1.ownBlock = some k → v2.ownBlock = some k → False := by
    intro k hk1 hk2
    obtain ⟨c1, g1⟩ := own_block h1 k hk1
    obtain ⟨c2, g2⟩ := own_block h2 k hk2
    rw [g1] at g2
    simp only [Option.some.injEq, Obj.cells.injEq] at g2
    exact he g2.2.1
  cases k1 : v1.ownBlock with
  | none =>
    cases k2 : v2.ownBlock with
    | none => exact ⟨.inl k1, .inl k2⟩
    | some k => exact ⟨.inl k1, .inr (by rw [k1, k2]; simp)⟩
  | some j =>
    cases k2 : v2.ownBlock with
    | none => exact ⟨.inr (by rw [k1, k2]; simp), .inl k2⟩
    | some k =>
      have hjk : j ≠ k := fun e => key j k1 (by rw [k2, e])
      exact ⟨.inr (by rw [k1, k2]; simpa using hjk), .inr (by rw [k1, k2]; simpa using fun e => hjk e.symm)⟩

set_option maxRecDepth 20000 in
set_option maxHeartbeats 1000000 in
theorem szSparse_any (sd : Int) (A : Option Addr) (n ca : Nat) (B : Option Addr) (m cb : Nat) (V : Option Addr) (p cv : Nat) (left : Int) (hl : 0 ≤ left ∧ left ≤ 1048576) (hn : n ≤ 9223372036854775807) (hm : m ≤ 9223372036854775807) (hp : p ≤ 9223372036854775807) (w : World) :
    Calls Try.prog 20 #[.agg #[.int .i64 sd, .slice A n ca, .slice B m cb, .slice V p cv], .int .i64 left] w fun e w' => e = .returned (.int .i64 (szL (n + m + p) left)) ∧ Ext w w' := by
  have hx0 : Ext w (w.alloc (.cells #[.int .i64 sd, .slice A n ca, .slice B m cb, .slice V p cv] 25)) := (Ext.refl _).alloc _
  by_cases h : szL n left < 0
  · have hr : szL (n + m + p) left = -1 := by unfold szL at h ⊢; split at h <;> split <;> omega
    have hb : -1 = szL n left := by unfold szL at h ⊢; split at h <;> omega
    rw [hr]
    go_enter Try.func20, Try.ntmps20
    go_upto_region 1 with (fail)
    go_wp2_with fail
    refine (szInt64S_any A n ca left hl hn _).mono ?_
    rintro e w1 ⟨rfl, rfl⟩
    go_wp2_with fail
    go_ret
    exact ⟨rfl, hx0⟩
  · have h0 : 0 ≤ szL n left ∧ szL n left ≤ 1048576 := by unfold szL at h ⊢; split at h <;> omega
    by_cases h1 : szL m (szL n left) < 0
    · have hr : szL (n + m + p) left = -1 := by unfold szL at h0 h1 ⊢; split at h0 <;> split at h1 <;> split <;> omega
      have hb : -1 = szL m (szL n left) := by unfold szL at h0 h1 ⊢; split at h0 <;> split at h1 <;> omega
      rw [hr]
      obtain ⟨l1, hl1⟩ : ∃ l1, l1 = szL n left := ⟨_, rfl⟩
      rw [← hl1] at h h0 h1 hb
      have Hl1 := Lib.hid hl1
      clear hl1 hr
      go_enter Try.func20, Try.ntmps20
      go_upto_region 1 with (fail)
      go_wp2_with fail
      refine (szInt64S_any A n ca left hl hn _).mono ?_
      rintro e w1 ⟨rfl, rfl⟩
      rw [← Hl1.out]
      go_wp2_with fail
      refine (szInt64S_any B m cb l1 h0 hm _).mono ?_
      rintro e w1 ⟨rfl, rfl⟩
      go_wp2_with fail
      go_ret
      exact ⟨rfl, hx0⟩
    · have h2 : 0 ≤ szL m (szL n left) ∧ szL m (szL n left) ≤ 1048576 := by unfold szL at h0 h1 ⊢; split at h0 <;> split at h1 <;> omega
      have hr : szL (n + m + p) left = szL p (szL m (szL n left)) := by unfold szL at h0 h2 ⊢; split at h0 <;> split at h2 <;> split <;> split <;> omega
      have h3 : -1 ≤ szL p (szL m (szL n left)) ∧ szL p (szL m (szL n left)) ≤ 1048576 := by
        obtain ⟨l2, hl2⟩ : ∃ l2, l2 = szL m (szL n left) := ⟨_, rfl⟩
        rw [← hl2] at h2 ⊢
        unfold szL
        split <;> omega
      rw [hr]
      obtain ⟨l1, hl1⟩ : ∃ l1, l1 = szL n left := ⟨_, rfl⟩
      rw [← hl1] at h h0 h1 h2 h3 ⊢
      have Hl1 := Lib.hid hl1
      obtain ⟨l2, hl2⟩ : ∃ l2, l2 = szL m l1 := ⟨_, rfl⟩
      rw [← hl2] at h1 h2 h3 ⊢
      have Hl2 := Lib.hid hl2
      clear hl1 hl2 hr
      by_cases h4 : szL p l2 < 0
      all_goals
        go_enter Try.func20, Try.ntmps20
        go_upto_region 1 with (fail)
        go_wp2_with fail
        refine (szInt64S_any A n ca left hl hn _).mono ?_
        rintro e w1 ⟨rfl, rfl⟩
        rw [← Hl1.out]
        go_wp2_with fail
        refine (szInt64S_any B m cb l1 h0 hm _).mono ?_
        rintro e w1 ⟨rfl, rfl⟩
        rw [← Hl2.out]
        go_wp2_with fail
        refine (szFloat32S_any V p cv l2 h2 hp _).mono ?_
        rintro e w1 ⟨rfl, rfl⟩
        go_wp2_with fail
        go_ret
        exact ⟨ret_int (by unfold szL at h4 h3 ⊢; split at h4 <;> split <;> omega), hx0⟩

/-- A sparse square with rows of its own. -/
def RetSq (w : World) (sd : Int) (n m p : Nat) (st co : List Int) (va : List Nat) (e : Ending) (w' : World) : Prop := ∃ A k B l V q, e = .returned (.agg #[.int .i64 sd, .slice A n k, .slice B m l, .slice V p q]) ∧ Own w' w.heap.size 2 (.slice A n k) (ints st) ∧ Own w' w.heap.size 2 (.slice B m l) (ints co) ∧ Own w' w.heap.size 43 (.slice V p q) (flts va) ∧
  NeV (.slice A n k) (.slice B m l) ∧ NeV (.slice A n k) (.slice V p q) ∧ NeV (.slice B m l) (.slice V p q) ∧ Ext w w'

set_option maxRecDepth 20000 in
set_option maxHeartbeats 2000000 in
theorem eqSparse_any (sd sd' : Int) (A B V A' B' V' : Option Addr) (n m p n' m' p' c1 c2 c3 c1' c2' c3' : Nat) (st co : List Int) (va : List Nat) (st' co' : List Int) (va' : List Nat) (w : World) (hr : Rds w A n (ints st)) (hq : Rds w B m (ints co)) (hv : Rds w V p (flts va)) (hr' : Rds w A' n' (ints st')) (hq' : Rds w B' m' (ints co')) (hv' : Rds w V' p' (flts va')) (h : sd = sd' ∧ st = st' ∧ co = co' ∧ va = va') :
    Calls Try.prog 24 #[.agg #[.int .i64 sd, .slice A n c1, .slice B m c2, .slice V p c3], .agg #[.int .i64 sd', .slice A' n' c1', .slice B' m' c2', .slice V' p' c3']] w fun e w' => e = .returned (.bool true) ∧ Ext w w' := by
  obtain ⟨rfl, rfl, rfl, rfl⟩ := h
  have hse : (sd != sd) = false := by simp
  go_enter Try.func24, Try.ntmps24
  go_upto_region 1 with (fail)
  obtain ⟨w0, hw0⟩ : ∃ w0, w0 = ((w.alloc (.cells #[.int .i64 sd, .slice A n c1, .slice B m c2, .slice V p c3] 27)).alloc (.cells #[.int .i64 sd, .slice A' n' c1', .slice B' m' c2', .slice V' p' c3'] 27)) := ⟨_, rfl⟩
  have hx0 : Ext w w0 := by subst hw0; exact ((Ext.refl _).alloc _).alloc _
  have ba : Blk w0 (w.heap.size) #[.int .i64 sd, .slice A n c1, .slice B m c2, .slice V p c3] 27 := by subst hw0; exact (Blk.new w _ _).ext ((Ext.refl _).alloc _)
  have bb : Blk w0 (w.heap.size + 1) #[.int .i64 sd, .slice A' n' c1', .slice B' m' c2', .slice V' p' c3'] 27 := by subst hw0; simpa using (Blk.new (w.alloc (.cells #[.int .i64 sd, .slice A n c1, .slice B m c2, .slice V p c3] 27)) _ _)
  rw [← hw0]
  clear hw0
  have a0 := ba.cell 0 rfl
  have a1 := ba.cell 1 rfl
  have d0 := bb.cell 0 rfl
  have d1 := bb.cell 1 rfl
  go_wp2_with fail
  refine (eqInt64S_any A A' n n' c1 c1' st st _ (hr.below hx0) (hr'.below hx0)).mono ?_
  rw [decide_eq_true rfl]
  rintro e w1 ⟨rfl, hx⟩
  replace ba := ba.ext hx
  replace bb := bb.ext hx
  replace hx0 := hx0.trans hx
  clear a0 a1 d0 d1 hx
  have a2 := ba.cell 2 rfl
  have d2 := bb.cell 2 rfl
  go_wp2_with fail
  refine (eqInt64S_any B B' m m' c2 c2' co co _ (hq.below hx0) (hq'.below hx0)).mono ?_
  rw [decide_eq_true rfl]
  rintro e w2 ⟨rfl, hx⟩
  replace ba := ba.ext hx
  replace bb := bb.ext hx
  replace hx0 := hx0.trans hx
  clear a2 d2 hx
  have a3 := ba.cell 3 rfl
  have d3 := bb.cell 3 rfl
  go_wp2_with fail
  refine (eqFloat32S_any V V' p p' c3 c3' va va _ (hv.below hx0) (hv'.below hx0) rfl).mono ?_
  rintro e w3 ⟨rfl, hx⟩
  go_wp2_with fail
  go_ret
  exact ⟨rfl, hx0.trans hx⟩

set_option maxRecDepth 20000 in
set_option maxHeartbeats 2000000 in
theorem markSparse_any (base : Nat) (sd : Int) (A : Option Addr) (n ca : Nat) (B : Option Addr) (m cb : Nat) (V : Option Addr) (p cv : Nat) (us vs ts : List Value) (k : Int) (w : World) (hk : 0 ≤ k ∧ k ≤ 10000000) (ho : Own w base 2 (.slice A n ca) us) (ho2 : Own w base 2 (.slice B m cb) vs) (ho3 : Own w base 43 (.slice V p cv) ts)
    (h12 : NeV (.slice A n ca) (.slice B m cb)) (h13 : NeV (.slice A n ca) (.slice V p cv)) (h23 : NeV (.slice B m cb) (.slice V p cv)) :
    Calls Try.prog 25 #[.agg #[.int .i64 sd, .slice A n ca, .slice B m cb, .slice V p cv], .int .i64 k] w fun e w' => e = .returned (.int .i64 (k + n + m + p)) ∧ ∃ w1 w2, Own w1 base 2 (.slice A n ca) (ints (marks k n)) ∧ Wr w w1 (.slice A n ca) ∧ Own w2 base 2 (.slice B m cb) (ints (marks (k + n) m)) ∧ Wr w1 w2 (.slice B m cb) ∧ Own w' base 43 (.slice V p cv) (flts (marksF (k + n + m) p)) ∧ Wr w2 w' (.slice V p cv) := by
  have hs := ho.small
  have hl := ho.len
  have hs2 := ho2.small
  have hl2 := ho2.len
  rw [hl] at hs
  rw [hl2] at hs2
  clear hl hl2
  go_enter Try.func25, Try.ntmps25
  go_upto_region 1 with (fail)
  obtain ⟨w0, hw0⟩ : ∃ w0, w0 = (w.alloc (.cells #[.int .i64 sd, .slice A n ca, .slice B m cb, .slice V p cv] 27)) := ⟨_, rfl⟩
  have hx0 : Ext w w0 := by subst hw0; exact (Ext.refl _).alloc _
  have ba : Blk w0 (w.heap.size) #[.int .i64 sd, .slice A n ca, .slice B m cb, .slice V p cv] 27 := by subst hw0; exact (Blk.new w _ _)
  rw [← hw0]
  clear hw0
  have a1 := ba.cell 1 rfl
  go_wp2_with fail
  refine (markInt64S_any base A n ca us k _ (by omega) (ho.ext hx0)).mono ?_
  rintro e w1 ⟨rfl, h1, h2⟩
  have bb := ba.wr h2 (ho.ext hx0) (by decide)
  have a2 := bb.cell 2 rfl
  have hp2 := (ho2.ext hx0).other h2 h12.2
  have hp3 := (ho3.ext hx0).other h2 h13.2
  clear a1
  go_wp2_with fail
  refine (markInt64S_any base B m cb vs (k + n) _ (by omega) hp2).mono ?_
  rintro e w2 ⟨rfl, h3, h4⟩
  have bc := bb.wr h4 hp2 (by decide)
  have a3 := bc.cell 3 rfl
  have hp4 := hp3.other h4 h23.2
  clear a2
  go_wp2_with fail
  refine (markFloat32S_any base V p cv ts (k + n + m) _ (by omega) hp4).mono ?_
  rintro e w3 ⟨rfl, h5, h6⟩
  go_wp2_with fail
  go_ret
  exact ⟨rfl, w1, w2, h1, (Wr.of_ext hx0 _).trans h2, h3, h4, h5, h6⟩

set_option maxRecDepth 20000 in
set_option maxHeartbeats 2000000 in
theorem heldSparse_any (sd : Int) (A : Option Addr) (n ca : Nat) (B : Option Addr) (m cb : Nat) (V : Option Addr) (p cv : Nat) (k : Int) (w : World) (hk : 0 ≤ k ∧ k ≤ 10000000) (hn : n ≤ 1048576) (hm : m ≤ 1048576) (hp : p ≤ 1048576) (hr : Rds w A n (ints (marks k n))) (hq : Rds w B m (ints (marks (k + n) m))) (hv : Rds w V p (flts (marksF (k + n + m) p))) :
    Calls Try.prog 26 #[.agg #[.int .i64 sd, .slice A n ca, .slice B m cb, .slice V p cv], .int .i64 k] w fun e w' => e = .returned (.int .i64 (k + n + m + p)) ∧ Ext w w' := by
  go_enter Try.func26, Try.ntmps26
  go_upto_region 1 with (fail)
  obtain ⟨w0, hw0⟩ : ∃ w0, w0 = (w.alloc (.cells #[.int .i64 sd, .slice A n ca, .slice B m cb, .slice V p cv] 27)) := ⟨_, rfl⟩
  have hx0 : Ext w w0 := by subst hw0; exact (Ext.refl _).alloc _
  have ba : Blk w0 (w.heap.size) #[.int .i64 sd, .slice A n ca, .slice B m cb, .slice V p cv] 27 := by subst hw0; exact (Blk.new w _ _)
  rw [← hw0]
  clear hw0
  have a1 := ba.cell 1 rfl
  have hn1 : ¬ k + (n : Int) < 0 := by omega
  have hn2 : ¬ k + (n : Int) + (m : Int) < 0 := by omega
  have hn3 : ¬ k + (n : Int) + (m : Int) + (p : Int) < 0 := by omega
  go_wp2_with fail
  refine (heldInt64S_any A n ca k _ (by omega) hn (hr.below hx0)).mono ?_
  rintro e w1 ⟨rfl, hx⟩
  replace ba := ba.ext hx
  replace hx0 := hx0.trans hx
  clear a1 hx
  have a2 := ba.cell 2 rfl
  go_wp2_with fail
  refine (heldInt64S_any B m cb (k + n) _ (by omega) hm (hq.below hx0)).mono ?_
  rintro e w2 ⟨rfl, hx⟩
  replace ba := ba.ext hx
  replace hx0 := hx0.trans hx
  clear a2 hx
  have a3 := ba.cell 3 rfl
  go_wp2_with fail
  refine (heldFloat32S_any V p cv (k + n + m) _ (by omega) hp (hv.below hx0)).mono ?_
  rintro e w3 ⟨rfl, hx⟩
  go_wp2_with fail
  go_ret
  exact ⟨rfl, hx0.trans hx⟩

set_option maxRecDepth 20000 in
set_option maxHeartbeats 4000000 in
theorem toSparse_any (sd : Int) (A : Option Addr) (n ca : Nat) (B : Option Addr) (m cb : Nat) (V : Option Addr) (p cv : Nat) (st co : List Int) (va : List Nat) (w : World) (hr : Rds w A n (ints st)) (hq : Rds w B m (ints co)) (hv : Rds w V p (flts va)) (hn : n ≤ 1048576) (hm : m ≤ 1048576) (hp : p ≤ 1048576) :
    Calls Try.prog 22 #[.agg #[.int .i64 sd, .slice A n ca, .slice B m cb, .slice V p cv]] w (RetSq w sd n m p st co va) := by
  go_enter Try.func22, Try.ntmps22
  go_upto_region 1 with (fail)
  obtain ⟨w0, hw0⟩ : ∃ w0, w0 = ((w.alloc (.cells #[.int .i64 sd, .slice A n ca, .slice B m cb, .slice V p cv] 25)).alloc (.cells #[.int .i64 0, .slice none 0 0, .slice none 0 0, .slice none 0 0] 27)) := ⟨_, rfl⟩
  have hx0 : Ext w w0 := by subst hw0; exact ((Ext.refl _).alloc _).alloc _
  have bA : Blk w0 (w.heap.size) #[.int .i64 sd, .slice A n ca, .slice B m cb, .slice V p cv] 25 := by subst hw0; exact (Blk.new w _ _).ext ((Ext.refl _).alloc _)
  have b0 : Blk w0 (w.heap.size + 1) #[.int .i64 0, .slice none 0 0, .slice none 0 0, .slice none 0 0] 27 := by subst hw0; simpa using (Blk.new (w.alloc (.cells #[.int .i64 sd, .slice A n ca, .slice B m cb, .slice V p cv] 25)) _ _)
  rw [← hw0]
  clear hw0
  have hb0l := b0.lt
  have a0 := bA.cell 0 rfl
  go_upto_region 2 with (fail)
  obtain ⟨wa, hwa⟩ : ∃ v : World, v = w0.alloc (.cells #[.int .i64 0, .slice none 0 0, .slice none 0 0, .slice none 0 0] 27) := ⟨_, rfl⟩
  rw [← hwa]
  have hxa : Ext w wa := hwa ▸ hx0.alloc _
  replace bA : Blk wa _ _ _ := hwa ▸ bA.ext ((Ext.refl _).alloc _)
  replace b0 : Blk wa _ _ _ := hwa ▸ b0.ext ((Ext.refl _).alloc _)
  have b1 : Blk wa w0.heap.size #[.int .i64 0, .slice none 0 0, .slice none 0 0, .slice none 0 0] 27 := hwa ▸ Blk.new w0 _ _
  have hle := hx0.size
  have hb0 : w.heap.size + 1 < w0.heap.size := hb0l
  clear a0 hwa
  have a0 := bA.cell 0 rfl
  have z0 := b1.cell 0 rfl
  have q0 := b1.free 0
  have hq0 := b1.lt
  go_upto_region 3 with (fail)
  have x1 : Ext w (wa.setCell ⟨w0.heap.size, 0, none⟩ (.int .i64 sd)) := hxa.set (by simp; omega) _
  have bA1 := bA.other (b' := w0.heap.size) (by omega) 0 (.int .i64 sd)
  have b01 := b0.other (b' := w0.heap.size) (by omega) 0 (.int .i64 sd)
  have b11 := b1.set 0 (.int .i64 sd)
  obtain ⟨wb, hwb⟩ : ∃ v : World, v = wa.setCell ⟨w0.heap.size, 0, none⟩ (.int .i64 sd) := ⟨_, rfl⟩
  rw [← hwb] at x1 bA1 b01 b11 ⊢
  clear a0 z0 q0 hq0 bA b0 b1 hxa hwb hx0
  have a1 := bA1.cell 1 rfl
  go_wp2_with fail
  refine (toInt64S_any A n ca st _ (hr.below x1) hn).mono ?_
  rintro e w1 ⟨A', kA, rfl, oA, hx⟩
  replace oA := oA.base x1.size
  replace x1 := x1.trans hx
  have bA2 := bA1.ext hx
  have b02 := b01.ext hx
  have b12 := b11.ext hx
  clear a1 hx bA1 b01 b11
  have z0 := b12.cell 1 rfl
  have q0 := b12.free 1
  have hq0 := b12.lt
  go_upto_region 4 with (fail)
  have x2 : Ext w (w1.setCell ⟨w0.heap.size, 1, none⟩ (.slice A' n kA)) := x1.set (by simp; omega) _
  have bA3 := bA2.other (b' := w0.heap.size) (by omega) 1 (.slice A' n kA)
  have b03 := b02.other (b' := w0.heap.size) (by omega) 1 (.slice A' n kA)
  have oA3 := oA.setBlk b12 (by decide) 1 (.slice A' n kA)
  have b13 := b12.set 1 (.slice A' n kA)
  obtain ⟨w2, hw2⟩ : ∃ v : World, v = w1.setCell ⟨w0.heap.size, 1, none⟩ (.slice A' n kA) := ⟨_, rfl⟩
  rw [← hw2] at x2 bA3 b03 b13 oA3 ⊢
  clear z0 q0 hq0 bA2 b02 b12 oA x1 hw2
  have a1 := bA3.cell 2 rfl
  go_wp2_with fail
  refine (toInt64S_any B m cb co _ (hq.below x2) hm).mono ?_
  rintro e w3 ⟨B', kB, rfl, oB, hx⟩
  have n12 : NeV (.slice A' n kA) (.slice B' m kB) := oA3.ne oB
  replace oB := oB.base x2.size
  replace oA3 := oA3.ext hx
  replace x2 := x2.trans hx
  have bA4 := bA3.ext hx
  have b04 := b03.ext hx
  have b14 := b13.ext hx
  clear a1 hx bA3 b03 b13
  have z0 := b14.cell 2 rfl
  have q0 := b14.free 2
  have hq0 := b14.lt
  go_upto_region 5 with (fail)
  have x3 : Ext w (w3.setCell ⟨w0.heap.size, 2, none⟩ (.slice B' m kB)) := x2.set (by simp; omega) _
  have bA5 := bA4.other (b' := w0.heap.size) (by omega) 2 (.slice B' m kB)
  have b05 := b04.other (b' := w0.heap.size) (by omega) 2 (.slice B' m kB)
  have oA4 := oA3.setBlk b14 (by decide) 2 (.slice B' m kB)
  have oB4 := oB.setBlk b14 (by decide) 2 (.slice B' m kB)
  have b15 := b14.set 2 (.slice B' m kB)
  obtain ⟨w4, hw4⟩ : ∃ v : World, v = w3.setCell ⟨w0.heap.size, 2, none⟩ (.slice B' m kB) := ⟨_, rfl⟩
  rw [← hw4] at x3 bA5 b05 b15 oA4 oB4 ⊢
  clear z0 q0 hq0 bA4 b04 b14 oA3 oB x2 hw4
  have a1 := bA5.cell 3 rfl
  go_wp2_with fail
  refine (toFloat32S_any V p cv va _ (hv.below x3) hp).mono ?_
  rintro e w5 ⟨V', kV, rfl, oV, hx⟩
  have n13 : NeV (.slice A' n kA) (.slice V' p kV) := oA4.ne oV
  have n23 : NeV (.slice B' m kB) (.slice V' p kV) := oB4.ne oV
  replace oV := oV.base x3.size
  replace oA4 := oA4.ext hx
  replace oB4 := oB4.ext hx
  replace x3 := x3.trans hx
  have b06 := b05.ext hx
  have b16 := b15.ext hx
  clear a1 hx bA5 b05 b15
  have z0 := b16.cell 3 rfl
  have q0 := b16.free 3
  have hq0 := b16.lt
  go_upto_region 6 with (fail)
  have x5 : Ext w (w5.setCell ⟨w0.heap.size, 3, none⟩ (.slice V' p kV)) := x3.set (by simp; omega) _
  have b07 := b06.other (b' := w0.heap.size) (by omega) 3 (.slice V' p kV)
  have oA6 := oA4.setBlk b16 (by decide) 3 (.slice V' p kV)
  have oB6 := oB4.setBlk b16 (by decide) 3 (.slice V' p kV)
  have oV6 := oV.setBlk b16 (by decide) 3 (.slice V' p kV)
  have b17 := b16.set 3 (.slice V' p kV)
  obtain ⟨w6, hw6⟩ : ∃ v : World, v = w5.setCell ⟨w0.heap.size, 3, none⟩ (.slice V' p kV) := ⟨_, rfl⟩
  rw [← hw6] at x5 b07 b17 oA6 oB6 oV6 ⊢
  clear z0 q0 hq0 b06 b16 oA4 oB4 oV x3 hw6
  have z0 := b17.cell 0 rfl
  have z1 := b17.cell 1 rfl
  have z2 := b17.cell 2 rfl
  have z3 := b17.cell 3 rfl
  have y0 := b07.cell 0 rfl
  have y1 := b07.cell 1 rfl
  have y2 := b07.cell 2 rfl
  have y3 := b07.cell 3 rfl
  have f0 := b07.free 0
  have f1 := b07.free 1
  have f2 := b07.free 2
  have f3 := b07.free 3
  have hq0 := b07.lt
  go_wp2_with fail
  have c0 := b07.set 0 (.int .i64 sd)
  have c1 := c0.set 1 (.slice A' n kA)
  have c2 := c1.set 2 (.slice B' m kB)
  have c3 := c2.set 3 (.slice V' p kV)
  have oA7 := (((oA6.setBlk b07 (by decide) 0 (.int .i64 sd)).setBlk c0 (by decide) 1 (.slice A' n kA)).setBlk c1 (by decide) 2 (.slice B' m kB)).setBlk c2 (by decide) 3 (.slice V' p kV)
  have oB7 := (((oB6.setBlk b07 (by decide) 0 (.int .i64 sd)).setBlk c0 (by decide) 1 (.slice A' n kA)).setBlk c1 (by decide) 2 (.slice B' m kB)).setBlk c2 (by decide) 3 (.slice V' p kV)
  have oV7 := (((oV6.setBlk b07 (by decide) 0 (.int .i64 sd)).setBlk c0 (by decide) 1 (.slice A' n kA)).setBlk c1 (by decide) 2 (.slice B' m kB)).setBlk c2 (by decide) 3 (.slice V' p kV)
  have x7 := (((x5.set (p := ⟨w.heap.size + 1, 0, none⟩) (by simp) (.int .i64 sd)).set (p := ⟨w.heap.size + 1, 1, none⟩) (by simp) (.slice A' n kA)).set (p := ⟨w.heap.size + 1, 2, none⟩) (by simp) (.slice B' m kB)).set (p := ⟨w.heap.size + 1, 3, none⟩) (by simp) (.slice V' p kV)
  have r0 := c3.cell 0 rfl
  have r1 := c3.cell 1 rfl
  have r2 := c3.cell 2 rfl
  have r3 := c3.cell 3 rfl
  refine bodyPost_ret (v := .agg #[.int .i64 sd, .slice A' n kA, .slice B' m kB, .slice V' p kV]) (by simp only [results, Try.results22]; simp [go_sem, r0, r1, r2, r3]) rfl ⟨A', kA, B', kB, V', kV, rfl, oA7, oB7, oV7, n12, n13, n23, x7⟩

end Go.Proofs.Ytkifpligpobiaaa
