
/- The program's SparseFlip. -/

import Derived.Test.YtkifpligpobiaaaK6

import Derived.Test.YtkifpligpobiaaaK7

import Derived.Test.YtkifpligpobiaaaQ6
set_option linter.unusedVariables false
set_option linter.unusedSimpArgs false

namespace Go.Proofs.Ytkifpligpobiaaa

open Go.RowKit


/-- The target of a flip: what has been gone through. -/
def flS (M : Sqr) (S : Nat → Nat → Bool) : Sqr := fun a c => if S c a then none else M c a
theorem flS_zero {n : Nat} (M : Sqr) : ∀ i j, i < n → j < n → noneM i j = flS M (fun i j => (M i j).isSome) i j := by
  intro i j _ _
  show none = if (M j i).isSome = true then none else M j i
  cases M j i <;> simp
theorem flS_step {n : Nat} {M : Sqr} {S : Nat → Nat → Bool} {i j : Nat} {v : Option Nat} (h : M i j = some v) : ∀ a c, a < n → c < n → updM (flS M S) j i (some v) a c = flS M (strike S i j) a c := by
  intro a c _ _
  by_cases e : a = j ∧ c = i
  · obtain ⟨rfl, rfl⟩ := e
    rw [updM_same]
    unfold flS strike
    rw [decide_eq_true rfl, decide_eq_true rfl, h]
    simp
  · rw [updM_other _ e]
    unfold flS strike
    have : (decide (c = i) && decide (a = j)) = false := by
      by_cases h1 : c = i
      · rw [decide_eq_false (fun h2 => e ⟨h2, h1⟩), Bool.and_false]
      · rw [decide_eq_false h1, Bool.false_and]
    rw [this]
    simp
theorem flS_end {n : Nat} {M : Sqr} {S : Nat → Nat → Bool} (h : ∀ i j, i < n → j < n → S i j = false) : ∀ a c, a < n → c < n → flS M S a c = flipM M a c := by
  intro a c ha hc
  unfold flS
  rw [h c a hc ha]
  rfl

set_option maxRecDepth 20000 in
set_option maxHeartbeats 4000000 in
theorem implSparseFlip_any (sd : Int) (A : Option Addr) (n ca : Nat) (B : Option Addr) (m cb : Nat) (V : Option Addr) (p cv : Nat) (st co : List Int) (va : List Nat) (w : World) (hr : Rds w A n (ints st)) (hq : Rds w B m (ints co)) (hv : Rds w V p (flts va)) :
    Calls Try.prog 58 #[.agg #[.int .i64 sd, .slice A n ca, .slice B m cb, .slice V p cv]] w (RetSqB w (flipD sd st co va)) := by
  have HM := Lib.hid hq.ilen
  cases hs : isSp sd st co va with
  | false =>
    have hd : flipD sd st co va = SD.bad := by unfold flipD; rw [hs]; rfl
    go_enter Try.func58, Try.ntmps58
    go_upto_region 1 with (fail)
    obtain ⟨w0, hw0⟩ : ∃ w0, w0 = ((w.alloc (.cells #[.int .i64 sd, .slice A n ca, .slice B m cb, .slice V p cv] 27)).alloc (.cells #[.int .i64 0, .slice none 0 0, .slice none 0 0, .slice none 0 0] 27)) := ⟨_, rfl⟩
    have hx0 : Ext w w0 := by subst hw0; exact ((Ext.refl _).alloc _).alloc _
    have ba : Blk w0 (w.heap.size) #[.int .i64 sd, .slice A n ca, .slice B m cb, .slice V p cv] 27 := by subst hw0; exact (Blk.new w _ _).ext ((Ext.refl _).alloc _)
    have b1 : Blk w0 (w.heap.size + 1) #[.int .i64 0, .slice none 0 0, .slice none 0 0, .slice none 0 0] 27 := by subst hw0; simpa using (Blk.new (w.alloc (.cells #[.int .i64 sd, .slice A n ca, .slice B m cb, .slice V p cv] 27)) _ _)
    rw [← hw0]
    clear hw0
    have c0 := ba.cell 0 rfl
    have c1 := ba.cell 1 rfl
    have c2 := ba.cell 2 rfl
    have c3 := ba.cell 3 rfl
    go_wp2_with fail
    refine (implValidSparse_any sd A n ca B m cb V p cv st co va _ (hr.below hx0) (hq.below hx0) (hv.below hx0)).mono ?_
    rintro e w1 ⟨rfl, hx⟩
    rw [hs]
    replace b1 := b1.ext hx
    replace hx0 := hx0.trans hx
    clear hx ba c0 c1 c2 c3
    have y0 := b1.cell 0 rfl
    have y1 := b1.cell 1 rfl
    have y2 := b1.cell 2 rfl
    have y3 := b1.cell 3 rfl
    have f0 := b1.free 0
    have f1 := b1.free 1
    have f2 := b1.free 2
    have f3 := b1.free 3
    have hq0 := b1.lt
    go_wp2_with fail
    have d0 := b1.set 0 (.int .i64 0)
    have d1 := d0.set 1 (.slice none 0 0)
    have d2 := d1.set 2 (.slice none 0 0)
    have d3 := d2.set 3 (.slice none 0 0)
    have x2 := ((((hx0.set (p := ⟨w.heap.size + 1, 0, none⟩) (by simp; try omega) (.int .i64 0)).set (p := ⟨w.heap.size + 1, 1, none⟩) (by simp; try omega) (.slice none 0 0)).set (p := ⟨w.heap.size + 1, 2, none⟩) (by simp; try omega) (.slice none 0 0)).set (p := ⟨w.heap.size + 1, 3, none⟩) (by simp; try omega) (.slice none 0 0))
    have r0 := d3.cell 0 rfl
    have r1 := d3.cell 1 rfl
    have r2 := d3.cell 2 rfl
    have r3 := d3.cell 3 rfl
    refine bodyPost_ret (v := .tuple #[.agg #[.int .i64 0, .slice none 0 0, .slice none 0 0, .slice none 0 0], .bool false]) (by simp only [results, Try.results58]; simp [go_sem, r0, r1, r2, r3]) rfl (RetSqB.bad hd rfl x2)
  | true =>
    have hsp := isSp_iff.1 hs
    obtain ⟨N, rfl⟩ : ∃ N : Nat, sd = N := ⟨sd.toNat, by have := hsp.s1; omega⟩
    have hn1 : 1 ≤ N := by have := hsp.s1; omega
    have hn32 : N ≤ 32 := by have := hsp.s1; omega
    have hm512 : m ≤ 512 := by have := hsp.s3; rw [HM.out] at this; exact this
    have hd : flipD N st co va = giveSp N (flipM (vw st co va m)) := by unfold flipD; rw [hs, HM.out]; rfl
    obtain ⟨D, hD⟩ : ∃ D, D = flipD N st co va := ⟨_, rfl⟩
    rw [← hD]
    rw [← hD] at hd
    have HD := Lib.hid hd
    have HSP := Lib.hid hsp
    clear hd hD hsp
    go_enter Try.func58, Try.ntmps58
    go_upto_region 1 with (fail)
    obtain ⟨w0, hw0⟩ : ∃ w0, w0 = ((w.alloc (.cells #[.int .i64 N, .slice A n ca, .slice B m cb, .slice V p cv] 27)).alloc (.cells #[.int .i64 0, .slice none 0 0, .slice none 0 0, .slice none 0 0] 27)) := ⟨_, rfl⟩
    have hx0 : Ext w w0 := by subst hw0; exact ((Ext.refl _).alloc _).alloc _
    have ba : Blk w0 (w.heap.size) #[.int .i64 N, .slice A n ca, .slice B m cb, .slice V p cv] 27 := by subst hw0; exact (Blk.new w _ _).ext ((Ext.refl _).alloc _)
    have b1 : Blk w0 (w.heap.size + 1) #[.int .i64 0, .slice none 0 0, .slice none 0 0, .slice none 0 0] 27 := by subst hw0; simpa using (Blk.new (w.alloc (.cells #[.int .i64 N, .slice A n ca, .slice B m cb, .slice V p cv] 27)) _ _)
    rw [← hw0]
    clear hw0
    have c0 := ba.cell 0 rfl
    have c1 := ba.cell 1 rfl
    have c2 := ba.cell 2 rfl
    have c3 := ba.cell 3 rfl
    go_wp2_with fail
    refine (implValidSparse_any N A n ca B m cb V p cv st co va _ (hr.below hx0) (hq.below hx0) (hv.below hx0)).mono ?_
    rintro e w1 ⟨rfl, hx⟩
    rw [hs]
    replace ba := ba.ext hx
    replace b1 := b1.ext hx
    replace hx0 := hx0.trans hx
    clear hx c0 c1 c2 c3
    have c0 := ba.cell 0 rfl
    have c1 := ba.cell 1 rfl
    have c2 := ba.cell 2 rfl
    have c3 := ba.cell 3 rfl
    have lA := ba.lt
    have hmk := make_map_run
    go_wp2_with fail
    clear hmk
    have hy0 : Ext w1 (w1.alloc (.map #[] 0)) := (Ext.refl _).alloc _
    refine (numbers_any N A n ca B m cb V p cv st co va HSP.out _ (hr.below (hx0.trans hy0)) (hq.below (hx0.trans hy0)) (hv.below (hx0.trans hy0))).mono ?_
    rintro e w3 ⟨b, rfl, hM, hb, hx⟩
    have hT : MapV w3 w1.heap.size (N * N) N (flS (vw st co va m) (fun i j => (vw st co va m i j).isSome)) := (((MapV.empty w1 N).ext hx).congr (flS_zero _)).tight
    have hy := hy0.trans hx
    have hlt1 := hT.lt
    simp only [World.size_alloc] at hb
    clear hx hy0 c0 c1 c2 c3
    go_wp2_with (at_range; refine wpList_range_V rfl _ rfl b N (N * N) _ rfl hM ?_; intro w4 cnt hR hcnt hx4 hs4)
    go_frame
    replace hT := hT.ext hx4
    replace hy := hy.trans hx4
    clear hM hx4 hs4
    go_loopw [] (fun wr => ∃ (S : Nat → Nat → Bool) (cnt : Nat), RangeV wr b w3.heap.size (N * N) N (vw st co va m) S cnt ∧ MapV wr w1.heap.size (N * N) N (flS (vw st co va m) S) ∧ Ext w1 wr) (fun wr => wr.rangeLeft b w3.heap.size)
    case atStart => exact ⟨_, cnt, hR, hT, hy⟩
    case round =>
      rename World => wA
      clear hR hT hcnt hy
      obtain ⟨S, cnt, hR, hT, hy⟩ := hrel
      go_wp2_with (at_next; refine wpList_next_V rfl _ rfl b w3.heap.size (N * N) N _ S cnt hn32 rfl hR ?_ ?_)
      · intro hc0 hS
        have hst := hT.congr (flS_end hS)
        replace hx0 := hx0.trans hy
        replace b1 := b1.ext hy
        replace ba := ba.ext hy
        clear hT hR hS hy
        have c0 := ba.cell 0 rfl
        go_wp2_with fail
        refine (told_any w1.heap.size (N * N) N _ hn1 hn32 _ hst).mono ?_
        rw [← HD.out]
        rintro e w6 ⟨A', kA, B', kB, V', kV, rfl, p1, p2, p3, n12, n13, n23, hx⟩
        clear c0 ba hst
        replace p1 := p1.base hx0.size
        replace p2 := p2.base hx0.size
        replace p3 := p3.base hx0.size
        replace b1 := b1.ext hx
        replace hx0 := hx0.trans hx
        clear hx
        have y0 := b1.cell 0 rfl
        have y1 := b1.cell 1 rfl
        have y2 := b1.cell 2 rfl
        have y3 := b1.cell 3 rfl
        have f0 := b1.free 0
        have f1 := b1.free 1
        have f2 := b1.free 2
        have f3 := b1.free 3
        have hq0 := b1.lt
        go_wp2_with fail
        have d0 := b1.set 0 (.int .i64 D.sd)
        have d1 := d0.set 1 (.slice A' D.st.length kA)
        have d2 := d1.set 2 (.slice B' D.co.length kB)
        have d3 := d2.set 3 (.slice V' D.va.length kV)
        have q1 := ((((p1.setBlk b1 (by decide) 0 (.int .i64 D.sd)).setBlk d0 (by decide) 1 (.slice A' D.st.length kA)).setBlk d1 (by decide) 2 (.slice B' D.co.length kB)).setBlk d2 (by decide) 3 (.slice V' D.va.length kV))
        have q2 := ((((p2.setBlk b1 (by decide) 0 (.int .i64 D.sd)).setBlk d0 (by decide) 1 (.slice A' D.st.length kA)).setBlk d1 (by decide) 2 (.slice B' D.co.length kB)).setBlk d2 (by decide) 3 (.slice V' D.va.length kV))
        have q3 := ((((p3.setBlk b1 (by decide) 0 (.int .i64 D.sd)).setBlk d0 (by decide) 1 (.slice A' D.st.length kA)).setBlk d1 (by decide) 2 (.slice B' D.co.length kB)).setBlk d2 (by decide) 3 (.slice V' D.va.length kV))
        have x2 := ((((hx0.set (p := ⟨w.heap.size + 1, 0, none⟩) (by simp; try omega) (.int .i64 D.sd)).set (p := ⟨w.heap.size + 1, 1, none⟩) (by simp; try omega) (.slice A' D.st.length kA)).set (p := ⟨w.heap.size + 1, 2, none⟩) (by simp; try omega) (.slice B' D.co.length kB)).set (p := ⟨w.heap.size + 1, 3, none⟩) (by simp; try omega) (.slice V' D.va.length kV))
        have r0 := d3.cell 0 rfl
        have r1 := d3.cell 1 rfl
        have r2 := d3.cell 2 rfl
        have r3 := d3.cell 3 rfl
        refine bodyPost_ret (v := .tuple #[.agg #[.int .i64 D.sd, .slice A' D.st.length kA, .slice B' D.co.length kB, .slice V' D.va.length kV], .bool D.ok]) (by simp only [results, Try.results58]; simp [go_sem, r0, r1, r2, r3]) rfl ?_
        exact ⟨A', kA, B', kB, V', kV, rfl, q1, q2, q3, n12, n13, n23, x2⟩
      · intro i j x w5 cnt' hi hj hSij hMij hR' hlt hg hsz hen
        have hge : w1.heap.size ≤ w3.heap.size := by omega
        have hT' := hT.kept hg (by simp; omega)
        have hy' := MapV.ge hg hy hge
        have HLE := Lib.hid hR.left_eq
        clear hT hR hy
        have xg : Ext w5 (w5.alloc (.cells #[.int .i64 i, .int .i64 j] 95)) := (Ext.refl _).alloc _
        obtain ⟨w6, hrun, hT2, hg2⟩ := (hT'.ext xg).update hn32 hj hi x
        simp only [placeV] at hrun
        have hR2 := (hR'.ext xg).kept hg2 (by simp; omega) (by simp; omega)
        have hy2 := MapV.ge hg2 (hy'.trans xg) (Nat.le_refl _)
        replace hT2 := hT2.congr (flS_step hMij)
        go_wp2_with fail
        go_roundw
        case rel => exact ⟨_, _, hR2, hT2, hy2⟩
        case measure => rw [hR2.left_eq, HLE.out]; exact hlt

end Go.Proofs.Ytkifpligpobiaaa
