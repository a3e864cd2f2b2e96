
/- SparseRoot, the program. -/

import Derived.Test.YtkifpligpobiaaaN7

import Derived.Test.YtkifpligpobiaaaH7
set_option linter.unusedVariables false
set_option linter.unusedSimpArgs false

namespace Go.Proofs.Ytkifpligpobiaaa

open Go.RowKit


theorem rtC_congr {T : Nat → Nat → Bool} {M M' L : Sqr} {i j : Nat} (h : M i j = M' i j) : rtC T M L i j = rtC T M' L i j := by
  unfold rtC sumM
  rw [h]
theorem rtRow_congr {T : Nat → Nat → Bool} {M M' : Sqr} {i : Nat} (h : ∀ j, j ≤ i → M i j = M' i j) : ∀ (j : Nat) (o : Option Sqr), j ≤ i + 1 → rtRow T M i j o = rtRow T M' i j o
  | 0, _, _ => rfl
  | j + 1, o, hj => by
    show (rtRow T M i j o).bind _ = (rtRow T M' i j o).bind _
    rw [rtRow_congr h j o (by omega)]
    congr 1
    funext L
    exact rtC_congr (h j (by omega))
theorem rtAll_congr {T : Nat → Nat → Bool} {M M' : Sqr} (h : ∀ i j, j ≤ i → M i j = M' i j) : ∀ i, rtAll T M i = rtAll T M' i
  | 0 => rfl
  | i + 1 => by
    show rtRow T M i (i + 1) (rtAll T M i) = rtRow T M' i (i + 1) (rtAll T M' i)
    rw [rtAll_congr h i]
    exact rtRow_congr (fun j hj => h i j hj) _ _ (Nat.le_refl _)
theorem rtD_congr {n : Nat} {T : Nat → Nat → Bool} {M M' : Sqr} (h : ∀ i j, j ≤ i → M i j = M' i j) : rtD n T M = rtD n T M' := by
  unfold rtD
  rw [rtAll_congr h n]
/-- What is told when the rows have been taken out. -/
def trB (G : Grf) : Nat → Nat → Bool := fun i j => decide (i = j) || stB G j j i
noncomputable def rtX (N : Nat) (M : Sqr) : SD := giveSp N (lowM M)
noncomputable def rtG (X : SD) : Grf := nbM (vw X.st X.co X.va X.co.length)
/-- What SparseRoot answers. -/
noncomputable def rootD (sd : Int) (st co : List Int) (va : List Nat) : SD := if isSp sd st co va then rtD sd.toNat (trB (rtG (rtX sd.toNat (vw st co va co.length)))) (vw st co va co.length) else SD.bad
theorem rootD_eq {N : Nat} {st co : List Int} {va : List Nat} (hs : isSp N st co va = true) : rootD N st co va = rtD N (trB (rtG (rtX N (vw st co va co.length)))) (vw st co va co.length) := by
  unfold rootD
  rw [if_pos hs, Int.toNat_natCast]
theorem low_ok {N : Nat} {st co : List Int} {va : List Nat} (h : IsSp N st co va) : (rtX N (vw st co va co.length)).ok = true ∧ (rtX N (vw st co va co.length)).sd = N ∧ IsSp N (rtX N (vw st co va co.length)).st (rtX N (vw st co va co.length)).co (rtX N (vw st co va co.length)).va := by
  obtain ⟨ys, e, hsp⟩ := sub_good (L := lowM (vw st co va co.length)) h (fun a b _ _ => by
    unfold lowM
    by_cases k : b ≤ a
    · exact .inr (if_pos k)
    · exact .inl (if_neg k))
  unfold rtX
  rw [e]
  exact ⟨rfl, rfl, hsp⟩

set_option maxRecDepth 20000 in
set_option maxHeartbeats 4000000 in
theorem root1_any (N : Nat) (G : Grf) (hn : N ≤ 32) (TA : Option Addr) (tc pm i j : Nat) (hi : i < N) (hj : j < N) (w : World) (cm : w.cell? ⟨pm, 0, none⟩ = some (.slice TA N tc)) (hr : Rds w TA N (u64s (tkk N G N))) :
    Calls Try.prog 82 #[.int .i64 i, .int .i64 j, .pointer (some ⟨pm, 0, none⟩)] w fun e w' => e = .returned (.bool (trB G i j)) ∧ Ext w w' := by
  by_cases e : i = j
  · subst e
    have HB : Hid (trB G i i = true) := by show _ = _; unfold trB; simp
    rw [HB.out]
    clear hr
    have e' : ((i : Int) == i) = true := by simp
    go_enter Try.func82, Try.ntmps82
    go_upto_region 1 with (fail)
    go_wp2_with fail
    go_ret
    exact ⟨rfl, Ext.refl _⟩
  · have e' : ((i : Int) == j) = false := by simp; omega
    have hb := bit32 (msk_lt32 hn (stB G j j)) i
    rw [msk_bit, decide_eq_true hi, Bool.true_and] at hb
    have HB : Hid (trB G i j = stB G j j i) := by show _ = _; unfold trB; rw [decide_eq_false e, Bool.false_or]
    rw [HB.out]
    obtain ⟨t, ht⟩ : ∃ t, t = stB G j j i := ⟨_, rfl⟩
    obtain ⟨ad, rfl, hcell⟩ := hr.at' (by omega)
    have hc := hcell j hj
    rw [u64s_get (by rw [tkk_len]; exact hj), tkk_at G hj] at hc
    obtain ⟨mm, hmm⟩ : ∃ mm, mm = msk N (stB G j j) := ⟨_, rfl⟩
    rw [← hmm] at hb hc
    rw [← ht] at hb ⊢
    clear hmm ht hcell hr HB e
    go_enter Try.func82, Try.ntmps82
    go_upto_region 1 with (fail)
    go_wp2_with fail
    go_ret
    exact ⟨rfl, Ext.refl _⟩

set_option maxRecDepth 20000 in
set_option maxHeartbeats 8000000 in
theorem implSparseRoot_any (sd : Int) (A : Option Addr) (n ca : Nat) (B : Option Addr) (m cb : Nat) (V : Option Addr) (p cv : Nat) (st co : List Int) (va : List Nat) (w : World) (hr : Rds w A n (ints st)) (hq : Rds w B m (ints co)) (hv : Rds w V p (flts va)) :
    Calls Try.prog 23 #[.agg #[.int .i64 sd, .slice A n ca, .slice B m cb, .slice V p cv]] w (RetSqB w (rootD sd st co va)) := by
  have HM := Lib.hid hq.ilen
  cases hs : isSp sd st co va with
  | false =>
    have hd : rootD sd st co va = SD.bad := by unfold rootD; rw [hs]; rfl
    go_enter Try.func23, Try.ntmps23
    go_upto_region 1 with (fail)
    obtain ⟨w0, hw0⟩ : ∃ w0, w0 = ((w.alloc (.cells #[.int .i64 sd, .slice A n ca, .slice B m cb, .slice V p cv] 27)).alloc (.cells #[.int .i64 0, .slice none 0 0, .slice none 0 0, .slice none 0 0] 27)) := ⟨_, rfl⟩
    have hx0 : Ext w w0 := by subst hw0; exact ((Ext.refl _).alloc _).alloc _
    have ba : Blk w0 (w.heap.size) #[.int .i64 sd, .slice A n ca, .slice B m cb, .slice V p cv] 27 := by subst hw0; exact (Blk.new w _ _).ext ((Ext.refl _).alloc _)
    have b1 : Blk w0 (w.heap.size + 1) #[.int .i64 0, .slice none 0 0, .slice none 0 0, .slice none 0 0] 27 := by subst hw0; simpa using (Blk.new (w.alloc (.cells #[.int .i64 sd, .slice A n ca, .slice B m cb, .slice V p cv] 27)) _ _)
    rw [← hw0]
    clear hw0
    have c0 := ba.cell 0 rfl
    have c1 := ba.cell 1 rfl
    have c2 := ba.cell 2 rfl
    have c3 := ba.cell 3 rfl
    go_wp2_with fail
    refine (implValidSparse_any sd A n ca B m cb V p cv st co va _ (hr.below hx0) (hq.below hx0) (hv.below hx0)).mono ?_
    rintro e w1 ⟨rfl, hx⟩
    rw [hs]
    clear c0 c1 c2 c3
    replace ba := ba.ext hx
    replace b1 := b1.ext hx
    replace hx0 := hx0.trans hx
    clear hx
    have y0 := b1.cell 0 rfl
    have y1 := b1.cell 1 rfl
    have y2 := b1.cell 2 rfl
    have y3 := b1.cell 3 rfl
    have f0 := b1.free 0
    have f1 := b1.free 1
    have f2 := b1.free 2
    have f3 := b1.free 3
    have hq0 := b1.lt
    go_wp2_with fail
    have d0 := b1.set 0 (.int .i64 0)
    have d1 := d0.set 1 (.slice none 0 0)
    have d2 := d1.set 2 (.slice none 0 0)
    have d3 := d2.set 3 (.slice none 0 0)
    have x2 := ((((hx0.set (p := ⟨w.heap.size + 1, 0, none⟩) (by simp; try omega) (.int .i64 0)).set (p := ⟨w.heap.size + 1, 1, none⟩) (by simp; try omega) (.slice none 0 0)).set (p := ⟨w.heap.size + 1, 2, none⟩) (by simp; try omega) (.slice none 0 0)).set (p := ⟨w.heap.size + 1, 3, none⟩) (by simp; try omega) (.slice none 0 0))
    have r0 := d3.cell 0 rfl
    have r1 := d3.cell 1 rfl
    have r2 := d3.cell 2 rfl
    have r3 := d3.cell 3 rfl
    refine bodyPost_ret (v := .tuple #[.agg #[.int .i64 0, .slice none 0 0, .slice none 0 0, .slice none 0 0], .bool false]) (by simp only [results, Try.results23]; simp [go_sem, r0, r1, r2, r3]) rfl (RetSqB.bad hd rfl x2)
  | true =>
    have hsp := isSp_iff.1 hs
    obtain ⟨N, rfl⟩ : ∃ N : Nat, sd = N := ⟨sd.toNat, by have := hsp.s1; omega⟩
    have hn1 : 1 ≤ N := by have := hsp.s1; omega
    have hn32 : N ≤ 32 := by have := hsp.s1; omega
    have HSP := Lib.hid hsp
    clear hsp
    obtain ⟨M, hM⟩ : ∃ M, M = vw st co va m := ⟨_, rfl⟩
    have HV := Lib.hid hM
    have hd := rootD_eq (N := N) hs
    rw [HM.out, ← hM] at hd
    obtain ⟨D, hD⟩ : ∃ D, D = rootD N st co va := ⟨_, rfl⟩
    rw [← hD]
    rw [← hD] at hd
    have HD := Lib.hid hd
    clear hd hD hM
    go_enter Try.func23, Try.ntmps23
    go_upto_region 1 with (fail)
    obtain ⟨w0, hw0⟩ : ∃ w0, w0 = ((w.alloc (.cells #[.int .i64 N, .slice A n ca, .slice B m cb, .slice V p cv] 27)).alloc (.cells #[.int .i64 0, .slice none 0 0, .slice none 0 0, .slice none 0 0] 27)) := ⟨_, rfl⟩
    have hx0 : Ext w w0 := by subst hw0; exact ((Ext.refl _).alloc _).alloc _
    have ba : Blk w0 (w.heap.size) #[.int .i64 N, .slice A n ca, .slice B m cb, .slice V p cv] 27 := by subst hw0; exact (Blk.new w _ _).ext ((Ext.refl _).alloc _)
    have b1 : Blk w0 (w.heap.size + 1) #[.int .i64 0, .slice none 0 0, .slice none 0 0, .slice none 0 0] 27 := by subst hw0; simpa using (Blk.new (w.alloc (.cells #[.int .i64 N, .slice A n ca, .slice B m cb, .slice V p cv] 27)) _ _)
    rw [← hw0]
    clear hw0
    have c0 := ba.cell 0 rfl
    have c1 := ba.cell 1 rfl
    have c2 := ba.cell 2 rfl
    have c3 := ba.cell 3 rfl
    go_wp2_with fail
    refine (implValidSparse_any N A n ca B m cb V p cv st co va _ (hr.below hx0) (hq.below hx0) (hv.below hx0)).mono ?_
    rintro e w1 ⟨rfl, hx⟩
    rw [hs]
    clear c0 c1 c2 c3
    replace ba := ba.ext hx
    replace b1 := b1.ext hx
    replace hx0 := hx0.trans hx
    clear hx
    have c0 := ba.cell 0 rfl
    have c1 := ba.cell 1 rfl
    have c2 := ba.cell 2 rfl
    have c3 := ba.cell 3 rfl
    obtain ⟨X, hX⟩ : ∃ X, X = rtX N M := ⟨_, rfl⟩
    have hlo := low_ok HSP.out
    rw [HM.out, ← HV.out, ← hX] at hlo
    obtain ⟨_, hxs, hxsp⟩ := hlo
    rw [← hX] at HD
    have HXS := Lib.hid hxs
    have HXP := Lib.hid hxsp
    have HX := Lib.hid hX
    clear hX hxs hxsp
    obtain ⟨G, hG⟩ : ∃ G, G = rtG X := ⟨_, rfl⟩
    rw [← hG] at HD
    have HG := Lib.hid hG
    clear hG
    go_wp2_with fail
    refine (lower_any N A n ca B m cb V p cv st co va HSP.out _ (hr.below hx0) (hq.below hx0) (hv.below hx0)).mono ?_
    rw [← HV.out]
    have HXM : Hid (giveSp N (lowM M) = X) := HX.out.symm
    rw [HXM.out]
    rintro e w2 ⟨A', kA, B', kB, V', kV, rfl, p1, p2, p3, hx⟩
    rw [HXS.out]
    clear c0 c1 c2 c3
    replace ba := ba.ext hx
    replace b1 := b1.ext hx
    replace hx0 := hx0.trans hx
    clear hx
    go_wp2_with fail
    refine (neighbours_any N A' _ kA B' _ kB V' _ kV X.st X.co X.va HXP.out _ p1.reads p2.reads p3.reads).mono ?_
    have HGG : Hid (nbM (vw X.st X.co X.va X.co.length) = G) := HG.out.symm
    rw [HGG.out]
    rintro e w3 ⟨GA, gc, rfl, og, hx⟩
    clear p1 p2 p3
    obtain ⟨g, rfl, hgb⟩ := og.head (by omega)
    have hgw := og.lt_size g rfl
    have hw12 := hx0
    replace og := og.base hx0.size
    replace ba := ba.ext hx
    replace b1 := b1.ext hx
    replace hx0 := hx0.trans hx
    clear hx
    go_wp2_with fail
    refine (takenOut_any w.heap.size g N gc G hn32 _ hgw og).mono ?_
    rintro e w4 ⟨⟨TA, tc, rfl, ot⟩, hw3⟩
    replace ba := ba.wr hw3 og (by decide)
    replace b1 := b1.wr hw3 og (by decide)
    replace hx0 := hw3.ext hx0 og
    clear og hw3 hgb hgw hw12
    go_upto_region 4 with (fail)
    have xg : Ext w4 (w4.alloc (.cells #[.slice TA N tc] 80)) := (Ext.refl _).alloc _
    have bm := Blk.new w4 #[.slice TA N tc] 80
    obtain ⟨w5, hw5⟩ : ∃ v : World, v = w4.alloc (.cells #[.slice TA N tc] 80) := ⟨_, rfl⟩
    obtain ⟨pm, hpm⟩ : ∃ pm, pm = w4.heap.size := ⟨_, rfl⟩
    rw [← hw5] at xg
    rw [← hw5, ← hpm] at bm
    rw [← hw5, ← hpm]
    clear hw5 hpm
    replace ba := ba.ext xg
    replace b1 := b1.ext xg
    replace hx0 := hx0.trans xg
    replace ot := ot.ext xg
    clear xg
    have c0 := ba.cell 0 rfl
    have c1 := ba.cell 1 rfl
    have c2 := ba.cell 2 rfl
    have c3 := ba.cell 3 rfl
    go_wp2_with fail
    refine (rootAt_any 82 _ (enters_of Try.func82 (by kernel_rfl) rfl) N A n ca B m cb V p cv st co va (trB G) HSP.out _ (hr.below hx0) (hq.below hx0) (hv.below hx0) ?_).mono ?_
    · intro a b W ha hb hW
      exact root1_any N G hn32 TA tc pm a b ha (by omega) W (hW.cell (bm.cell 0 rfl)) (ot.reads.below hW)
    rw [← HV.out, ← HD.out]
    rintro e w6 ⟨A'', kA, B'', kB, V'', kV, rfl, p1, p2, p3, n12, n13, n23, hx⟩
    clear c0 c1 c2 c3 ot ba bm
    replace p1 := p1.base hx0.size
    replace p2 := p2.base hx0.size
    replace p3 := p3.base hx0.size
    replace b1 := b1.ext hx
    replace hx0 := hx0.trans hx
    clear hx
    have y0 := b1.cell 0 rfl
    have y1 := b1.cell 1 rfl
    have y2 := b1.cell 2 rfl
    have y3 := b1.cell 3 rfl
    have f0 := b1.free 0
    have f1 := b1.free 1
    have f2 := b1.free 2
    have f3 := b1.free 3
    have hq0 := b1.lt
    go_wp2_with fail
    have d0 := b1.set 0 (.int .i64 D.sd)
    have d1 := d0.set 1 (.slice A'' D.st.length kA)
    have d2 := d1.set 2 (.slice B'' D.co.length kB)
    have d3 := d2.set 3 (.slice V'' D.va.length kV)
    have q1 := ((((p1.setBlk b1 (by decide) 0 (.int .i64 D.sd)).setBlk d0 (by decide) 1 (.slice A'' D.st.length kA)).setBlk d1 (by decide) 2 (.slice B'' D.co.length kB)).setBlk d2 (by decide) 3 (.slice V'' D.va.length kV))
    have q2 := ((((p2.setBlk b1 (by decide) 0 (.int .i64 D.sd)).setBlk d0 (by decide) 1 (.slice A'' D.st.length kA)).setBlk d1 (by decide) 2 (.slice B'' D.co.length kB)).setBlk d2 (by decide) 3 (.slice V'' D.va.length kV))
    have q3 := ((((p3.setBlk b1 (by decide) 0 (.int .i64 D.sd)).setBlk d0 (by decide) 1 (.slice A'' D.st.length kA)).setBlk d1 (by decide) 2 (.slice B'' D.co.length kB)).setBlk d2 (by decide) 3 (.slice V'' D.va.length kV))
    have x2 := ((((hx0.set (p := ⟨w.heap.size + 1, 0, none⟩) (by simp; try omega) (.int .i64 D.sd)).set (p := ⟨w.heap.size + 1, 1, none⟩) (by simp; try omega) (.slice A'' D.st.length kA)).set (p := ⟨w.heap.size + 1, 2, none⟩) (by simp; try omega) (.slice B'' D.co.length kB)).set (p := ⟨w.heap.size + 1, 3, none⟩) (by simp; try omega) (.slice V'' D.va.length kV))
    have r0 := d3.cell 0 rfl
    have r1 := d3.cell 1 rfl
    have r2 := d3.cell 2 rfl
    have r3 := d3.cell 3 rfl
    refine bodyPost_ret (v := .tuple #[.agg #[.int .i64 D.sd, .slice A'' D.st.length kA, .slice B'' D.co.length kB, .slice V'' D.va.length kV], .bool D.ok]) (by simp only [results, Try.results23]; simp [go_sem, r0, r1, r2, r3]) rfl ?_
    exact ⟨A'', kA, B'', kB, V'', kV, rfl, q1, q2, q3, n12, n13, n23, x2⟩

end Go.Proofs.Ytkifpligpobiaaa
