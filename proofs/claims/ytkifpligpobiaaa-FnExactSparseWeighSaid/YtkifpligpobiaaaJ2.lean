
/- SparseMul, the reference. -/

import Derived.Test.YtkifpligpobiaaaJ1
set_option linter.unusedVariables false
set_option linter.unusedSimpArgs false

namespace Go.Proofs.Ytkifpligpobiaaa

open Go.RowKit


theorem acc_tb {n : Nat} {M : Sqr} {i j : Nat} {v : Option Nat} (hi : i < n) (hj : j < n) : (tb n M).set (i * n + j) true = tb n (accM M i j v) :=
  tb_set hi hj (by unfold accM; rw [updM_same]; rfl) (fun a b h => by unfold accM; rw [updM_other _ h])
theorem acc_nb {n : Nat} {M : Sqr} {i j : Nat} {v x : Option Nat} (hi : i < n) (hj : j < n) (hx : x = fadd ((M i j).getD (some 0)) v) : (nb n M).set (i * n + j) x = nb n (accM M i j v) :=
  nb_set hi hj (by unfold accM; rw [updM_same, hx]; rfl) (fun a b h => by unfold accM; rw [updM_other _ h])

set_option maxRecDepth 20000 in
set_option maxHeartbeats 8000000 in
theorem specSparseMul_any (sd : Int) (A : Option Addr) (n ca : Nat) (B : Option Addr) (m cb : Nat) (V : Option Addr) (p cv : Nat) (sd' : Int) (A' : Option Addr) (n' ca' : Nat) (B' : Option Addr) (m' cb' : Nat) (V' : Option Addr) (p' cv' : Nat)  (st co : List Int) (va : List Nat) (st' co' : List Int) (va' : List Nat) (w : World) (hr : Rds w A n (ints st)) (hq : Rds w B m (ints co)) (hv : Rds w V p (flts va)) (hr' : Rds w A' n' (ints st')) (hq' : Rds w B' m' (ints co')) (hv' : Rds w V' p' (flts va')) :
    Calls Try.prog 55 #[.agg #[.int .i64 sd, .slice A n ca, .slice B m cb, .slice V p cv], .agg #[.int .i64 sd', .slice A' n' ca', .slice B' m' cb', .slice V' p' cv']] w (RetSqB w (mulD sd sd'  st co va st' co' va')) := by
  have HM := Lib.hid hq.ilen
  have HM' := Lib.hid hq'.ilen
  cases hs : isSp sd st co va with
  | false =>
    have hd : mulD sd sd'  st co va st' co' va' = SD.bad := by unfold mulD; rw [hs]; rfl
    go_enter Try.func55, Try.ntmps55
    go_upto_region 1 with (fail)
    obtain ⟨w0, hw0⟩ : ∃ w0, w0 = (((w.alloc (.cells #[.int .i64 sd, .slice A n ca, .slice B m cb, .slice V p cv] 27)).alloc (.cells #[.int .i64 sd', .slice A' n' ca', .slice B' m' cb', .slice V' p' cv'] 27)).alloc (.cells #[.int .i64 0, .slice none 0 0, .slice none 0 0, .slice none 0 0] 27)) := ⟨_, rfl⟩
    have hx0 : Ext w w0 := by subst hw0; exact (((Ext.refl _).alloc _).alloc _).alloc _
    have ba : Blk w0 (w.heap.size) #[.int .i64 sd, .slice A n ca, .slice B m cb, .slice V p cv] 27 := by subst hw0; exact (Blk.new w _ _).ext (((Ext.refl _).alloc _).alloc _)
    have bb : Blk w0 (w.heap.size + 1) #[.int .i64 sd', .slice A' n' ca', .slice B' m' cb', .slice V' p' cv'] 27 := by subst hw0; simpa using (Blk.new (w.alloc (.cells #[.int .i64 sd, .slice A n ca, .slice B m cb, .slice V p cv] 27)) _ _).ext ((Ext.refl _).alloc _)
    have b1 : Blk w0 (w.heap.size + 1 + 1) #[.int .i64 0, .slice none 0 0, .slice none 0 0, .slice none 0 0] 27 := by subst hw0; simpa using (Blk.new ((w.alloc (.cells #[.int .i64 sd, .slice A n ca, .slice B m cb, .slice V p cv] 27)).alloc (.cells #[.int .i64 sd', .slice A' n' ca', .slice B' m' cb', .slice V' p' cv'] 27)) _ _)
    rw [← hw0]
    clear hw0
    go_wp2_with fail
    refine (l05Is_any _ sd A n ca B m cb V p cv st co va _ (SAt.of ba (hr.below hx0) (hq.below hx0) (hv.below hx0))).mono ?_
    rintro e w1 ⟨rfl, hx⟩
    rw [hs]
    replace ba := ba.ext hx
    replace bb := bb.ext hx
    replace b1 := b1.ext hx
    replace hx0 := hx0.trans hx
    clear hx
    have y0 := b1.cell 0 rfl
    have y1 := b1.cell 1 rfl
    have y2 := b1.cell 2 rfl
    have y3 := b1.cell 3 rfl
    have f0 := b1.free 0
    have f1 := b1.free 1
    have f2 := b1.free 2
    have f3 := b1.free 3
    have hq0 := b1.lt
    go_wp2_with fail
    have d0 := b1.set 0 (.int .i64 0)
    have d1 := d0.set 1 (.slice none 0 0)
    have d2 := d1.set 2 (.slice none 0 0)
    have d3 := d2.set 3 (.slice none 0 0)
    have x2 := ((((hx0.set (p := ⟨w.heap.size + 1 + 1, 0, none⟩) (by simp; try omega) (.int .i64 0)).set (p := ⟨w.heap.size + 1 + 1, 1, none⟩) (by simp; try omega) (.slice none 0 0)).set (p := ⟨w.heap.size + 1 + 1, 2, none⟩) (by simp; try omega) (.slice none 0 0)).set (p := ⟨w.heap.size + 1 + 1, 3, none⟩) (by simp; try omega) (.slice none 0 0))
    have r0 := d3.cell 0 rfl
    have r1 := d3.cell 1 rfl
    have r2 := d3.cell 2 rfl
    have r3 := d3.cell 3 rfl
    refine bodyPost_ret (v := .tuple #[.agg #[.int .i64 0, .slice none 0 0, .slice none 0 0, .slice none 0 0], .bool false]) (by simp only [results, Try.results55]; simp [go_sem, r0, r1, r2, r3]) rfl (RetSqB.bad hd rfl x2)
  | true =>
    cases hs' : isSp sd' st' co' va' with
    | false =>
      have hd : mulD sd sd'  st co va st' co' va' = SD.bad := by unfold mulD; rw [hs, hs']; rfl
      go_enter Try.func55, Try.ntmps55
      go_upto_region 1 with (fail)
      obtain ⟨w0, hw0⟩ : ∃ w0, w0 = (((w.alloc (.cells #[.int .i64 sd, .slice A n ca, .slice B m cb, .slice V p cv] 27)).alloc (.cells #[.int .i64 sd', .slice A' n' ca', .slice B' m' cb', .slice V' p' cv'] 27)).alloc (.cells #[.int .i64 0, .slice none 0 0, .slice none 0 0, .slice none 0 0] 27)) := ⟨_, rfl⟩
      have hx0 : Ext w w0 := by subst hw0; exact (((Ext.refl _).alloc _).alloc _).alloc _
      have ba : Blk w0 (w.heap.size) #[.int .i64 sd, .slice A n ca, .slice B m cb, .slice V p cv] 27 := by subst hw0; exact (Blk.new w _ _).ext (((Ext.refl _).alloc _).alloc _)
      have bb : Blk w0 (w.heap.size + 1) #[.int .i64 sd', .slice A' n' ca', .slice B' m' cb', .slice V' p' cv'] 27 := by subst hw0; simpa using (Blk.new (w.alloc (.cells #[.int .i64 sd, .slice A n ca, .slice B m cb, .slice V p cv] 27)) _ _).ext ((Ext.refl _).alloc _)
      have b1 : Blk w0 (w.heap.size + 1 + 1) #[.int .i64 0, .slice none 0 0, .slice none 0 0, .slice none 0 0] 27 := by subst hw0; simpa using (Blk.new ((w.alloc (.cells #[.int .i64 sd, .slice A n ca, .slice B m cb, .slice V p cv] 27)).alloc (.cells #[.int .i64 sd', .slice A' n' ca', .slice B' m' cb', .slice V' p' cv'] 27)) _ _)
      rw [← hw0]
      clear hw0
      go_wp2_with fail
      refine (l05Is_any _ sd A n ca B m cb V p cv st co va _ (SAt.of ba (hr.below hx0) (hq.below hx0) (hv.below hx0))).mono ?_
      rintro e w1 ⟨rfl, hx⟩
      rw [hs]
      replace ba := ba.ext hx
      replace bb := bb.ext hx
      replace b1 := b1.ext hx
      replace hx0 := hx0.trans hx
      clear hx
      go_wp2_with fail
      refine (l05Is_any _ sd' A' n' ca' B' m' cb' V' p' cv' st' co' va' _ (SAt.of bb (hr'.below hx0) (hq'.below hx0) (hv'.below hx0))).mono ?_
      rintro e w2 ⟨rfl, hx⟩
      rw [hs']
      replace ba := ba.ext hx
      replace bb := bb.ext hx
      replace b1 := b1.ext hx
      replace hx0 := hx0.trans hx
      clear hx
      have y0 := b1.cell 0 rfl
      have y1 := b1.cell 1 rfl
      have y2 := b1.cell 2 rfl
      have y3 := b1.cell 3 rfl
      have f0 := b1.free 0
      have f1 := b1.free 1
      have f2 := b1.free 2
      have f3 := b1.free 3
      have hq0 := b1.lt
      go_wp2_with fail
      have d0 := b1.set 0 (.int .i64 0)
      have d1 := d0.set 1 (.slice none 0 0)
      have d2 := d1.set 2 (.slice none 0 0)
      have d3 := d2.set 3 (.slice none 0 0)
      have x2 := ((((hx0.set (p := ⟨w.heap.size + 1 + 1, 0, none⟩) (by simp; try omega) (.int .i64 0)).set (p := ⟨w.heap.size + 1 + 1, 1, none⟩) (by simp; try omega) (.slice none 0 0)).set (p := ⟨w.heap.size + 1 + 1, 2, none⟩) (by simp; try omega) (.slice none 0 0)).set (p := ⟨w.heap.size + 1 + 1, 3, none⟩) (by simp; try omega) (.slice none 0 0))
      have r0 := d3.cell 0 rfl
      have r1 := d3.cell 1 rfl
      have r2 := d3.cell 2 rfl
      have r3 := d3.cell 3 rfl
      refine bodyPost_ret (v := .tuple #[.agg #[.int .i64 0, .slice none 0 0, .slice none 0 0, .slice none 0 0], .bool false]) (by simp only [results, Try.results55]; simp [go_sem, r0, r1, r2, r3]) rfl (RetSqB.bad hd rfl x2)
    | true =>
      by_cases hss : sd = sd'
      rotate_left
      · have hd : mulD sd sd'  st co va st' co' va' = SD.bad := by unfold mulD; rw [hs, hs', decide_eq_false hss]; rfl
        have hse : (sd != sd') = true := by simpa using hss
        go_enter Try.func55, Try.ntmps55
        go_upto_region 1 with (fail)
        obtain ⟨w0, hw0⟩ : ∃ w0, w0 = (((w.alloc (.cells #[.int .i64 sd, .slice A n ca, .slice B m cb, .slice V p cv] 27)).alloc (.cells #[.int .i64 sd', .slice A' n' ca', .slice B' m' cb', .slice V' p' cv'] 27)).alloc (.cells #[.int .i64 0, .slice none 0 0, .slice none 0 0, .slice none 0 0] 27)) := ⟨_, rfl⟩
        have hx0 : Ext w w0 := by subst hw0; exact (((Ext.refl _).alloc _).alloc _).alloc _
        have ba : Blk w0 (w.heap.size) #[.int .i64 sd, .slice A n ca, .slice B m cb, .slice V p cv] 27 := by subst hw0; exact (Blk.new w _ _).ext (((Ext.refl _).alloc _).alloc _)
        have bb : Blk w0 (w.heap.size + 1) #[.int .i64 sd', .slice A' n' ca', .slice B' m' cb', .slice V' p' cv'] 27 := by subst hw0; simpa using (Blk.new (w.alloc (.cells #[.int .i64 sd, .slice A n ca, .slice B m cb, .slice V p cv] 27)) _ _).ext ((Ext.refl _).alloc _)
        have b1 : Blk w0 (w.heap.size + 1 + 1) #[.int .i64 0, .slice none 0 0, .slice none 0 0, .slice none 0 0] 27 := by subst hw0; simpa using (Blk.new ((w.alloc (.cells #[.int .i64 sd, .slice A n ca, .slice B m cb, .slice V p cv] 27)).alloc (.cells #[.int .i64 sd', .slice A' n' ca', .slice B' m' cb', .slice V' p' cv'] 27)) _ _)
        rw [← hw0]
        clear hw0
        go_wp2_with fail
        refine (l05Is_any _ sd A n ca B m cb V p cv st co va _ (SAt.of ba (hr.below hx0) (hq.below hx0) (hv.below hx0))).mono ?_
        rintro e w1 ⟨rfl, hx⟩
        rw [hs]
        replace ba := ba.ext hx
        replace bb := bb.ext hx
        replace b1 := b1.ext hx
        replace hx0 := hx0.trans hx
        clear hx
        go_wp2_with fail
        refine (l05Is_any _ sd' A' n' ca' B' m' cb' V' p' cv' st' co' va' _ (SAt.of bb (hr'.below hx0) (hq'.below hx0) (hv'.below hx0))).mono ?_
        rintro e w2 ⟨rfl, hx⟩
        rw [hs']
        replace ba := ba.ext hx
        replace bb := bb.ext hx
        replace b1 := b1.ext hx
        replace hx0 := hx0.trans hx
        clear hx
        have c0 := ba.cell 0 rfl
        have d0 := bb.cell 0 rfl
        have y0 := b1.cell 0 rfl
        have y1 := b1.cell 1 rfl
        have y2 := b1.cell 2 rfl
        have y3 := b1.cell 3 rfl
        have f0 := b1.free 0
        have f1 := b1.free 1
        have f2 := b1.free 2
        have f3 := b1.free 3
        have hq0 := b1.lt
        go_wp2_with fail
        have d0 := b1.set 0 (.int .i64 0)
        have d1 := d0.set 1 (.slice none 0 0)
        have d2 := d1.set 2 (.slice none 0 0)
        have d3 := d2.set 3 (.slice none 0 0)
        have x2 := ((((hx0.set (p := ⟨w.heap.size + 1 + 1, 0, none⟩) (by simp; try omega) (.int .i64 0)).set (p := ⟨w.heap.size + 1 + 1, 1, none⟩) (by simp; try omega) (.slice none 0 0)).set (p := ⟨w.heap.size + 1 + 1, 2, none⟩) (by simp; try omega) (.slice none 0 0)).set (p := ⟨w.heap.size + 1 + 1, 3, none⟩) (by simp; try omega) (.slice none 0 0))
        have r0 := d3.cell 0 rfl
        have r1 := d3.cell 1 rfl
        have r2 := d3.cell 2 rfl
        have r3 := d3.cell 3 rfl
        refine bodyPost_ret (v := .tuple #[.agg #[.int .i64 0, .slice none 0 0, .slice none 0 0, .slice none 0 0], .bool false]) (by simp only [results, Try.results55]; simp [go_sem, r0, r1, r2, r3]) rfl (RetSqB.bad hd rfl x2)
      · subst hss
        have hse : (sd != sd) = false := by simp
        have hsp := isSp_iff.1 hs
        have hsp' := isSp_iff.1 hs'
        obtain ⟨N, rfl⟩ : ∃ N : Nat, sd = N := ⟨sd.toNat, by have := hsp.s1; omega⟩
        have hn1 : 1 ≤ N := by have := hsp.s1; omega
        have hn32 : N ≤ 32 := by have := hsp.s1; omega
        have HSP := Lib.hid hsp
        have HSP' := Lib.hid hsp'
        clear hsp hsp'
        have hd : mulD N N  st co va st' co' va' = giveSp N (mulAll st co va st' co' va' N) := by unfold mulD; rw [hs, hs']; (try rw [HM.out]); (try rw [HM'.out]); simp
        obtain ⟨D, hD⟩ : ∃ D, D = mulD N N  st co va st' co' va' := ⟨_, rfl⟩
        rw [← hD]
        rw [← hD] at hd
        have HD := Lib.hid hd
        clear hd hD
        go_enter Try.func55, Try.ntmps55
        go_upto_region 1 with (fail)
        obtain ⟨w0, hw0⟩ : ∃ w0, w0 = (((w.alloc (.cells #[.int .i64 N, .slice A n ca, .slice B m cb, .slice V p cv] 27)).alloc (.cells #[.int .i64 N, .slice A' n' ca', .slice B' m' cb', .slice V' p' cv'] 27)).alloc (.cells #[.int .i64 0, .slice none 0 0, .slice none 0 0, .slice none 0 0] 27)) := ⟨_, rfl⟩
        have hx0 : Ext w w0 := by subst hw0; exact (((Ext.refl _).alloc _).alloc _).alloc _
        have ba : Blk w0 (w.heap.size) #[.int .i64 N, .slice A n ca, .slice B m cb, .slice V p cv] 27 := by subst hw0; exact (Blk.new w _ _).ext (((Ext.refl _).alloc _).alloc _)
        have bb : Blk w0 (w.heap.size + 1) #[.int .i64 N, .slice A' n' ca', .slice B' m' cb', .slice V' p' cv'] 27 := by subst hw0; simpa using (Blk.new (w.alloc (.cells #[.int .i64 N, .slice A n ca, .slice B m cb, .slice V p cv] 27)) _ _).ext ((Ext.refl _).alloc _)
        have b1 : Blk w0 (w.heap.size + 1 + 1) #[.int .i64 0, .slice none 0 0, .slice none 0 0, .slice none 0 0] 27 := by subst hw0; simpa using (Blk.new ((w.alloc (.cells #[.int .i64 N, .slice A n ca, .slice B m cb, .slice V p cv] 27)).alloc (.cells #[.int .i64 N, .slice A' n' ca', .slice B' m' cb', .slice V' p' cv'] 27)) _ _)
        rw [← hw0]
        clear hw0
        go_wp2_with fail
        refine (l05Is_any _ N A n ca B m cb V p cv st co va _ (SAt.of ba (hr.below hx0) (hq.below hx0) (hv.below hx0))).mono ?_
        rintro e w1 ⟨rfl, hx⟩
        rw [hs]
        replace ba := ba.ext hx
        replace bb := bb.ext hx
        replace b1 := b1.ext hx
        replace hx0 := hx0.trans hx
        clear hx
        go_wp2_with fail
        refine (l05Is_any _ N A' n' ca' B' m' cb' V' p' cv' st' co' va' _ (SAt.of bb (hr'.below hx0) (hq'.below hx0) (hv'.below hx0))).mono ?_
        rintro e w2 ⟨rfl, hx⟩
        rw [hs']
        replace ba := ba.ext hx
        replace bb := bb.ext hx
        replace b1 := b1.ext hx
        replace hx0 := hx0.trans hx
        clear hx
        have c0 := ba.cell 0 rfl
        have d0 := bb.cell 0 rfl
        have hn' : N + 1 ≤ n := by have := HSP.out.s2; rw [hr.ilen] at this; omega
        have hn'' : N + 1 ≤ n' := by have := HSP'.out.s2; rw [hr'.ilen] at this; omega
        have HPM : Hid (p = m) := by have := HSP.out.s4; rw [hv.flen, hq.ilen] at this; exact this
        have HPM' : Hid (p' = m') := by have := HSP'.out.s4; rw [hv'.flen, hq'.ilen] at this; exact this
        have hm512 : m ≤ 512 := by have := HSP.out.s3; rw [hq.ilen] at this; exact this
        have hm512' : m' ≤ 512 := by have := HSP'.out.s3; rw [hq'.ilen] at this; exact this
        have B0 := ba.cell 0 rfl
        have B1 := ba.cell 1 rfl
        have B2 := ba.cell 2 rfl
        have B3 := ba.cell 3 rfl
        have E1 := bb.cell 1 rfl
        have E2 := bb.cell 2 rfl
        have E3 := bb.cell 3 rfl
        obtain ⟨NN, hNN⟩ : ∃ NN, NN = N * N := ⟨_, rfl⟩
        have HN := Lib.hid hNN
        have hNN1 : 1 ≤ NN := by rw [hNN]; exact Nat.mul_pos hn1 hn1
        clear hNN
        go_wp2_with fail
        refine (l05Blank_any N hn32 _).mono ?_
        rintro e w3 ⟨T, k2, U, q2, ys, rfl, hy, o1, o2, hx⟩
        rw [← HN.out] at o1 o2
        rw [← HN.out]
        go_upto_region 4 with (fail)
        have hst : FU w2 w3.heap.size N NN (mulAll st co va st' co' va' 0) (mulAll st co va st' co' va' 0) (w3.alloc (.cells #[.int .i64 N, .slice T NN k2, .slice U NN q2] 71)) :=
          ⟨T, k2, U, q2, ys, hy, Blk.new _ _ _, o1.ext ((Ext.refl _).alloc _), o2.ext ((Ext.refl _).alloc _), hx.alloc _⟩
        obtain ⟨w4, hw4⟩ : ∃ v : World, v = w3.alloc (.cells #[.int .i64 N, .slice T NN k2, .slice U NN q2] 71) := ⟨_, rfl⟩
        obtain ⟨fb, hfb⟩ : ∃ fb, fb = w3.heap.size := ⟨_, rfl⟩
        rw [← hw4, ← hfb] at hst
        rw [← hw4, ← hfb]
        clear hw4 hfb o1 o2 hx hy c0 d0
        go_wp2_with fail
        go_loopw [7] (fun u wr => ∃ i : Nat, i ≤ N ∧ u = .int .i64 i ∧ FU w2 fb N NN (mulAll st co va st' co' va' i) (mulAll st co va st' co' va' i) wr) (fun u _ => N - (intOf u).toNat)
        case atStart => exact ⟨0, Nat.zero_le _, rfl, hst⟩
        case round =>
          rename World => wA
          clear hst
          obtain ⟨i, hi, rfl, hst⟩ := hrel
          have xA : Ext w2 wA := by obtain ⟨_, _, _, _, _, _, _, _, _, h4⟩ := hst; exact h4
          have c0 := xA.cell B0
          have c1 := xA.cell B1
          by_cases hlt : i < N
          · have g1 : IntKind.i64.wrap ((i : Int) + 1) = (i : Int) + 1 := IntWalk.i64_in _ (by omega)
            have r0 := HSP.out.range (i := i) (by omega)
            have r1 := HSP.out.range (i := i + 1) (by omega)
            have e1 : ((i + 1 : Nat) : Int) = (i : Int) + 1 := by omega
            rw [HM.out] at r0 r1
            rw [e1] at r1
            have hup : rd st i ≤ rd st ((i : Int) + 1) := HSP.out.s8 i (by omega)
            obtain ⟨s0, hs0⟩ : ∃ s0 : Nat, rd st i = s0 := ⟨(rd st i).toNat, by omega⟩
            obtain ⟨s1, hs1⟩ : ∃ s1 : Nat, rd st ((i : Int) + 1) = s1 := ⟨(rd st ((i : Int) + 1)).toNat, by omega⟩
            rw [hs0] at r0 hup
            rw [hs1] at r1 hup
            have HS0 := Lib.hid hs0
            have HS1 := Lib.hid hs1
            clear hs0 hs1 e1

            obtain ⟨ad, rfl, hc⟩ := (hr.below (hx0.trans xA)).int i (by omega) (by omega)
            rw [HS0.out, Int.toNat_natCast] at hc
            have f2 : (i : Int) < n := by omega
            have f3 : (i : Int) + 1 < n := by omega
            have f1 : (i : Int) < N := by omega
            obtain ⟨M0, hM0⟩ : ∃ M0, M0 = mulAll st co va st' co' va' i := ⟨_, rfl⟩
            rw [← hM0] at hst
            have HNX : Hid (mulAll st co va st' co' va' (i + 1) = mulRow i co va st' co' va' s0 (s1 - s0) M0) := by
              show mulRow i co va st' co' va' (rd st (i : Int)).toNat ((rd st ((i : Int) + 1)).toNat - (rd st (i : Int)).toNat) (mulAll st co va st' co' va' i) = _
              rw [HS0.out, HS1.out, Int.toNat_natCast, Int.toNat_natCast, hM0]
            clear hM0
            go_wp2_with fail
            go_loopw [8] (fun u wr => ∃ k : Nat, s0 ≤ k ∧ k ≤ s1 ∧ u = .int .i64 k ∧ FU w2 fb N NN (mulRow i co va st' co' va' s0 (k - s0) M0) (mulRow i co va st' co' va' s0 (k - s0) M0) wr) (fun u _ => s1 - (intOf u).toNat)
            case atStart => exact ⟨s0, Nat.le_refl _, by omega, rfl, by rw [Nat.sub_self]; exact hst⟩
            case round =>
              rename World => wB
              clear hst hc c0 c1 xA
              obtain ⟨k, hk0, hk1, rfl, hst⟩ := hrel
              have xB : Ext w2 wB := by obtain ⟨_, _, _, _, _, _, _, _, _, h4⟩ := hst; exact h4
              have c1 := xB.cell B1
              have c2 := xB.cell B2
              have d1 := xB.cell E1
              obtain ⟨ad', had, hc1⟩ := (hr.below (hx0.trans xB)).int ((i : Int) + 1) (by omega) (by omega)
              obtain rfl := Option.some.inj had
              clear had
              rw [HS1.out, show ((i : Int) + 1).toNat = i + 1 by omega, Addr.add_succ'] at hc1
              by_cases hlk : k < s1
              · have hlk' : (k : Int) < s1 := by omega
                have hkm : k < m := by omega
                have hkm' : (k : Int) < m := by omega
                have hkp : k < p := by rw [HPM.out]; exact hkm
                have hkp' : (k : Int) < p := by omega
                have g4 : IntKind.i64.wrap ((k : Int) + 1) = (k : Int) + 1 := IntWalk.i64_in _ (by omega)
                have hcr := HSP.out.s9 k (by rw [HM.out]; exact hkm)
                obtain ⟨j, hj⟩ : ∃ j : Nat, rd co k = j := ⟨(rd co k).toNat, by omega⟩
                rw [hj] at hcr
                have HJ := Lib.hid hj
                have hjn : j < N := by omega
                obtain ⟨adc, rfl, hd⟩ := (hq.below (hx0.trans xB)).intN k hkm
                rw [hj] at hd
                obtain ⟨adv, rfl, he⟩ := (hv.below (hx0.trans xB)).fltN k hkp
                obtain ⟨x, hxv⟩ : ∃ x, x = rdf va k := ⟨_, rfl⟩
                rw [← hxv] at he
                have HX := Lib.hid hxv
                clear hj hxv
                have r0b := HSP'.out.range (i := j) (by omega)
                have r1b := HSP'.out.range (i := j + 1) (by omega)
                have e1b : ((j + 1 : Nat) : Int) = (j : Int) + 1 := by omega
                rw [HM'.out] at r0b r1b
                rw [e1b] at r1b
                have hupb : rd st' j ≤ rd st' ((j : Int) + 1) := HSP'.out.s8 j (by omega)
                obtain ⟨q0, hs0b⟩ : ∃ q0 : Nat, rd st' j = q0 := ⟨(rd st' j).toNat, by omega⟩
                obtain ⟨q1, hs1b⟩ : ∃ q1 : Nat, rd st' ((j : Int) + 1) = q1 := ⟨(rd st' ((j : Int) + 1)).toNat, by omega⟩
                rw [hs0b] at r0b hupb
                rw [hs1b] at r1b hupb
                have HS0b := Lib.hid hs0b
                have HS1b := Lib.hid hs1b
                clear hs0b hs1b e1b

                obtain ⟨adb, rfl, hcb⟩ := (hr'.below (hx0.trans xB)).int j (by omega) (by omega)
                rw [HS0b.out, Int.toNat_natCast] at hcb
                have f2b : (j : Int) < n' := by omega
                have f3b : (j : Int) + 1 < n' := by omega
                have g5 : IntKind.i64.wrap ((j : Int) + 1) = (j : Int) + 1 := IntWalk.i64_in _ (by omega)
                have HONE : Hid (mulRow i co va st' co' va' s0 (k + 1 - s0) M0 = mulIn i (c32 x) co' va' q0 (q1 - q0) (mulRow i co va st' co' va' s0 (k - s0) M0)) := by
                  show _ = _
                  rw [mulRow_next _ hk0]
                  unfold mulOne
                  rw [HJ.out, HS0b.out, HS1b.out, Int.toNat_natCast, Int.toNat_natCast, HX.out]
                obtain ⟨M1, hM1⟩ : ∃ M1, M1 = mulRow i co va st' co' va' s0 (k - s0) M0 := ⟨_, rfl⟩
                rw [← hM1] at hst HONE
                clear hM1
                go_wp2_with fail
                go_loopw [10] (fun u wr => ∃ l : Nat, q0 ≤ l ∧ l ≤ q1 ∧ u = .int .i64 l ∧ FU w2 fb N NN (mulIn i (c32 x) co' va' q0 (l - q0) M1) (mulIn i (c32 x) co' va' q0 (l - q0) M1) wr) (fun u _ => q1 - (intOf u).toNat)
                case atStart => exact ⟨q0, Nat.le_refl _, by omega, rfl, by rw [Nat.sub_self]; exact hst⟩
                case round =>
                  rename World => wC
                  clear hst hc1 c1 c2 d1 xB hd he hcb
                  obtain ⟨l, hl0, hl1, rfl, hst⟩ := hrel
                  have xC : Ext w2 wC := by obtain ⟨_, _, _, _, _, _, _, _, _, h4⟩ := hst; exact h4
                  have d1 := xC.cell E1
                  obtain ⟨ad', had, hcb1⟩ := (hr'.below (hx0.trans xC)).int ((j : Int) + 1) (by omega) (by omega)
                  obtain rfl := Option.some.inj had
                  clear had
                  rw [HS1b.out, show ((j : Int) + 1).toNat = j + 1 by omega, Addr.add_succ'] at hcb1
                  by_cases hll : l < q1
                  · have hll' : (l : Int) < q1 := by omega
                    have hlm : l < m' := by omega
                    have hlm' : (l : Int) < m' := by omega
                    have hlp : l < p' := by rw [HPM'.out]; exact hlm
                    have hlp' : (l : Int) < p' := by omega
                    have g6 : IntKind.i64.wrap ((l : Int) + 1) = (l : Int) + 1 := IntWalk.i64_in _ (by omega)
                    have hcr2 := HSP'.out.s9 l (by rw [HM'.out]; exact hlm)
                    obtain ⟨c, hc⟩ : ∃ c : Nat, rd co' l = c := ⟨(rd co' l).toNat, by omega⟩
                    rw [hc] at hcr2
                    have hcN : c < N := by omega
                    obtain ⟨ade, rfl, hde⟩ := (hq'.below (hx0.trans xC)).intN l hlm
                    rw [hc] at hde
                    obtain ⟨adw, rfl, hew⟩ := (hv'.below (hx0.trans xC)).fltN l hlp
                    obtain ⟨y, hyv⟩ : ∃ y, y = rdf va' l := ⟨_, rfl⟩
                    rw [← hyv] at hew
                    have HIN : Hid (mulIn i (c32 x) co' va' q0 (l + 1 - q0) M1 = accM (mulIn i (c32 x) co' va' q0 (l - q0) M1) i c (fmul (c32 x) (c32 y))) := by show _ = _; rw [mulIn_next _ hl0, hc, hyv, Int.toNat_natCast]
                    have HYV := Lib.hid hyv
                    clear hc hyv
                    obtain ⟨i1, i2, i3, i4, i5, i6⟩ := ix32 hlt hcN hn32
                    rw [← HN.out] at i4 i6
                    have i7 : i * N + c < NN := by omega
                    obtain ⟨M2, hM2⟩ : ∃ M2, M2 = mulIn i (c32 x) co' va' q0 (l - q0) M1 := ⟨_, rfl⟩
                    rw [← hM2] at hst HIN
                    clear hM2
                    have c0 := xC.cell B0
                    have d2 := xC.cell E2
                    go_wp2_with fail
                    refine wp_region_T (cs := []) [0, 1, 2, 3, 4, 5, 6, 7, 8, 9, 10] [] [] [] (fun _ _ => False) (fun _ _ _ => True) (by kernel_rfl) (by kernel_rfl) (fun _ _ _ _ _ _ => trivial) ?_
                    refine' wpT_det (o := ⟨some 70, Op.move (Operand.tmp 7), 2, "l05_sparse.go:190", #[], none⟩) rfl (by rfl) (by rfl) (fun w' hw' => ?_) ?_; rotate_left
                    · go_simp <;> first | rfl | exact ⟨rfl, rfl⟩
                    simp only [Act.put, List.setIfInBounds_toArray, List.set_cons_zero, List.set_cons_succ]
                    refine' wpT_det (o := ⟨some 71, Op.fieldAddr 27 (Operand.tmp 2) 0, 0, "l05_sparse.go:190", #[], none⟩) rfl (by rfl) (by rfl) (fun w' hw' => ?_) ?_; rotate_left
                    · go_simp <;> first | rfl | exact ⟨rfl, rfl⟩
                    simp only [Act.put, List.setIfInBounds_toArray, List.set_cons_zero, List.set_cons_succ]
                    refine' wpT_det (o := ⟨some 72, Op.load 2 (Operand.tmp 71), 2, "l05_sparse.go:190", #[{ on := 1, ground := Ground.data }], none⟩) rfl (by rfl) (by rfl) (fun w' hw' => ?_) ?_; rotate_left
                    · have c0_ := Ext.cell hw' c0; have d2_ := Ext.cell hw' d2; have hde_ := Ext.cell hw' hde; go_simp <;> first | rfl | exact ⟨rfl, rfl⟩
                    simp only [Act.put, List.setIfInBounds_toArray, List.set_cons_zero, List.set_cons_succ]
                    refine' wpT_det (o := ⟨some 73, Op.binOp BinOp.mul 2 (Operand.tmp 70) (Operand.tmp 72) 2, 2, "l05_sparse.go:190", #[{ on := 0, ground := Ground.data }, { on := 2, ground := Ground.data }], none⟩) rfl (by rfl) (by rfl) (fun w' hw' => ?_) ?_; rotate_left
                    · go_simp <;> first | rfl | exact ⟨rfl, rfl⟩
                    simp only [Act.put, List.setIfInBounds_toArray, List.set_cons_zero, List.set_cons_succ]
                    refine' wpT_det (o := ⟨some 74, Op.fieldAddr 27 (Operand.tmp 3) 2, 0, "l05_sparse.go:190", #[], none⟩) rfl (by rfl) (by rfl) (fun w' hw' => ?_) ?_; rotate_left
                    · go_simp <;> first | rfl | exact ⟨rfl, rfl⟩
                    simp only [Act.put, List.setIfInBounds_toArray, List.set_cons_zero, List.set_cons_succ]
                    refine' wpT_det (o := ⟨some 75, Op.load 22 (Operand.tmp 74), 22, "l05_sparse.go:190", #[{ on := 4, ground := Ground.data }], none⟩) rfl (by rfl) (by rfl) (fun w' hw' => ?_) ?_; rotate_left
                    · have c0_ := Ext.cell hw' c0; have d2_ := Ext.cell hw' d2; have hde_ := Ext.cell hw' hde; go_simp <;> first | rfl | exact ⟨rfl, rfl⟩
                    simp only [Act.put, List.setIfInBounds_toArray, List.set_cons_zero, List.set_cons_succ]
                    refine' wpT_det (o := ⟨some 76, Op.move (Operand.tmp 10), 2, "l05_sparse.go:190", #[], none⟩) rfl (by rfl) (by rfl) (fun w' hw' => ?_) ?_; rotate_left
                    · go_simp <;> first | rfl | exact ⟨rfl, rfl⟩
                    simp only [Act.put, List.setIfInBounds_toArray, List.set_cons_zero, List.set_cons_succ]
                    refine' wpT_det (o := ⟨some 77, Op.indexAddr 22 (Operand.tmp 75) (Operand.tmp 76), 0, "l05_sparse.go:190", #[{ on := 5, ground := Ground.data }, { on := 6, ground := Ground.data }], none⟩) rfl (by rfl) (by rfl) (fun w' hw' => ?_) ?_; rotate_left
                    · go_simp <;> first | rfl | exact ⟨rfl, rfl⟩
                    simp only [Act.put, List.setIfInBounds_toArray, List.set_cons_zero, List.set_cons_succ]
                    refine' wpT_det (o := ⟨some 78, Op.load 2 (Operand.tmp 77), 2, "l05_sparse.go:190", #[{ on := 7, ground := Ground.data }], none⟩) rfl (by rfl) (by rfl) (fun w' hw' => ?_) ?_; rotate_left
                    · have c0_ := Ext.cell hw' c0; have d2_ := Ext.cell hw' d2; have hde_ := Ext.cell hw' hde; go_simp <;> first | rfl | exact ⟨rfl, rfl⟩
                    simp only [Act.put, List.setIfInBounds_toArray, List.set_cons_zero, List.set_cons_succ]
                    refine' wpT_det (o := ⟨some 79, Op.binOp BinOp.add 2 (Operand.tmp 73) (Operand.tmp 78) 2, 2, "l05_sparse.go:190", #[{ on := 3, ground := Ground.data }, { on := 8, ground := Ground.data }], none⟩) rfl (by rfl) (by rfl) (fun w' hw' => ?_) ?_; rotate_left
                    · go_simp <;> first | rfl | exact ⟨rfl, rfl⟩
                    simp only [Act.put, List.setIfInBounds_toArray, List.set_cons_zero, List.set_cons_succ]
                    refine' wpT_det (o := ⟨some 11, Op.assign (Operand.tmp 79), 2, "l05_sparse.go:190", #[{ on := 9, ground := Ground.data }, { on := 0, ground := Ground.phase }, { on := 1, ground := Ground.phase }, { on := 2, ground := Ground.phase }, { on := 3, ground := Ground.phase }, { on := 4, ground := Ground.phase }, { on := 5, ground := Ground.phase }, { on := 6, ground := Ground.phase }, { on := 7, ground := Ground.phase }, { on := 8, ground := Ground.phase }, { on := 9, ground := Ground.phase }], none⟩) rfl (by rfl) (by rfl) (fun w' hw' => ?_) ?_; rotate_left
                    · go_simp <;> first | rfl | exact ⟨rfl, rfl⟩
                    simp only [Act.put, List.setIfInBounds_toArray, List.set_cons_zero, List.set_cons_succ]
                    refine wpT_nil (fun w5 hw' hF => ?_)
                    refine wpList_nil ?_
                    have hx := hw'.undrew
                    clear hF hw' c0 d1 d2 hcb1 hde hew
                    obtain ⟨T1, k1, U1, q1_, zs, h0, h1, h2, h3, h4⟩ := hst
                    replace h1 := h1.ext hx
                    replace h2 := h2.ext hx
                    replace h3 := h3.ext hx
                    replace h4 := h4.trans hx
                    clear hx xC
                    obtain ⟨g, rfl, _⟩ := h2.head (by omega)
                    have lt := h2.reads.blen
                    obtain ⟨hcb, hf⟩ := h2.at_ (i * N + c) (by omega)
                    rw [bools_get (by omega)] at hcb
                    have hsb := store_bool Try.prog true hcb hf
                    have hm := FU.putT h0 h1 h2 h3 h4 (i * N + c) true (acc_tb (v := fmul (c32 x) (c32 y)) hlt hcN)
                    have z1 : w5.cell? ⟨fb, 1, none⟩ = some (.slice (some ⟨g, 0, none⟩) NN k1) := h1.cell 1 rfl
                    go_upto_region 16 with (fail)
                    obtain ⟨w6, hw6⟩ : ∃ v : World, v = w5.setCell ⟨g, i * N + c, none⟩ (.bool true) := ⟨_, rfl⟩
                    rw [← hw6] at hm ⊢
                    clear hw6 h0 h1 h2 h3 h4 lt hcb hf hsb z1
                    obtain ⟨T1, k1, U1, q1_, zs, h0, h1, h2, h3, h4⟩ := hm
                    have lz := h3.reads.flen
                    obtain ⟨g2, rfl, _⟩ := h3.head (by omega)
                    obtain ⟨hcb, hf⟩ := h3.at_ (i * N + c) (by omega)
                    rw [flts_get (by omega)] at hcb
                    have hnum := nb_at h0 hlt hcN
                    obtain ⟨o, ho⟩ : ∃ o, o = rdf zs ((i * N + c : Nat) : Int) := ⟨_, rfl⟩
                    rw [← ho] at hcb hnum
                    have HNUM := Lib.hid hnum
                    have z2 : w6.cell? ⟨fb, 2, none⟩ = some (.slice (some ⟨g2, 0, none⟩) NN q1_) := h1.cell 2 rfl
                    have c3 := h4.cell B3
                    have d3 := h4.cell E3
                    obtain ⟨adv', had, he⟩ := (hv.below (hx0.trans h4)).fltN k hkp
                    obtain rfl := Option.some.inj had
                    clear had
                    rw [← HX.out] at he
                    obtain ⟨adw', had, hew⟩ := (hv'.below (hx0.trans h4)).fltN l hlp
                    obtain rfl := Option.some.inj had
                    clear had hnum ho hf
                    rw [← HYV.out] at hew
                    refine wp_region_T (cs := []) [0, 1, 2, 3, 4, 5, 6, 7, 8, 9, 10, 11, 12, 13, 14, 15, 16, 17, 18, 19] [20, 21] [18, 19] [] (fun i__ v => match i__ with | 18 => ∃ r, v = .float .f32 r ∧ c32 r = (fmul (c32 x) (c32 y)) | 19 => ∃ r, v = .float .f32 r ∧ c32 r = (fadd ((M2 i c).getD (some 0)) (fmul (c32 x) (c32 y))) | _ => False) (fun _ _ _ => True) (by kernel_rfl) (by kernel_rfl) (fun _ _ _ _ _ _ => trivial) ?_
                    refine' wpT_det (o := ⟨some 84, Op.fieldAddr 71 (Operand.tmp 6) 2, 0, "l05_sparse.go:192", #[], none⟩) rfl (by rfl) (by rfl) (fun w' hw' => ?_) ?_; rotate_left
                    · go_simp <;> first | rfl | exact ⟨rfl, rfl⟩
                    simp only [Act.put, List.setIfInBounds_toArray, List.set_cons_zero, List.set_cons_succ]
                    refine' wpT_det (o := ⟨some 85, Op.load 23 (Operand.tmp 84), 23, "l05_sparse.go:192", #[{ on := 0, ground := Ground.data }], none⟩) rfl (by rfl) (by rfl) (fun w' hw' => ?_) ?_; rotate_left
                    · have z2_ := Ext.cell hw' z2; have c3_ := Ext.cell hw' c3; have d3_ := Ext.cell hw' d3; have hcb_ := Ext.cell hw' hcb; have he_ := Ext.cell hw' he; have hew_ := Ext.cell hw' hew; go_simp <;> first | rfl | exact ⟨rfl, rfl⟩
                    simp only [Act.put, List.setIfInBounds_toArray, List.set_cons_zero, List.set_cons_succ]
                    refine' wpT_det (o := ⟨some 86, Op.move (Operand.tmp 11), 2, "l05_sparse.go:192", #[], none⟩) rfl (by rfl) (by rfl) (fun w' hw' => ?_) ?_; rotate_left
                    · go_simp <;> first | rfl | exact ⟨rfl, rfl⟩
                    simp only [Act.put, List.setIfInBounds_toArray, List.set_cons_zero, List.set_cons_succ]
                    refine' wpT_det (o := ⟨some 87, Op.fieldAddr 71 (Operand.tmp 6) 2, 0, "l05_sparse.go:192", #[], none⟩) rfl (by rfl) (by rfl) (fun w' hw' => ?_) ?_; rotate_left
                    · go_simp <;> first | rfl | exact ⟨rfl, rfl⟩
                    simp only [Act.put, List.setIfInBounds_toArray, List.set_cons_zero, List.set_cons_succ]
                    refine' wpT_det (o := ⟨some 88, Op.load 23 (Operand.tmp 87), 23, "l05_sparse.go:192", #[{ on := 3, ground := Ground.data }], none⟩) rfl (by rfl) (by rfl) (fun w' hw' => ?_) ?_; rotate_left
                    · have z2_ := Ext.cell hw' z2; have c3_ := Ext.cell hw' c3; have d3_ := Ext.cell hw' d3; have hcb_ := Ext.cell hw' hcb; have he_ := Ext.cell hw' he; have hew_ := Ext.cell hw' hew; go_simp <;> first | rfl | exact ⟨rfl, rfl⟩
                    simp only [Act.put, List.setIfInBounds_toArray, List.set_cons_zero, List.set_cons_succ]
                    refine' wpT_det (o := ⟨some 89, Op.move (Operand.tmp 11), 2, "l05_sparse.go:192", #[], none⟩) rfl (by rfl) (by rfl) (fun w' hw' => ?_) ?_; rotate_left
                    · go_simp <;> first | rfl | exact ⟨rfl, rfl⟩
                    simp only [Act.put, List.setIfInBounds_toArray, List.set_cons_zero, List.set_cons_succ]
                    refine' wpT_det (o := ⟨some 90, Op.indexAddr 23 (Operand.tmp 88) (Operand.tmp 89), 0, "l05_sparse.go:192", #[{ on := 4, ground := Ground.data }, { on := 5, ground := Ground.data }], none⟩) rfl (by rfl) (by rfl) (fun w' hw' => ?_) ?_; rotate_left
                    · go_simp <;> first | rfl | exact ⟨rfl, rfl⟩
                    simp only [Act.put, List.setIfInBounds_toArray, List.set_cons_zero, List.set_cons_succ]
                    refine' wpT_det (o := ⟨some 91, Op.load 43 (Operand.tmp 90), 43, "l05_sparse.go:192", #[{ on := 6, ground := Ground.data }], none⟩) rfl (by rfl) (by rfl) (fun w' hw' => ?_) ?_; rotate_left
                    · have z2_ := Ext.cell hw' z2; have c3_ := Ext.cell hw' c3; have d3_ := Ext.cell hw' d3; have hcb_ := Ext.cell hw' hcb; have he_ := Ext.cell hw' he; have hew_ := Ext.cell hw' hew; go_simp <;> first | rfl | exact ⟨rfl, rfl⟩
                    simp only [Act.put, List.setIfInBounds_toArray, List.set_cons_zero, List.set_cons_succ]
                    refine' wpT_det (o := ⟨some 92, Op.fieldAddr 27 (Operand.tmp 2) 3, 0, "l05_sparse.go:192", #[], none⟩) rfl (by rfl) (by rfl) (fun w' hw' => ?_) ?_; rotate_left
                    · go_simp <;> first | rfl | exact ⟨rfl, rfl⟩
                    simp only [Act.put, List.setIfInBounds_toArray, List.set_cons_zero, List.set_cons_succ]
                    refine' wpT_det (o := ⟨some 93, Op.load 23 (Operand.tmp 92), 23, "l05_sparse.go:192", #[{ on := 8, ground := Ground.data }], none⟩) rfl (by rfl) (by rfl) (fun w' hw' => ?_) ?_; rotate_left
                    · have z2_ := Ext.cell hw' z2; have c3_ := Ext.cell hw' c3; have d3_ := Ext.cell hw' d3; have hcb_ := Ext.cell hw' hcb; have he_ := Ext.cell hw' he; have hew_ := Ext.cell hw' hew; go_simp <;> first | rfl | exact ⟨rfl, rfl⟩
                    simp only [Act.put, List.setIfInBounds_toArray, List.set_cons_zero, List.set_cons_succ]
                    refine' wpT_det (o := ⟨some 94, Op.move (Operand.tmp 8), 2, "l05_sparse.go:192", #[], none⟩) rfl (by rfl) (by rfl) (fun w' hw' => ?_) ?_; rotate_left
                    · go_simp <;> first | rfl | exact ⟨rfl, rfl⟩
                    simp only [Act.put, List.setIfInBounds_toArray, List.set_cons_zero, List.set_cons_succ]
                    refine' wpT_det (o := ⟨some 95, Op.indexAddr 23 (Operand.tmp 93) (Operand.tmp 94), 0, "l05_sparse.go:192", #[{ on := 9, ground := Ground.data }, { on := 10, ground := Ground.data }], none⟩) rfl (by rfl) (by rfl) (fun w' hw' => ?_) ?_; rotate_left
                    · go_simp <;> first | rfl | exact ⟨rfl, rfl⟩
                    simp only [Act.put, List.setIfInBounds_toArray, List.set_cons_zero, List.set_cons_succ]
                    refine' wpT_det (o := ⟨some 96, Op.load 43 (Operand.tmp 95), 43, "l05_sparse.go:192", #[{ on := 11, ground := Ground.data }], none⟩) rfl (by rfl) (by rfl) (fun w' hw' => ?_) ?_; rotate_left
                    · have z2_ := Ext.cell hw' z2; have c3_ := Ext.cell hw' c3; have d3_ := Ext.cell hw' d3; have hcb_ := Ext.cell hw' hcb; have he_ := Ext.cell hw' he; have hew_ := Ext.cell hw' hew; go_simp <;> first | rfl | exact ⟨rfl, rfl⟩
                    simp only [Act.put, List.setIfInBounds_toArray, List.set_cons_zero, List.set_cons_succ]
                    refine' wpT_det (o := ⟨some 97, Op.fieldAddr 27 (Operand.tmp 3) 3, 0, "l05_sparse.go:192", #[], none⟩) rfl (by rfl) (by rfl) (fun w' hw' => ?_) ?_; rotate_left
                    · go_simp <;> first | rfl | exact ⟨rfl, rfl⟩
                    simp only [Act.put, List.setIfInBounds_toArray, List.set_cons_zero, List.set_cons_succ]
                    refine' wpT_det (o := ⟨some 98, Op.load 23 (Operand.tmp 97), 23, "l05_sparse.go:192", #[{ on := 13, ground := Ground.data }], none⟩) rfl (by rfl) (by rfl) (fun w' hw' => ?_) ?_; rotate_left
                    · have z2_ := Ext.cell hw' z2; have c3_ := Ext.cell hw' c3; have d3_ := Ext.cell hw' d3; have hcb_ := Ext.cell hw' hcb; have he_ := Ext.cell hw' he; have hew_ := Ext.cell hw' hew; go_simp <;> first | rfl | exact ⟨rfl, rfl⟩
                    simp only [Act.put, List.setIfInBounds_toArray, List.set_cons_zero, List.set_cons_succ]
                    refine' wpT_det (o := ⟨some 99, Op.move (Operand.tmp 10), 2, "l05_sparse.go:192", #[], none⟩) rfl (by rfl) (by rfl) (fun w' hw' => ?_) ?_; rotate_left
                    · go_simp <;> first | rfl | exact ⟨rfl, rfl⟩
                    simp only [Act.put, List.setIfInBounds_toArray, List.set_cons_zero, List.set_cons_succ]
                    refine' wpT_det (o := ⟨some 100, Op.indexAddr 23 (Operand.tmp 98) (Operand.tmp 99), 0, "l05_sparse.go:192", #[{ on := 14, ground := Ground.data }, { on := 15, ground := Ground.data }], none⟩) rfl (by rfl) (by rfl) (fun w' hw' => ?_) ?_; rotate_left
                    · go_simp <;> first | rfl | exact ⟨rfl, rfl⟩
                    simp only [Act.put, List.setIfInBounds_toArray, List.set_cons_zero, List.set_cons_succ]
                    refine' wpT_det (o := ⟨some 101, Op.load 43 (Operand.tmp 100), 43, "l05_sparse.go:192", #[{ on := 16, ground := Ground.data }], none⟩) rfl (by rfl) (by rfl) (fun w' hw' => ?_) ?_; rotate_left
                    · have z2_ := Ext.cell hw' z2; have c3_ := Ext.cell hw' c3; have d3_ := Ext.cell hw' d3; have hcb_ := Ext.cell hw' hcb; have he_ := Ext.cell hw' he; have hew_ := Ext.cell hw' hew; go_simp <;> first | rfl | exact ⟨rfl, rfl⟩
                    simp only [Act.put, List.setIfInBounds_toArray, List.set_cons_zero, List.set_cons_succ]
                    refine wpT_nd (o := ⟨some 102, Op.binOp BinOp.mul 43 (Operand.tmp 96) (Operand.tmp 101) 43, 43, "l05_sparse.go:192", #[{ on := 12, ground := Ground.data }, { on := 17, ground := Ground.data }], none⟩) rfl (by rfl) (by rfl) (fun w' hw' hF R__ hGo => ?_) (by obtain ⟨r, hr⟩ := ex_d .mul (rfl : fop .mul .f32 (c32 (x)) (c32 (y)) = (fmul (c32 x) (c32 y))); exact ⟨_, r, rfl, hr⟩) ?_
                    · exact gives_f .mul (.inr (.inr (.inl rfl))) _ _ _ _ rfl (x) (y) rfl rfl (fmul (c32 x) (c32 y)) rfl (fun r w2 hx hc => hGo _ _ hx ⟨r, rfl, hc⟩ trivial)
                    rintro _ ⟨f18, rfl, hf18⟩
                    simp only [Act.put, List.setIfInBounds_toArray, List.set_cons_zero, List.set_cons_succ]
                    refine wpT_nd (o := ⟨some 103, Op.binOp BinOp.add 43 (Operand.tmp 91) (Operand.tmp 102) 43, 43, "l05_sparse.go:192", #[{ on := 7, ground := Ground.data }, { on := 18, ground := Ground.data }], none⟩) rfl (by rfl) (by rfl) (fun w' hw' hF R__ hGo => ?_) (by obtain ⟨r, hr⟩ := ex_d .add ((by rw [HNUM.out, hf18]) : fop .add .f32 (c32 (o)) (c32 (f18)) = (fadd ((M2 i c).getD (some 0)) (fmul (c32 x) (c32 y)))); exact ⟨_, r, rfl, hr⟩) ?_
                    · exact gives_f .add (.inl rfl) _ _ _ _ rfl (o) (f18) rfl rfl (fadd ((M2 i c).getD (some 0)) (fmul (c32 x) (c32 y))) (by rw [HNUM.out, hf18]) (fun r w2 hx hc => hGo _ _ hx ⟨r, rfl, hc⟩ trivial)
                    rintro _ ⟨f19, rfl, hf19⟩
                    simp only [Act.put, List.setIfInBounds_toArray, List.set_cons_zero, List.set_cons_succ]
                    refine wpT_nil (fun w7 hw' hF => ?_)
                    show wpList _ _ _ [(⟨some 104, Op.indexAddr 23 (Operand.tmp 85) (Operand.tmp 86), 0, "l05_sparse.go:192", #[{ on := 1, ground := Ground.data }, { on := 2, ground := Ground.data }, { on := 0, ground := Ground.phase }, { on := 1, ground := Ground.phase }, { on := 2, ground := Ground.phase }, { on := 3, ground := Ground.phase }, { on := 4, ground := Ground.phase }, { on := 5, ground := Ground.phase }, { on := 6, ground := Ground.phase }, { on := 7, ground := Ground.phase }, { on := 8, ground := Ground.phase }, { on := 9, ground := Ground.phase }, { on := 10, ground := Ground.phase }, { on := 11, ground := Ground.phase }, { on := 12, ground := Ground.phase }, { on := 13, ground := Ground.phase }, { on := 14, ground := Ground.phase }, { on := 15, ground := Ground.phase }, { on := 16, ground := Ground.phase }, { on := 17, ground := Ground.phase }, { on := 18, ground := Ground.phase }, { on := 19, ground := Ground.phase }], none⟩ : Oper), (⟨none, Op.store 43 (Operand.tmp 104) (Operand.tmp 103), 0, "l05_sparse.go:192", #[{ on := 20, ground := Ground.data }, { on := 19, ground := Ground.data }, { on := 0, ground := Ground.phase }, { on := 1, ground := Ground.phase }, { on := 2, ground := Ground.phase }, { on := 3, ground := Ground.phase }, { on := 4, ground := Ground.phase }, { on := 5, ground := Ground.phase }, { on := 6, ground := Ground.phase }, { on := 7, ground := Ground.phase }, { on := 8, ground := Ground.phase }, { on := 9, ground := Ground.phase }, { on := 10, ground := Ground.phase }, { on := 11, ground := Ground.phase }, { on := 12, ground := Ground.phase }, { on := 13, ground := Ground.phase }, { on := 14, ground := Ground.phase }, { on := 15, ground := Ground.phase }, { on := 16, ground := Ground.phase }, { on := 17, ground := Ground.phase }, { on := 18, ground := Ground.phase }, { on := 19, ground := Ground.phase }], none⟩ : Oper)] _ _
                    have hx := hw'.undrew
                    clear hF hw' z2 c3 d3 he hew hcb
                    replace h1 := h1.ext hx
                    replace h2 := h2.ext hx
                    replace h3 := h3.ext hx
                    replace h4 := h4.trans hx
                    clear hx
                    obtain ⟨hcb, hf⟩ := h3.at_ (i * N + c) (by omega)
                    rw [flts_get (by omega)] at hcb
                    have hsf := store_f32 Try.prog f19 hcb hf
                    have hm := FU.putN h0 h1 h2 h3 h4 (i * N + c) f19 (acc_nb hlt hcN hf19)
                    rw [← HIN.out] at hm
                    go_wp2_with fail
                    go_roundw
                    case rel => exact ⟨l + 1, by omega, by omega, by go_num, hm⟩
                    case measure => simp [intOf]; omega
                  · obtain rfl : l = q1 := by omega
                    rw [← HONE.out] at hst
                    go_wp2_with fail
                    go_roundw
                    case rel => exact ⟨k + 1, by omega, by omega, by go_num, hst⟩
                    case measure => simp [intOf]; omega
              · obtain rfl : k = s1 := by omega
                rw [← HNX.out] at hst
                go_wp2_with fail
                go_roundw
                case rel => exact ⟨i + 1, by omega, by go_num, hst⟩
                case measure => simp [intOf]; omega
          · obtain rfl : i = N := by omega
            obtain ⟨T1, k1, U1, q1, zs, h0, h1, h2, h3, h4⟩ := hst
            replace hx0 := hx0.trans h4
            replace b1 := b1.ext h4
            clear c1
            go_wp2_with fail
            refine (l05Close_any _ i NN T1 k1 U1 q1 (mulAll st co va st' co' va' i) zs hn1 hn32 HN.out _ (FAt.of h1 h2.reads h3.reads h0)).mono ?_
            rw [← HD.out]
            rintro e w6 ⟨A'', kA, B'', kB, V'', kV, rfl, p1, p2, p3, n12, n13, n23, hx⟩
            clear h0 h1 h2 h3 h4 xA c0
            replace p1 := p1.base hx0.size
            replace p2 := p2.base hx0.size
            replace p3 := p3.base hx0.size
            replace b1 := b1.ext hx
            replace hx0 := hx0.trans hx
            clear hx
            have y0 := b1.cell 0 rfl
            have y1 := b1.cell 1 rfl
            have y2 := b1.cell 2 rfl
            have y3 := b1.cell 3 rfl
            have f0 := b1.free 0
            have f1 := b1.free 1
            have f2 := b1.free 2
            have f3 := b1.free 3
            have hq0 := b1.lt
            go_wp2_with fail
            have d0 := b1.set 0 (.int .i64 D.sd)
            have d1 := d0.set 1 (.slice A'' D.st.length kA)
            have d2 := d1.set 2 (.slice B'' D.co.length kB)
            have d3 := d2.set 3 (.slice V'' D.va.length kV)
            have q1 := ((((p1.setBlk b1 (by decide) 0 (.int .i64 D.sd)).setBlk d0 (by decide) 1 (.slice A'' D.st.length kA)).setBlk d1 (by decide) 2 (.slice B'' D.co.length kB)).setBlk d2 (by decide) 3 (.slice V'' D.va.length kV))
            have q2 := ((((p2.setBlk b1 (by decide) 0 (.int .i64 D.sd)).setBlk d0 (by decide) 1 (.slice A'' D.st.length kA)).setBlk d1 (by decide) 2 (.slice B'' D.co.length kB)).setBlk d2 (by decide) 3 (.slice V'' D.va.length kV))
            have q3 := ((((p3.setBlk b1 (by decide) 0 (.int .i64 D.sd)).setBlk d0 (by decide) 1 (.slice A'' D.st.length kA)).setBlk d1 (by decide) 2 (.slice B'' D.co.length kB)).setBlk d2 (by decide) 3 (.slice V'' D.va.length kV))
            have x2 := ((((hx0.set (p := ⟨w.heap.size + 1 + 1, 0, none⟩) (by simp; try omega) (.int .i64 D.sd)).set (p := ⟨w.heap.size + 1 + 1, 1, none⟩) (by simp; try omega) (.slice A'' D.st.length kA)).set (p := ⟨w.heap.size + 1 + 1, 2, none⟩) (by simp; try omega) (.slice B'' D.co.length kB)).set (p := ⟨w.heap.size + 1 + 1, 3, none⟩) (by simp; try omega) (.slice V'' D.va.length kV))
            have r0 := d3.cell 0 rfl
            have r1 := d3.cell 1 rfl
            have r2 := d3.cell 2 rfl
            have r3 := d3.cell 3 rfl
            refine bodyPost_ret (v := .tuple #[.agg #[.int .i64 D.sd, .slice A'' D.st.length kA, .slice B'' D.co.length kB, .slice V'' D.va.length kV], .bool D.ok]) (by simp only [results, Try.results55]; simp [go_sem, r0, r1, r2, r3]) rfl ?_
            exact ⟨A'', kA, B'', kB, V'', kV, rfl, q1, q2, q3, n12, n13, n23, x2⟩


end Go.Proofs.Ytkifpligpobiaaa
