
/- SparseMul, the program. -/

import Derived.Test.YtkifpligpobiaaaK10

import Derived.Test.YtkifpligpobiaaaQ6
set_option linter.unusedVariables false
set_option linter.unusedSimpArgs false

namespace Go.Proofs.Ytkifpligpobiaaa

open Go.RowKit


/-- What SparseMul answers. -/
noncomputable def mulD (sd sd' : Int) (st co : List Int) (va : List Nat) (st' co' : List Int) (va' : List Nat) : SD := if isSp sd st co va && isSp sd' st' co' va' && decide (sd = sd') then giveSp sd.toNat (mulAll st co va st' co' va' sd.toNat) else SD.bad

set_option maxRecDepth 20000 in
set_option maxHeartbeats 8000000 in
theorem implSparseMul_any (sd : Int) (A : Option Addr) (n ca : Nat) (B : Option Addr) (m cb : Nat) (V : Option Addr) (p cv : Nat) (sd' : Int) (A' : Option Addr) (n' ca' : Nat) (B' : Option Addr) (m' cb' : Nat) (V' : Option Addr) (p' cv' : Nat)  (st co : List Int) (va : List Nat) (st' co' : List Int) (va' : List Nat) (w : World) (hr : Rds w A n (ints st)) (hq : Rds w B m (ints co)) (hv : Rds w V p (flts va)) (hr' : Rds w A' n' (ints st')) (hq' : Rds w B' m' (ints co')) (hv' : Rds w V' p' (flts va')) :
    Calls Try.prog 56 #[.agg #[.int .i64 sd, .slice A n ca, .slice B m cb, .slice V p cv], .agg #[.int .i64 sd', .slice A' n' ca', .slice B' m' cb', .slice V' p' cv']] w (RetSqB w (mulD sd sd'  st co va st' co' va')) := by
  have HM := Lib.hid hq.ilen
  have HM' := Lib.hid hq'.ilen
  cases hs : isSp sd st co va with
  | false =>
    have hd : mulD sd sd'  st co va st' co' va' = SD.bad := by unfold mulD; rw [hs]; rfl
    go_enter Try.func56, Try.ntmps56
    go_upto_region 1 with (fail)
    obtain ⟨w0, hw0⟩ : ∃ w0, w0 = (((w.alloc (.cells #[.int .i64 sd, .slice A n ca, .slice B m cb, .slice V p cv] 27)).alloc (.cells #[.int .i64 sd', .slice A' n' ca', .slice B' m' cb', .slice V' p' cv'] 27)).alloc (.cells #[.int .i64 0, .slice none 0 0, .slice none 0 0, .slice none 0 0] 27)) := ⟨_, rfl⟩
    have hx0 : Ext w w0 := by subst hw0; exact (((Ext.refl _).alloc _).alloc _).alloc _
    have ba : Blk w0 (w.heap.size) #[.int .i64 sd, .slice A n ca, .slice B m cb, .slice V p cv] 27 := by subst hw0; exact (Blk.new w _ _).ext (((Ext.refl _).alloc _).alloc _)
    have bb : Blk w0 (w.heap.size + 1) #[.int .i64 sd', .slice A' n' ca', .slice B' m' cb', .slice V' p' cv'] 27 := by subst hw0; simpa using (Blk.new (w.alloc (.cells #[.int .i64 sd, .slice A n ca, .slice B m cb, .slice V p cv] 27)) _ _).ext ((Ext.refl _).alloc _)
    have b1 : Blk w0 (w.heap.size + 1 + 1) #[.int .i64 0, .slice none 0 0, .slice none 0 0, .slice none 0 0] 27 := by subst hw0; simpa using (Blk.new ((w.alloc (.cells #[.int .i64 sd, .slice A n ca, .slice B m cb, .slice V p cv] 27)).alloc (.cells #[.int .i64 sd', .slice A' n' ca', .slice B' m' cb', .slice V' p' cv'] 27)) _ _)
    rw [← hw0]
    clear hw0
    have c0 := ba.cell 0 rfl
    have c1 := ba.cell 1 rfl
    have c2 := ba.cell 2 rfl
    have c3 := ba.cell 3 rfl
    go_wp2_with fail
    refine (implValidSparse_any sd A n ca B m cb V p cv st co va _ (hr.below hx0) (hq.below hx0) (hv.below hx0)).mono ?_
    rintro e w1 ⟨rfl, hx⟩
    rw [hs]
    clear c0 c1 c2 c3
    replace ba := ba.ext hx
    replace bb := bb.ext hx
    replace b1 := b1.ext hx
    replace hx0 := hx0.trans hx
    clear hx
    have y0 := b1.cell 0 rfl
    have y1 := b1.cell 1 rfl
    have y2 := b1.cell 2 rfl
    have y3 := b1.cell 3 rfl
    have f0 := b1.free 0
    have f1 := b1.free 1
    have f2 := b1.free 2
    have f3 := b1.free 3
    have hq0 := b1.lt
    go_wp2_with fail
    have d0 := b1.set 0 (.int .i64 0)
    have d1 := d0.set 1 (.slice none 0 0)
    have d2 := d1.set 2 (.slice none 0 0)
    have d3 := d2.set 3 (.slice none 0 0)
    have x2 := ((((hx0.set (p := ⟨w.heap.size + 1 + 1, 0, none⟩) (by simp; try omega) (.int .i64 0)).set (p := ⟨w.heap.size + 1 + 1, 1, none⟩) (by simp; try omega) (.slice none 0 0)).set (p := ⟨w.heap.size + 1 + 1, 2, none⟩) (by simp; try omega) (.slice none 0 0)).set (p := ⟨w.heap.size + 1 + 1, 3, none⟩) (by simp; try omega) (.slice none 0 0))
    have r0 := d3.cell 0 rfl
    have r1 := d3.cell 1 rfl
    have r2 := d3.cell 2 rfl
    have r3 := d3.cell 3 rfl
    refine bodyPost_ret (v := .tuple #[.agg #[.int .i64 0, .slice none 0 0, .slice none 0 0, .slice none 0 0], .bool false]) (by simp only [results, Try.results56]; simp [go_sem, r0, r1, r2, r3]) rfl (RetSqB.bad hd rfl x2)
  | true =>
    cases hs' : isSp sd' st' co' va' with
    | false =>
      have hd : mulD sd sd'  st co va st' co' va' = SD.bad := by unfold mulD; rw [hs, hs']; rfl
      go_enter Try.func56, Try.ntmps56
      go_upto_region 1 with (fail)
      obtain ⟨w0, hw0⟩ : ∃ w0, w0 = (((w.alloc (.cells #[.int .i64 sd, .slice A n ca, .slice B m cb, .slice V p cv] 27)).alloc (.cells #[.int .i64 sd', .slice A' n' ca', .slice B' m' cb', .slice V' p' cv'] 27)).alloc (.cells #[.int .i64 0, .slice none 0 0, .slice none 0 0, .slice none 0 0] 27)) := ⟨_, rfl⟩
      have hx0 : Ext w w0 := by subst hw0; exact (((Ext.refl _).alloc _).alloc _).alloc _
      have ba : Blk w0 (w.heap.size) #[.int .i64 sd, .slice A n ca, .slice B m cb, .slice V p cv] 27 := by subst hw0; exact (Blk.new w _ _).ext (((Ext.refl _).alloc _).alloc _)
      have bb : Blk w0 (w.heap.size + 1) #[.int .i64 sd', .slice A' n' ca', .slice B' m' cb', .slice V' p' cv'] 27 := by subst hw0; simpa using (Blk.new (w.alloc (.cells #[.int .i64 sd, .slice A n ca, .slice B m cb, .slice V p cv] 27)) _ _).ext ((Ext.refl _).alloc _)
      have b1 : Blk w0 (w.heap.size + 1 + 1) #[.int .i64 0, .slice none 0 0, .slice none 0 0, .slice none 0 0] 27 := by subst hw0; simpa using (Blk.new ((w.alloc (.cells #[.int .i64 sd, .slice A n ca, .slice B m cb, .slice V p cv] 27)).alloc (.cells #[.int .i64 sd', .slice A' n' ca', .slice B' m' cb', .slice V' p' cv'] 27)) _ _)
      rw [← hw0]
      clear hw0
      have c0 := ba.cell 0 rfl
      have c1 := ba.cell 1 rfl
      have c2 := ba.cell 2 rfl
      have c3 := ba.cell 3 rfl
      go_wp2_with fail
      refine (implValidSparse_any sd A n ca B m cb V p cv st co va _ (hr.below hx0) (hq.below hx0) (hv.below hx0)).mono ?_
      rintro e w1 ⟨rfl, hx⟩
      rw [hs]
      clear c0 c1 c2 c3
      replace ba := ba.ext hx
      replace bb := bb.ext hx
      replace b1 := b1.ext hx
      replace hx0 := hx0.trans hx
      clear hx
      have d0 := bb.cell 0 rfl
      have d1 := bb.cell 1 rfl
      have d2 := bb.cell 2 rfl
      have d3 := bb.cell 3 rfl
      go_wp2_with fail
      refine (implValidSparse_any sd' A' n' ca' B' m' cb' V' p' cv' st' co' va' _ (hr'.below hx0) (hq'.below hx0) (hv'.below hx0)).mono ?_
      rintro e w2 ⟨rfl, hx⟩
      rw [hs']
      clear d0 d1 d2 d3
      replace ba := ba.ext hx
      replace bb := bb.ext hx
      replace b1 := b1.ext hx
      replace hx0 := hx0.trans hx
      clear hx
      have y0 := b1.cell 0 rfl
      have y1 := b1.cell 1 rfl
      have y2 := b1.cell 2 rfl
      have y3 := b1.cell 3 rfl
      have f0 := b1.free 0
      have f1 := b1.free 1
      have f2 := b1.free 2
      have f3 := b1.free 3
      have hq0 := b1.lt
      go_wp2_with fail
      have d0 := b1.set 0 (.int .i64 0)
      have d1 := d0.set 1 (.slice none 0 0)
      have d2 := d1.set 2 (.slice none 0 0)
      have d3 := d2.set 3 (.slice none 0 0)
      have x2 := ((((hx0.set (p := ⟨w.heap.size + 1 + 1, 0, none⟩) (by simp; try omega) (.int .i64 0)).set (p := ⟨w.heap.size + 1 + 1, 1, none⟩) (by simp; try omega) (.slice none 0 0)).set (p := ⟨w.heap.size + 1 + 1, 2, none⟩) (by simp; try omega) (.slice none 0 0)).set (p := ⟨w.heap.size + 1 + 1, 3, none⟩) (by simp; try omega) (.slice none 0 0))
      have r0 := d3.cell 0 rfl
      have r1 := d3.cell 1 rfl
      have r2 := d3.cell 2 rfl
      have r3 := d3.cell 3 rfl
      refine bodyPost_ret (v := .tuple #[.agg #[.int .i64 0, .slice none 0 0, .slice none 0 0, .slice none 0 0], .bool false]) (by simp only [results, Try.results56]; simp [go_sem, r0, r1, r2, r3]) rfl (RetSqB.bad hd rfl x2)
    | true =>
      by_cases hss : sd = sd'
      rotate_left
      · have hd : mulD sd sd'  st co va st' co' va' = SD.bad := by unfold mulD; rw [hs, hs', decide_eq_false hss]; rfl
        have hse : (sd != sd') = true := by simpa using hss
        go_enter Try.func56, Try.ntmps56
        go_upto_region 1 with (fail)
        obtain ⟨w0, hw0⟩ : ∃ w0, w0 = (((w.alloc (.cells #[.int .i64 sd, .slice A n ca, .slice B m cb, .slice V p cv] 27)).alloc (.cells #[.int .i64 sd', .slice A' n' ca', .slice B' m' cb', .slice V' p' cv'] 27)).alloc (.cells #[.int .i64 0, .slice none 0 0, .slice none 0 0, .slice none 0 0] 27)) := ⟨_, rfl⟩
        have hx0 : Ext w w0 := by subst hw0; exact (((Ext.refl _).alloc _).alloc _).alloc _
        have ba : Blk w0 (w.heap.size) #[.int .i64 sd, .slice A n ca, .slice B m cb, .slice V p cv] 27 := by subst hw0; exact (Blk.new w _ _).ext (((Ext.refl _).alloc _).alloc _)
        have bb : Blk w0 (w.heap.size + 1) #[.int .i64 sd', .slice A' n' ca', .slice B' m' cb', .slice V' p' cv'] 27 := by subst hw0; simpa using (Blk.new (w.alloc (.cells #[.int .i64 sd, .slice A n ca, .slice B m cb, .slice V p cv] 27)) _ _).ext ((Ext.refl _).alloc _)
        have b1 : Blk w0 (w.heap.size + 1 + 1) #[.int .i64 0, .slice none 0 0, .slice none 0 0, .slice none 0 0] 27 := by subst hw0; simpa using (Blk.new ((w.alloc (.cells #[.int .i64 sd, .slice A n ca, .slice B m cb, .slice V p cv] 27)).alloc (.cells #[.int .i64 sd', .slice A' n' ca', .slice B' m' cb', .slice V' p' cv'] 27)) _ _)
        rw [← hw0]
        clear hw0
        have c0 := ba.cell 0 rfl
        have c1 := ba.cell 1 rfl
        have c2 := ba.cell 2 rfl
        have c3 := ba.cell 3 rfl
        go_wp2_with fail
        refine (implValidSparse_any sd A n ca B m cb V p cv st co va _ (hr.below hx0) (hq.below hx0) (hv.below hx0)).mono ?_
        rintro e w1 ⟨rfl, hx⟩
        rw [hs]
        clear c0 c1 c2 c3
        replace ba := ba.ext hx
        replace bb := bb.ext hx
        replace b1 := b1.ext hx
        replace hx0 := hx0.trans hx
        clear hx
        have d0 := bb.cell 0 rfl
        have d1 := bb.cell 1 rfl
        have d2 := bb.cell 2 rfl
        have d3 := bb.cell 3 rfl
        go_wp2_with fail
        refine (implValidSparse_any sd' A' n' ca' B' m' cb' V' p' cv' st' co' va' _ (hr'.below hx0) (hq'.below hx0) (hv'.below hx0)).mono ?_
        rintro e w2 ⟨rfl, hx⟩
        rw [hs']
        clear d0 d1 d2 d3
        replace ba := ba.ext hx
        replace bb := bb.ext hx
        replace b1 := b1.ext hx
        replace hx0 := hx0.trans hx
        clear hx
        have c0 := ba.cell 0 rfl
        have d0 := bb.cell 0 rfl
        have y0 := b1.cell 0 rfl
        have y1 := b1.cell 1 rfl
        have y2 := b1.cell 2 rfl
        have y3 := b1.cell 3 rfl
        have f0 := b1.free 0
        have f1 := b1.free 1
        have f2 := b1.free 2
        have f3 := b1.free 3
        have hq0 := b1.lt
        go_wp2_with fail
        have d0 := b1.set 0 (.int .i64 0)
        have d1 := d0.set 1 (.slice none 0 0)
        have d2 := d1.set 2 (.slice none 0 0)
        have d3 := d2.set 3 (.slice none 0 0)
        have x2 := ((((hx0.set (p := ⟨w.heap.size + 1 + 1, 0, none⟩) (by simp; try omega) (.int .i64 0)).set (p := ⟨w.heap.size + 1 + 1, 1, none⟩) (by simp; try omega) (.slice none 0 0)).set (p := ⟨w.heap.size + 1 + 1, 2, none⟩) (by simp; try omega) (.slice none 0 0)).set (p := ⟨w.heap.size + 1 + 1, 3, none⟩) (by simp; try omega) (.slice none 0 0))
        have r0 := d3.cell 0 rfl
        have r1 := d3.cell 1 rfl
        have r2 := d3.cell 2 rfl
        have r3 := d3.cell 3 rfl
        refine bodyPost_ret (v := .tuple #[.agg #[.int .i64 0, .slice none 0 0, .slice none 0 0, .slice none 0 0], .bool false]) (by simp only [results, Try.results56]; simp [go_sem, r0, r1, r2, r3]) rfl (RetSqB.bad hd rfl x2)
      · subst hss
        have hse : (sd != sd) = false := by simp
        have hsp := isSp_iff.1 hs
        have hsp' := isSp_iff.1 hs'
        obtain ⟨N, rfl⟩ : ∃ N : Nat, sd = N := ⟨sd.toNat, by have := hsp.s1; omega⟩
        have hn1 : 1 ≤ N := by have := hsp.s1; omega
        have hn32 : N ≤ 32 := by have := hsp.s1; omega
        have HSP := Lib.hid hsp
        have HSP' := Lib.hid hsp'
        clear hsp hsp'
        have hd : mulD N N  st co va st' co' va' = giveSp N (mulAll st co va st' co' va' N) := by unfold mulD; rw [hs, hs']; (try rw [HM.out]); (try rw [HM'.out]); simp
        obtain ⟨D, hD⟩ : ∃ D, D = mulD N N  st co va st' co' va' := ⟨_, rfl⟩
        rw [← hD]
        rw [← hD] at hd
        have HD := Lib.hid hd
        clear hd hD
        go_enter Try.func56, Try.ntmps56
        go_upto_region 1 with (fail)
        obtain ⟨w0, hw0⟩ : ∃ w0, w0 = (((w.alloc (.cells #[.int .i64 N, .slice A n ca, .slice B m cb, .slice V p cv] 27)).alloc (.cells #[.int .i64 N, .slice A' n' ca', .slice B' m' cb', .slice V' p' cv'] 27)).alloc (.cells #[.int .i64 0, .slice none 0 0, .slice none 0 0, .slice none 0 0] 27)) := ⟨_, rfl⟩
        have hx0 : Ext w w0 := by subst hw0; exact (((Ext.refl _).alloc _).alloc _).alloc _
        have ba : Blk w0 (w.heap.size) #[.int .i64 N, .slice A n ca, .slice B m cb, .slice V p cv] 27 := by subst hw0; exact (Blk.new w _ _).ext (((Ext.refl _).alloc _).alloc _)
        have bb : Blk w0 (w.heap.size + 1) #[.int .i64 N, .slice A' n' ca', .slice B' m' cb', .slice V' p' cv'] 27 := by subst hw0; simpa using (Blk.new (w.alloc (.cells #[.int .i64 N, .slice A n ca, .slice B m cb, .slice V p cv] 27)) _ _).ext ((Ext.refl _).alloc _)
        have b1 : Blk w0 (w.heap.size + 1 + 1) #[.int .i64 0, .slice none 0 0, .slice none 0 0, .slice none 0 0] 27 := by subst hw0; simpa using (Blk.new ((w.alloc (.cells #[.int .i64 N, .slice A n ca, .slice B m cb, .slice V p cv] 27)).alloc (.cells #[.int .i64 N, .slice A' n' ca', .slice B' m' cb', .slice V' p' cv'] 27)) _ _)
        rw [← hw0]
        clear hw0
        have c0 := ba.cell 0 rfl
        have c1 := ba.cell 1 rfl
        have c2 := ba.cell 2 rfl
        have c3 := ba.cell 3 rfl
        go_wp2_with fail
        refine (implValidSparse_any N A n ca B m cb V p cv st co va _ (hr.below hx0) (hq.below hx0) (hv.below hx0)).mono ?_
        rintro e w1 ⟨rfl, hx⟩
        rw [hs]
        clear c0 c1 c2 c3
        replace ba := ba.ext hx
        replace bb := bb.ext hx
        replace b1 := b1.ext hx
        replace hx0 := hx0.trans hx
        clear hx
        have d0 := bb.cell 0 rfl
        have d1 := bb.cell 1 rfl
        have d2 := bb.cell 2 rfl
        have d3 := bb.cell 3 rfl
        go_wp2_with fail
        refine (implValidSparse_any N A' n' ca' B' m' cb' V' p' cv' st' co' va' _ (hr'.below hx0) (hq'.below hx0) (hv'.below hx0)).mono ?_
        rintro e w2 ⟨rfl, hx⟩
        rw [hs']
        clear d0 d1 d2 d3
        replace ba := ba.ext hx
        replace bb := bb.ext hx
        replace b1 := b1.ext hx
        replace hx0 := hx0.trans hx
        clear hx
        have c0 := ba.cell 0 rfl
        have d0 := bb.cell 0 rfl
        have hn' : N + 1 ≤ n := by have := HSP.out.s2; rw [hr.ilen] at this; omega
        have hn33 : n ≤ 33 := by have := HSP.out.s2; rw [hr.ilen] at this; omega
        have HPM : Hid (p = m) := by have := HSP.out.s4; rw [hv.flen, hq.ilen] at this; exact this
        have hm512 : m ≤ 512 := by have := HSP.out.s3; rw [hq.ilen] at this; exact this
        have hmk := make_map_run
        have lA := ba.lt
        have lB := bb.lt
        go_upto_region 4 with (fail)
        have xg : Ext w2 ((w2.alloc (.map #[] 0)).alloc (.cells #[.map (some w2.heap.size)] 92)) := ((Ext.refl _).alloc _).alloc _
        have hm0 : MapV ((w2.alloc (.map #[] 0)).alloc (.cells #[.map (some w2.heap.size)] 92)) w2.heap.size (N * N) N (mulAll st co va st' co' va' 0) := ((MapV.empty w2 N).ext ((Ext.refl _).alloc _)).tight
        have bm : Blk ((w2.alloc (.map #[] 0)).alloc (.cells #[.map (some w2.heap.size)] 92)) (w2.heap.size + 1) #[.map (some w2.heap.size)] 92 := by simpa using Blk.new (w2.alloc (.map #[] 0)) #[.map (some w2.heap.size)] 92
        obtain ⟨w3, hw3⟩ : ∃ v : World, v = (w2.alloc (.map #[] 0)).alloc (.cells #[.map (some w2.heap.size)] 92) := ⟨_, rfl⟩
        rw [← hw3] at xg hm0 bm ⊢
        obtain ⟨b, hb⟩ : ∃ b, b = w2.heap.size := ⟨_, rfl⟩
        rw [← hb] at hm0 bm ⊢
        have hbb : w2.heap.size ≤ b := by omega
        clear hw3 hb hmk c0 d0
        have c0 := (ba.ext xg).cell 0 rfl
        go_wp2_with fail
        clear c0
        go_loopw [27] (fun u wr => ∃ i : Nat, i ≤ N ∧ u = .int .i64 i ∧ Ext w2 wr ∧ MapV wr b (N * N) N (mulAll st co va st' co' va' i) ∧ Blk wr (b + 1) #[.map (some b)] 92) (fun u _ => N - (intOf u).toNat)
        case atStart => exact ⟨0, Nat.zero_le _, rfl, xg, hm0, bm⟩
        case round =>
          rename World => wA
          clear xg hm0 bm
          obtain ⟨i, hi, rfl, hy, hm, bm⟩ := hrel
          by_cases hlt : i < N
          · have g1 : IntKind.i64.wrap ((i : Int) + 1) = (i : Int) + 1 := IntWalk.i64_in _ (by omega)
            have r0 := HSP.out.range (i := i) (by omega)
            have r1 := HSP.out.range (i := i + 1) (by omega)
            have e1 : ((i + 1 : Nat) : Int) = (i : Int) + 1 := by omega
            rw [HM.out] at r0 r1
            rw [e1] at r1
            have hup : rd st i ≤ rd st ((i : Int) + 1) := HSP.out.s8 i (by omega)
            obtain ⟨s0, hs0⟩ : ∃ s0 : Nat, rd st i = s0 := ⟨(rd st i).toNat, by omega⟩
            obtain ⟨s1, hs1⟩ : ∃ s1 : Nat, rd st ((i : Int) + 1) = s1 := ⟨(rd st ((i : Int) + 1)).toNat, by omega⟩
            rw [hs0] at r0 hup
            rw [hs1] at r1 hup
            have HS0 := Lib.hid hs0
            have HS1 := Lib.hid hs1
            clear hs0 hs1 e1
            have ba' := ba.ext hy
            have lA' := ba'.lt
            have c0 := ba'.cell 0 rfl
            have c1 := ba'.cell 1 rfl
            have c2 := ba'.cell 2 rfl
            have c3 := ba'.cell 3 rfl
            go_wp2_with fail
            clear c0 c1 c2 c3
            have xg : Ext wA (wA.alloc (.cells #[.int .i64 i] 2)) := (Ext.refl _).alloc _
            refine (each_any 119 _ (enters_of Try.func119 (by kernel_rfl) rfl) N A n ca B m cb V p cv st co va i s0 s1 _
              (fun k W => Ext w2 W ∧ MapV W b (N * N) N (mulRow i co va st' co' va' s0 (k - s0) (mulAll st co va st' co' va' i)) ∧ Blk W (b + 1) #[.map (some b)] 92 ∧ Blk W wA.heap.size #[.int .i64 i] 2)
              (by omega) hn33 HPM.out HS0.out HS1.out (by omega) (by omega) hm512 ?_ ?_ ?_ ?_).mono ?_
            · intro k W W' ⟨h1, h2, h3, h4⟩ hx
              exact ⟨h1.trans hx, h2.ext hx, h3.ext hx, h4.ext hx⟩
            · intro k W ⟨h1, _⟩
              exact ⟨hr.below (hx0.trans h1), hq.below (hx0.trans h1), hv.below (hx0.trans h1)⟩
            · intro k W hk0 hk1 hsz ⟨h1, h2, h3, h4⟩
              have hcr := HSP.out.s9 k (by rw [HM.out]; omega)
              obtain ⟨c, hc⟩ : ∃ c : Nat, rd co k = c := ⟨(rd co k).toNat, by omega⟩
              have hcN : c < N := by rw [hc] at hcr; omega
              have hlb := hm.lt
              rw [hc]
              refine (mul1_any N hn32 A' n' ca' B' m' cb' V' p' cv' st' co' va' HSP'.out w2 W h1 (hr'.below hx0) (hq'.below hx0) (hv'.below hx0) b hbb i c (rdf va k) (w.heap.size + 1) (b + 1) wA.heap.size _ hlt hcN h2 (bb.ext h1) h3 h4).mono ?_
              rintro e W' ⟨rfl, hm', hg⟩
              refine ⟨rfl, ⟨MapV.ge hg h1 hbb, ?_, h3.grown hg (by omega), h4.grown hg (by omega)⟩, hg.size, hg.block _ hsz (by simp; omega)⟩
              rw [mulRow_next _ hk0]
              unfold mulOne
              rw [hc]
              exact hm'
            · refine ⟨hy.trans xg, ?_, bm.ext xg, Blk.new _ _ _⟩
              rw [Nat.sub_self]
              exact hm.ext xg
            · rintro e W' ⟨rfl, h1, h2, h3, h4⟩
              go_wp2_with fail
              go_roundw
              case rel =>
                refine ⟨i + 1, by omega, by go_num, h1, ?_, h3⟩
                show MapV W' b (N * N) N (mulRow i co va st' co' va' (rd st (i : Int)).toNat ((rd st ((i : Int) + 1)).toNat - (rd st (i : Int)).toNat) (mulAll st co va st' co' va' i))
                rw [HS0.out, HS1.out, Int.toNat_natCast, Int.toNat_natCast]
                exact h2
              case measure => simp [intOf]; omega
          · obtain rfl : i = N := by omega
            replace hx0 := hx0.trans hy
            replace ba := ba.ext hy
            replace b1 := b1.ext hy
            have c0 := ba.cell 0 rfl
            have e0 := bm.cell 0 rfl
            go_wp2_with fail
            refine (told_any b (i * i) i _ hn1 hn32 _ hm).mono ?_
            rw [← HD.out]
            rintro e w6 ⟨A'', kA, B'', kB, V'', kV, rfl, p1, p2, p3, n12, n13, n23, hx⟩
            clear c0 e0 bm hy hm ba bb
            replace p1 := p1.base hx0.size
            replace p2 := p2.base hx0.size
            replace p3 := p3.base hx0.size
            replace b1 := b1.ext hx
            replace hx0 := hx0.trans hx
            clear hx
            have y0 := b1.cell 0 rfl
            have y1 := b1.cell 1 rfl
            have y2 := b1.cell 2 rfl
            have y3 := b1.cell 3 rfl
            have f0 := b1.free 0
            have f1 := b1.free 1
            have f2 := b1.free 2
            have f3 := b1.free 3
            have hq0 := b1.lt
            go_wp2_with fail
            have d0 := b1.set 0 (.int .i64 D.sd)
            have d1 := d0.set 1 (.slice A'' D.st.length kA)
            have d2 := d1.set 2 (.slice B'' D.co.length kB)
            have d3 := d2.set 3 (.slice V'' D.va.length kV)
            have q1 := ((((p1.setBlk b1 (by decide) 0 (.int .i64 D.sd)).setBlk d0 (by decide) 1 (.slice A'' D.st.length kA)).setBlk d1 (by decide) 2 (.slice B'' D.co.length kB)).setBlk d2 (by decide) 3 (.slice V'' D.va.length kV))
            have q2 := ((((p2.setBlk b1 (by decide) 0 (.int .i64 D.sd)).setBlk d0 (by decide) 1 (.slice A'' D.st.length kA)).setBlk d1 (by decide) 2 (.slice B'' D.co.length kB)).setBlk d2 (by decide) 3 (.slice V'' D.va.length kV))
            have q3 := ((((p3.setBlk b1 (by decide) 0 (.int .i64 D.sd)).setBlk d0 (by decide) 1 (.slice A'' D.st.length kA)).setBlk d1 (by decide) 2 (.slice B'' D.co.length kB)).setBlk d2 (by decide) 3 (.slice V'' D.va.length kV))
            have x2 := ((((hx0.set (p := ⟨w.heap.size + 1 + 1, 0, none⟩) (by simp; try omega) (.int .i64 D.sd)).set (p := ⟨w.heap.size + 1 + 1, 1, none⟩) (by simp; try omega) (.slice A'' D.st.length kA)).set (p := ⟨w.heap.size + 1 + 1, 2, none⟩) (by simp; try omega) (.slice B'' D.co.length kB)).set (p := ⟨w.heap.size + 1 + 1, 3, none⟩) (by simp; try omega) (.slice V'' D.va.length kV))
            have r0 := d3.cell 0 rfl
            have r1 := d3.cell 1 rfl
            have r2 := d3.cell 2 rfl
            have r3 := d3.cell 3 rfl
            refine bodyPost_ret (v := .tuple #[.agg #[.int .i64 D.sd, .slice A'' D.st.length kA, .slice B'' D.co.length kB, .slice V'' D.va.length kV], .bool D.ok]) (by simp only [results, Try.results56]; simp [go_sem, r0, r1, r2, r3]) rfl ?_
            exact ⟨A'', kA, B'', kB, V'', kV, rfl, q1, q2, q3, n12, n13, n23, x2⟩


end Go.Proofs.Ytkifpligpobiaaa
