
/- SparseDrop, the program. -/

import Derived.Test.YtkifpligpobiaaaN3
set_option linter.unusedVariables false
set_option linter.unusedSimpArgs false

namespace Go.Proofs.Ytkifpligpobiaaa

open Go.RowKit


def mkB (M : Sqr) : Nat → Nat → Bool := fun i j => (M i j).isSome
def diaB (n : Nat) (M : Sqr) : Bool := (List.range n).all fun i => (M i i).isSome
theorem diaB_bad {n i : Nat} {M : Sqr} (hi : i < n) (h : (M i i).isSome = false) : diaB n M = false := by
  cases e : diaB n M with
  | false => rfl
  | true =>
    unfold diaB at e
    rw [List.all_eq_true] at e
    rw [e i (List.mem_range.2 hi)] at h
    cases h
theorem diaB_good {n : Nat} {M : Sqr} (h : ∀ i, i < n → (M i i).isSome = true) : diaB n M = true := by
  unfold diaB
  rw [List.all_eq_true]
  exact fun i hi => h i (List.mem_range.1 hi)
/-- What SparseDrop answers. -/
noncomputable def dropD (sd : Int) (st co : List Int) (va : List Nat) : SD := if isSp sd st co va then (if diaB sd.toNat (vw st co va co.length) then rtD sd.toNat (mkB (vw st co va co.length)) (vw st co va co.length) else SD.bad) else SD.bad
theorem dropD_eq {N : Nat} {st co : List Int} {va : List Nat} (hs : isSp N st co va = true) : dropD N st co va = if diaB N (vw st co va co.length) then rtD N (mkB (vw st co va co.length)) (vw st co va co.length) else SD.bad := by
  unfold dropD
  rw [if_pos hs, Int.toNat_natCast]

set_option maxRecDepth 20000 in
set_option maxHeartbeats 4000000 in
theorem drop1_any (N b2 pm i j : Nat) (M : Sqr) (hn : N ≤ 32) (hi : i < N) (hj : j < N) (w : World) (hm : MapV w b2 (N * N) N M) (cm : w.cell? ⟨pm, 0, none⟩ = some (.map (some b2))) :
    Calls Try.prog 126 #[.int .i64 i, .int .i64 j, .pointer (some ⟨pm, 0, none⟩)] w fun e w' => e = .returned (.bool (mkB M i j)) ∧ Ext w w' := by
  obtain ⟨x, hl, _⟩ := hm.look hn hi hj
  simp only [placeV] at hl
  have HB : Hid (mkB M i j = (M i j).isSome) := rfl
  rw [HB.out]
  obtain ⟨t, ht⟩ : ∃ t, t = (M i j).isSome := ⟨_, rfl⟩
  rw [← ht] at hl ⊢
  clear ht HB
  go_enter Try.func126, Try.ntmps126
  go_upto_region 1 with (fail)
  go_wp2_with fail
  go_ret
  exact ⟨rfl, Ext.refl _⟩

set_option maxRecDepth 20000 in
set_option maxHeartbeats 8000000 in
theorem implSparseDrop_any (sd : Int) (A : Option Addr) (n ca : Nat) (B : Option Addr) (m cb : Nat) (V : Option Addr) (p cv : Nat) (st co : List Int) (va : List Nat) (w : World) (hr : Rds w A n (ints st)) (hq : Rds w B m (ints co)) (hv : Rds w V p (flts va)) :
    Calls Try.prog 68 #[.agg #[.int .i64 sd, .slice A n ca, .slice B m cb, .slice V p cv]] w (RetSqB w (dropD sd st co va)) := by
  have HM := Lib.hid hq.ilen
  cases hs : isSp sd st co va with
  | false =>
    have hd : dropD sd st co va = SD.bad := by unfold dropD; rw [hs]; rfl
    go_enter Try.func68, Try.ntmps68
    go_upto_region 1 with (fail)
    obtain ⟨w0, hw0⟩ : ∃ w0, w0 = ((w.alloc (.cells #[.int .i64 sd, .slice A n ca, .slice B m cb, .slice V p cv] 27)).alloc (.cells #[.int .i64 0, .slice none 0 0, .slice none 0 0, .slice none 0 0] 27)) := ⟨_, rfl⟩
    have hx0 : Ext w w0 := by subst hw0; exact ((Ext.refl _).alloc _).alloc _
    have ba : Blk w0 (w.heap.size) #[.int .i64 sd, .slice A n ca, .slice B m cb, .slice V p cv] 27 := by subst hw0; exact (Blk.new w _ _).ext ((Ext.refl _).alloc _)
    have b1 : Blk w0 (w.heap.size + 1) #[.int .i64 0, .slice none 0 0, .slice none 0 0, .slice none 0 0] 27 := by subst hw0; simpa using (Blk.new (w.alloc (.cells #[.int .i64 sd, .slice A n ca, .slice B m cb, .slice V p cv] 27)) _ _)
    rw [← hw0]
    clear hw0
    have c0 := ba.cell 0 rfl
    have c1 := ba.cell 1 rfl
    have c2 := ba.cell 2 rfl
    have c3 := ba.cell 3 rfl
    go_wp2_with fail
    refine (implValidSparse_any sd A n ca B m cb V p cv st co va _ (hr.below hx0) (hq.below hx0) (hv.below hx0)).mono ?_
    rintro e w1 ⟨rfl, hx⟩
    rw [hs]
    clear c0 c1 c2 c3
    replace ba := ba.ext hx
    replace b1 := b1.ext hx
    replace hx0 := hx0.trans hx
    clear hx
    have y0 := b1.cell 0 rfl
    have y1 := b1.cell 1 rfl
    have y2 := b1.cell 2 rfl
    have y3 := b1.cell 3 rfl
    have f0 := b1.free 0
    have f1 := b1.free 1
    have f2 := b1.free 2
    have f3 := b1.free 3
    have hq0 := b1.lt
    go_wp2_with fail
    have d0 := b1.set 0 (.int .i64 0)
    have d1 := d0.set 1 (.slice none 0 0)
    have d2 := d1.set 2 (.slice none 0 0)
    have d3 := d2.set 3 (.slice none 0 0)
    have x2 := ((((hx0.set (p := ⟨w.heap.size + 1, 0, none⟩) (by simp; try omega) (.int .i64 0)).set (p := ⟨w.heap.size + 1, 1, none⟩) (by simp; try omega) (.slice none 0 0)).set (p := ⟨w.heap.size + 1, 2, none⟩) (by simp; try omega) (.slice none 0 0)).set (p := ⟨w.heap.size + 1, 3, none⟩) (by simp; try omega) (.slice none 0 0))
    have r0 := d3.cell 0 rfl
    have r1 := d3.cell 1 rfl
    have r2 := d3.cell 2 rfl
    have r3 := d3.cell 3 rfl
    refine bodyPost_ret (v := .tuple #[.agg #[.int .i64 0, .slice none 0 0, .slice none 0 0, .slice none 0 0], .bool false]) (by simp only [results, Try.results68]; simp [go_sem, r0, r1, r2, r3]) rfl (RetSqB.bad hd rfl x2)
  | true =>
    have hsp := isSp_iff.1 hs
    obtain ⟨N, rfl⟩ : ∃ N : Nat, sd = N := ⟨sd.toNat, by have := hsp.s1; omega⟩
    have hn1 : 1 ≤ N := by have := hsp.s1; omega
    have hn32 : N ≤ 32 := by have := hsp.s1; omega
    have HSP := Lib.hid hsp
    clear hsp
    obtain ⟨M, hM⟩ : ∃ M, M = vw st co va m := ⟨_, rfl⟩
    have HV := Lib.hid hM
    have hd := dropD_eq (N := N) hs
    rw [HM.out, ← hM] at hd
    obtain ⟨D, hD⟩ : ∃ D, D = dropD N st co va := ⟨_, rfl⟩
    rw [← hD]
    rw [← hD] at hd
    have HD := Lib.hid hd
    clear hd hD hM
    go_enter Try.func68, Try.ntmps68
    go_upto_region 1 with (fail)
    obtain ⟨w0, hw0⟩ : ∃ w0, w0 = ((w.alloc (.cells #[.int .i64 N, .slice A n ca, .slice B m cb, .slice V p cv] 27)).alloc (.cells #[.int .i64 0, .slice none 0 0, .slice none 0 0, .slice none 0 0] 27)) := ⟨_, rfl⟩
    have hx0 : Ext w w0 := by subst hw0; exact ((Ext.refl _).alloc _).alloc _
    have ba : Blk w0 (w.heap.size) #[.int .i64 N, .slice A n ca, .slice B m cb, .slice V p cv] 27 := by subst hw0; exact (Blk.new w _ _).ext ((Ext.refl _).alloc _)
    have b1 : Blk w0 (w.heap.size + 1) #[.int .i64 0, .slice none 0 0, .slice none 0 0, .slice none 0 0] 27 := by subst hw0; simpa using (Blk.new (w.alloc (.cells #[.int .i64 N, .slice A n ca, .slice B m cb, .slice V p cv] 27)) _ _)
    rw [← hw0]
    clear hw0
    have c0 := ba.cell 0 rfl
    have c1 := ba.cell 1 rfl
    have c2 := ba.cell 2 rfl
    have c3 := ba.cell 3 rfl
    go_wp2_with fail
    refine (implValidSparse_any N A n ca B m cb V p cv st co va _ (hr.below hx0) (hq.below hx0) (hv.below hx0)).mono ?_
    rintro e w1 ⟨rfl, hx⟩
    rw [hs]
    clear c0 c1 c2 c3
    replace ba := ba.ext hx
    replace b1 := b1.ext hx
    replace hx0 := hx0.trans hx
    clear hx
    have c0 := ba.cell 0 rfl
    have c1 := ba.cell 1 rfl
    have c2 := ba.cell 2 rfl
    have c3 := ba.cell 3 rfl
    go_wp2_with fail
    refine (numbers_any N A n ca B m cb V p cv st co va HSP.out _ (hr.below hx0) (hq.below hx0) (hv.below hx0)).mono ?_
    rw [← HV.out]
    rintro e w2 ⟨b2, rfl, hm2, _, hx⟩
    clear c0 c1 c2 c3
    replace ba := ba.ext hx
    replace b1 := b1.ext hx
    replace hx0 := hx0.trans hx
    clear hx
    go_upto_region 4 with (fail)
    have xg : Ext w2 (w2.alloc (.cells #[.map (some b2)] 92)) := (Ext.refl _).alloc _
    have bm := Blk.new w2 #[.map (some b2)] 92
    obtain ⟨w3, hw3⟩ : ∃ v : World, v = w2.alloc (.cells #[.map (some b2)] 92) := ⟨_, rfl⟩
    obtain ⟨pm, hpm⟩ : ∃ pm, pm = w2.heap.size := ⟨_, rfl⟩
    rw [← hw3] at xg
    rw [← hw3, ← hpm] at bm
    rw [← hw3, ← hpm]
    clear hw3 hpm
    replace ba := ba.ext xg
    replace b1 := b1.ext xg
    replace hx0 := hx0.trans xg
    replace hm2 := hm2.ext xg
    clear xg
    have c0 := ba.cell 0 rfl
    go_wp2_with fail
    clear c0
    go_loopw [16] (fun u wr => ∃ i : Nat, i ≤ N ∧ u = .int .i64 i ∧ Hid (∀ k, k < i → (M k k).isSome = true) ∧ Ext w3 wr) (fun u _ => N - (intOf u).toNat)
    case atStart => exact ⟨0, Nat.zero_le _, rfl, fun k hk => absurd hk (Nat.not_lt_zero _), Ext.refl _⟩
    case round =>
      obtain ⟨i, hi, rfl, HA, hx⟩ := hrel
      replace ba := ba.ext hx
      replace b1 := b1.ext hx
      replace bm := bm.ext hx
      replace hm2 := hm2.ext hx
      by_cases hlt : i < N
      · have hg1 : IntKind.i64.wrap ((i : Int) + 1) = (i : Int) + 1 := IntWalk.i64_in _ (by omega)
        obtain ⟨x, hl, _⟩ := hm2.look hn32 hlt hlt
        simp only [placeV] at hl
        have cm := bm.cell 0 rfl
        cases ht : (M i i).isSome with
        | true =>
          rw [ht] at hl
          have HA' : Hid (∀ k, k < i + 1 → (M k k).isSome = true) := fun k hk => by
            by_cases e : k = i
            · rw [e]; exact ht
            · exact HA.out k (by omega)
          clear ht
          go_wp2_with fail
          go_roundw
          case rel => exact ⟨i + 1, by omega, by go_num, HA', hx⟩
          case measure => simp [intOf]; omega
        | false =>
          rw [ht] at hl
          have hd : D = SD.bad := by rw [HD.out, diaB_bad hlt ht]; rfl
          clear ht
          replace hx0 := hx0.trans hx
          clear hx
          have y0 := b1.cell 0 rfl
          have y1 := b1.cell 1 rfl
          have y2 := b1.cell 2 rfl
          have y3 := b1.cell 3 rfl
          have f0 := b1.free 0
          have f1 := b1.free 1
          have f2 := b1.free 2
          have f3 := b1.free 3
          have hq0 := b1.lt
          go_wp2_with fail
          have d0 := b1.set 0 (.int .i64 0)
          have d1 := d0.set 1 (.slice none 0 0)
          have d2 := d1.set 2 (.slice none 0 0)
          have d3 := d2.set 3 (.slice none 0 0)
          have x2 := ((((hx0.set (p := ⟨w.heap.size + 1, 0, none⟩) (by simp; try omega) (.int .i64 0)).set (p := ⟨w.heap.size + 1, 1, none⟩) (by simp; try omega) (.slice none 0 0)).set (p := ⟨w.heap.size + 1, 2, none⟩) (by simp; try omega) (.slice none 0 0)).set (p := ⟨w.heap.size + 1, 3, none⟩) (by simp; try omega) (.slice none 0 0))
          have r0 := d3.cell 0 rfl
          have r1 := d3.cell 1 rfl
          have r2 := d3.cell 2 rfl
          have r3 := d3.cell 3 rfl
          refine bodyPost_ret (v := .tuple #[.agg #[.int .i64 0, .slice none 0 0, .slice none 0 0, .slice none 0 0], .bool false]) (by simp only [results, Try.results68]; simp [go_sem, r0, r1, r2, r3]) rfl (RetSqB.bad hd rfl x2)
      · obtain rfl : i = N := by omega
        replace hx0 := hx0.trans hx
        clear hx
        have HD2 : Hid (D = rtD i (mkB M) M) := by show _ = _; rw [HD.out, diaB_good HA.out]; rfl
        have c0 := ba.cell 0 rfl
        have c1 := ba.cell 1 rfl
        have c2 := ba.cell 2 rfl
        have c3 := ba.cell 3 rfl

        go_wp2_with fail
        refine (rootAt_any 126 _ (enters_of Try.func126 (by kernel_rfl) rfl) i A n ca B m cb V p cv st co va (mkB M) HSP.out _ (hr.below hx0) (hq.below hx0) (hv.below hx0) ?_).mono ?_
        · intro a b W ha hb hW
          exact drop1_any i b2 pm a b M hn32 ha (by omega) W (hm2.ext hW) (hW.cell (bm.cell 0 rfl))
        rw [← HV.out, ← HD2.out]
        rintro e w6 ⟨A'', kA, B'', kB, V'', kV, rfl, p1, p2, p3, n12, n13, n23, hx⟩
        clear c0 c1 c2 c3 hm2 ba bm
        replace p1 := p1.base hx0.size
        replace p2 := p2.base hx0.size
        replace p3 := p3.base hx0.size
        replace b1 := b1.ext hx
        replace hx0 := hx0.trans hx
        clear hx
        have y0 := b1.cell 0 rfl
        have y1 := b1.cell 1 rfl
        have y2 := b1.cell 2 rfl
        have y3 := b1.cell 3 rfl
        have f0 := b1.free 0
        have f1 := b1.free 1
        have f2 := b1.free 2
        have f3 := b1.free 3
        have hq0 := b1.lt
        go_wp2_with fail
        have d0 := b1.set 0 (.int .i64 D.sd)
        have d1 := d0.set 1 (.slice A'' D.st.length kA)
        have d2 := d1.set 2 (.slice B'' D.co.length kB)
        have d3 := d2.set 3 (.slice V'' D.va.length kV)
        have q1 := ((((p1.setBlk b1 (by decide) 0 (.int .i64 D.sd)).setBlk d0 (by decide) 1 (.slice A'' D.st.length kA)).setBlk d1 (by decide) 2 (.slice B'' D.co.length kB)).setBlk d2 (by decide) 3 (.slice V'' D.va.length kV))
        have q2 := ((((p2.setBlk b1 (by decide) 0 (.int .i64 D.sd)).setBlk d0 (by decide) 1 (.slice A'' D.st.length kA)).setBlk d1 (by decide) 2 (.slice B'' D.co.length kB)).setBlk d2 (by decide) 3 (.slice V'' D.va.length kV))
        have q3 := ((((p3.setBlk b1 (by decide) 0 (.int .i64 D.sd)).setBlk d0 (by decide) 1 (.slice A'' D.st.length kA)).setBlk d1 (by decide) 2 (.slice B'' D.co.length kB)).setBlk d2 (by decide) 3 (.slice V'' D.va.length kV))
        have x2 := ((((hx0.set (p := ⟨w.heap.size + 1, 0, none⟩) (by simp; try omega) (.int .i64 D.sd)).set (p := ⟨w.heap.size + 1, 1, none⟩) (by simp; try omega) (.slice A'' D.st.length kA)).set (p := ⟨w.heap.size + 1, 2, none⟩) (by simp; try omega) (.slice B'' D.co.length kB)).set (p := ⟨w.heap.size + 1, 3, none⟩) (by simp; try omega) (.slice V'' D.va.length kV))
        have r0 := d3.cell 0 rfl
        have r1 := d3.cell 1 rfl
        have r2 := d3.cell 2 rfl
        have r3 := d3.cell 3 rfl
        refine bodyPost_ret (v := .tuple #[.agg #[.int .i64 D.sd, .slice A'' D.st.length kA, .slice B'' D.co.length kB, .slice V'' D.va.length kV], .bool D.ok]) (by simp only [results, Try.results68]; simp [go_sem, r0, r1, r2, r3]) rfl ?_
        exact ⟨A'', kA, B'', kB, V'', kV, rfl, q1, q2, q3, n12, n13, n23, x2⟩

end Go.Proofs.Ytkifpligpobiaaa
