import Derived.Test.YtgjfdfmbknmpaaaM40
set_option linter.unusedVariables false
set_option linter.unusedSimpArgs false
namespace Go.Proofs.Ytgjfdfmbknmpaaa
open Go.RowKit

theorem val_span {xs ys : List Nat} {k : Int} {l h : Nat} (hs : (l, h, false) = spanD xs ys) : valD xs ys k = (0, false) := by
  have : halvD xs ys k = (0, false) := by unfold halvD; rw [← hs]; rfl
  unfold valD
  split
  · exact this
  · rfl
theorem span_ch {xs ys : List Nat} {l h : Nat} (hs : (l, h, true) = spanD xs ys) : isCh xs ys = true := by
  unfold spanD at hs
  split at hs
  · assumption
  · cases hs
theorem halv_of {xs ys : List Nat} {k : Int} {l h : Nat} (hs : (l, h, true) = spanD xs ys) : halvD xs ys k = lastB (bisF xs ys k (l, h) 40) := by
  unfold halvD
  rw [← hs]
  rfl

set_option maxRecDepth 20000 in
set_option maxHeartbeats 8000000 in
theorem implValueOfChain_any (A : Option Addr) (n cap : Nat) (B : Option Addr) (m cap' : Nat) (k : Int) (xs ys : List Nat) (w : World) (hr : Rds w A n (flts xs)) (hq : Rds w B m (flts ys)) :
    Calls Try.prog 95 #[.agg #[.slice A n cap, .slice B m cap'], .int .i64 k] w (RetND w (valD xs ys k)) := by
  have HL := Lib.hid hr.flen
  have hs1 := hr.small
  obtain ⟨⟨l, h, ok⟩, hsd⟩ : ∃ d, d = spanD xs ys := ⟨_, rfl⟩
  have Hsd := Lib.hid hsd
  cases ok with
  | false =>
    rw [val_span hsd]
    clear hsd
    go_enter Try.func95, Try.ntmps95
    go_upto_region 1 with (fail)
    obtain ⟨w0, hw0⟩ : ∃ w0, w0 = (w.alloc (.cells #[.slice A n cap, .slice B m cap'] 27)) := ⟨_, rfl⟩
    have hx0 : Ext w w0 := by subst hw0; exact (Ext.refl _).alloc _
    have ba : Blk w0 (w.heap.size) #[.slice A n cap, .slice B m cap'] 27 := by subst hw0; exact (Blk.new w _ _)
    rw [← hw0]
    clear hw0
    have a0 := ba.cell 0 rfl
    have a1 := ba.cell 1 rfl
    go_wp2_with fail
    refine (implSpanOfChain_any A n cap B m cap' xs ys _ (hr.below hx0) (hq.below hx0)).mono ?_
    rw [← Hsd.out]
    rintro e w1 ⟨rfl, hx⟩
    clear a0 a1
    go_wp2_with fail
    go_ret2
    exact ⟨rfl, hx0.trans hx⟩
  | true =>
    have hc := span_ch hsd
    have Hc := Lib.hid hc
    have HD := Lib.hid (halv_of (k := k) hsd)
    clear hsd
    cases hin : inR 0 k ((n : Int) - 1) with
    | false =>
      rw [val_no (by rw [hc, HL.out, hin]; rfl)]
      go_enter Try.func95, Try.ntmps95
      go_upto_region 1 with (fail)
      obtain ⟨w0, hw0⟩ : ∃ w0, w0 = (w.alloc (.cells #[.slice A n cap, .slice B m cap'] 27)) := ⟨_, rfl⟩
      have hx0 : Ext w w0 := by subst hw0; exact (Ext.refl _).alloc _
      have ba : Blk w0 (w.heap.size) #[.slice A n cap, .slice B m cap'] 27 := by subst hw0; exact (Blk.new w _ _)
      rw [← hw0]
      clear hw0
      have a0 := ba.cell 0 rfl
      have a1 := ba.cell 1 rfl
      go_wp2_with fail
      refine (implSpanOfChain_any A n cap B m cap' xs ys _ (hr.below hx0) (hq.below hx0)).mono ?_
      rw [← Hsd.out]
      rintro e w1 ⟨rfl, hx⟩
      replace hx0 := hx0.trans hx
      replace ba := ba.ext hx
      clear hx a0 a1
      have a0 := ba.cell 0 rfl
      go_wp2_with fail
      refine (lengthF_any A n cap hs1 _).mono ?_
      rintro e w2 ⟨rfl, rfl⟩
      go_wp2_with fail
      refine (inRange_any k 0 ((n : Int) - 1) _).mono ?_
      rintro e w2 ⟨rfl, rfl⟩
      rw [hin]
      go_wp2_with fail
      go_ret2
      exact ⟨rfl, hx0⟩
    | true =>
      rw [val_yes (by rw [hc, HL.out, hin]; rfl)]
      obtain ⟨d, hd⟩ : ∃ d, d = halvD xs ys k := ⟨_, rfl⟩
      have Hd := Lib.hid hd
      rw [← hd]
      clear hd hc
      go_enter Try.func95, Try.ntmps95
      go_upto_region 1 with (fail)
      obtain ⟨w0, hw0⟩ : ∃ w0, w0 = (w.alloc (.cells #[.slice A n cap, .slice B m cap'] 27)) := ⟨_, rfl⟩
      have hx0 : Ext w w0 := by subst hw0; exact (Ext.refl _).alloc _
      have ba : Blk w0 (w.heap.size) #[.slice A n cap, .slice B m cap'] 27 := by subst hw0; exact (Blk.new w _ _)
      rw [← hw0]
      clear hw0
      have a0 := ba.cell 0 rfl
      have a1 := ba.cell 1 rfl
      go_wp2_with fail
      refine (implSpanOfChain_any A n cap B m cap' xs ys _ (hr.below hx0) (hq.below hx0)).mono ?_
      rw [← Hsd.out]
      rintro e w1 ⟨rfl, hx⟩
      replace hx0 := hx0.trans hx
      replace ba := ba.ext hx
      clear hx a0 a1
      have a0 := ba.cell 0 rfl
      go_wp2_with fail
      refine (lengthF_any A n cap hs1 _).mono ?_
      rintro e w2 ⟨rfl, rfl⟩
      go_wp2_with fail
      refine (inRange_any k 0 ((n : Int) - 1) _).mono ?_
      rintro e w2 ⟨rfl, rfl⟩
      rw [hin]
      clear a0
      go_wp2_with fail
      go_loopw [6, 7, 29] (fun a c u wr => ∃ j lo hi : Nat, j ≤ 40 ∧ a = .float .f32 lo ∧ c = .float .f32 hi ∧ u = .int .i64 j ∧ Hid (bisF xs ys k (l, h) j = some (lo, hi)) ∧ Ext w1 wr) (fun _ _ u _ => 40 - (intOf u).toNat)
      case atStart => exact ⟨0, l, h, by omega, rfl, rfl, rfl, rfl, Ext.refl _⟩
      case round =>
        obtain ⟨j, lo, hi, hj, rfl, rfl, rfl, HB, hx⟩ := hrel
        by_cases hlt : j < 40
        · have hlt' : (j : Int) < 40 := by omega
          obtain ⟨r1, w5, hrr1, hx1, hc1⟩ := run_fop (P := Try.prog) wr .add (.inl rfl) 39 .f32 lo hi
          go_wp2_with (simp only [hrr1])
          refine (mul_any 1056964608 r1 _).mono ?_
          rintro e w6 ⟨mm, rfl, hc2, hx2⟩
          have hm : c32 mm = midF lo hi := by
            have e1 : c32 r1 = fadd (c32 lo) (c32 hi) := hc1
            rw [hc2, e1, c32_half]
            rfl
          have HS := Lib.hid (step_cnt (k := k) Hc.out hm)
          replace hx := (hx.trans hx1).trans hx2
          clear hc1 hc2 hm hx1 hx2 hrr1
          have b1 := ba.ext hx
          have a0 := b1.cell 0 rfl
          have a1 := b1.cell 1 rfl
          go_wp2_with fail
          refine (implCountBelow_any A n cap B m cap' mm xs ys _ ((hr.below hx0).below hx) ((hq.below hx0).below hx)).mono ?_
          obtain ⟨⟨cnt, ok⟩, hd2⟩ : ∃ d, d = cntD xs ys mm := ⟨_, rfl⟩
          rw [← hd2]
          rintro e w8 ⟨rfl, hx8⟩
          have HS3 : Hid (stepB xs ys k (lo, hi) = if ok then (if cnt ≤ k then some (mm, hi) else some (lo, mm)) else none) := by
            have hs := HS.out
            rw [← hd2] at hs
            exact hs
          replace hx := hx.trans hx8
          clear hx8 hd2 a0 a1 b1
          cases ok with
          | false =>
            have hD : d = (0, false) := by
              rw [Hd.out, HD.out]
              exact bis_bad HB.out HS3.out hlt
            go_wp2_with fail
            go_ret2
            exact ⟨by rw [hD]; rfl, hx0.trans hx⟩
          | true =>
            by_cases hk : cnt ≤ k
            · have HN : Hid (bisF xs ys k (l, h) (j + 1) = some (mm, hi)) := by show _ = _; rw [bis_step HB.out, HS3.out, if_pos rfl, if_pos hk]
              go_wp2_with fail
              go_roundw
              case rel => exact ⟨j + 1, _, _, by omega, rfl, rfl, by go_num, HN, hx⟩
              case measure => simp [intOf]; omega
            · have HN : Hid (bisF xs ys k (l, h) (j + 1) = some (lo, mm)) := by show _ = _; rw [bis_step HB.out, HS3.out, if_pos rfl, if_neg hk]
              go_wp2_with fail
              go_roundw
              case rel => exact ⟨j + 1, _, _, by omega, rfl, rfl, by go_num, HN, hx⟩
              case measure => simp [intOf]; omega
        · obtain rfl : j = 40 := by omega
          have hD : d = (lo, true) := by rw [Hd.out, HD.out, HB.out]; rfl
          go_wp2_with fail
          go_ret2
          exact ⟨by rw [hD]; rfl, hx0.trans hx⟩

end Go.Proofs.Ytgjfdfmbknmpaaa
