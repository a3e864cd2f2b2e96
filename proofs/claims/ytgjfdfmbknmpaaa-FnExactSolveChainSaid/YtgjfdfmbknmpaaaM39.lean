import Derived.Test.YtgjfdfmbknmpaaaM31
import Derived.Test.YtgjfdfmbknmpaaaM38
set_option linter.unusedVariables false
set_option linter.unusedSimpArgs false
namespace Go.Proofs.Ytgjfdfmbknmpaaa
open Go.RowKit

/-- The bounds, if they are finite. -/
def giveFF (a b : Option Nat) : Nat × Nat × Bool := if finO a && finO b then (a.getD 0, b.getD 0, true) else (0, 0, false)
def spanD (xs ys : List Nat) : Nat × Nat × Bool := if isCh xs ys then giveFF (lowF xs ys xs.length) (highF xs ys xs.length) else (0, 0, false)
theorem finO_of {a : Option Nat} (h : finO a = true) : ∃ x, a = some x ∧ isFin .f32 x = true := by
  cases a with
  | none => cases h
  | some x => exact ⟨x, rfl, h⟩
theorem giveFF_fin (a b : Option Nat) : isFin .f32 (giveFF a b).1 = true ∧ isFin .f32 (giveFF a b).2.1 = true := by
  unfold giveFF
  split
  · rename_i h
    rw [Bool.and_eq_true] at h
    obtain ⟨x, rfl, hx⟩ := finO_of h.1
    obtain ⟨y, rfl, hy⟩ := finO_of h.2
    exact ⟨hx, hy⟩
  · decide
theorem spanD_fin (xs ys : List Nat) : isFin .f32 (spanD xs ys).1 = true ∧ isFin .f32 (spanD xs ys).2.1 = true := by
  unfold spanD
  split
  · exact giveFF_fin _ _
  · decide
theorem giveFF_good {l h : Nat} (h1 : isFin .f32 l = true) (h2 : isFin .f32 h = true) : giveFF (c32 l) (c32 h) = (l, h, true) := by
  unfold giveFF
  rw [finO_cf, finO_cf, h1, h2, isFin_c32 h1, isFin_c32 h2]
  rfl
theorem giveFF_bad {l h : Nat} (h1 : (isFin .f32 l && isFin .f32 h) = false) : giveFF (c32 l) (c32 h) = (0, 0, false) := by
  unfold giveFF
  rw [finO_cf, finO_cf, h1]
  rfl
theorem ch_fin {xs ys : List Nat} (h : isCh xs ys = true) : finL xs = true ∧ finL ys = true := by
  unfold isCh at h
  simp only [Bool.and_eq_true] at h
  exact ⟨h.1.2, h.2⟩
def RetFFB (w : World) (d : Nat × Nat × Bool) (e : Ending) (w' : World) : Prop := e = .returned (.tuple #[.float .f32 d.1, .float .f32 d.2.1, .bool d.2.2]) ∧ Ext w w'

set_option maxRecDepth 20000 in
set_option maxHeartbeats 4000000 in
theorem specSpanOfChain_any (A : Option Addr) (n cap : Nat) (B : Option Addr) (m cap' : Nat) (xs ys : List Nat) (w : World) (hr : Rds w A n (flts xs)) (hq : Rds w B m (flts ys)) (_hwx : ∀ x ∈ xs, x < 4294967296) (hwf : ∀ x ∈ ys, x < 4294967296) :
    Calls Try.prog 56 #[.agg #[.slice A n cap, .slice B m cap']] w (RetFFB w (spanD xs ys)) := by
  have HL := Lib.hid hr.flen
  have HL2 := Lib.hid hq.flen
  have Hwf := Lib.hid hwf
  clear hwf _hwx
  cases hc : isCh xs ys with
  | false =>
    have hd : spanD xs ys = (0, 0, false) := by simp [spanD, hc]
    rw [hd]
    go_enter Try.func56, Try.ntmps56
    go_upto_region 1 with (fail)
    obtain ⟨w0, hw0⟩ : ∃ w0, w0 = (w.alloc (.cells #[.slice A n cap, .slice B m cap'] 27)) := ⟨_, rfl⟩
    have hx0 : Ext w w0 := by subst hw0; exact (Ext.refl _).alloc _
    have ba : Blk w0 (w.heap.size) #[.slice A n cap, .slice B m cap'] 27 := by subst hw0; exact (Blk.new w _ _)
    rw [← hw0]
    clear hw0
    go_wp2_with fail
    refine (l04Is_any _ A n cap B m cap' xs ys _ (CAt.of ba (hr.below hx0) (hq.below hx0))).mono ?_
    rintro e w1 ⟨rfl, hx⟩
    rw [hc]
    go_wp2_with fail
    go_ret3
    exact ⟨rfl, hx0.trans hx⟩
  | true =>
    have hd : spanD xs ys = giveFF (lowF xs ys n) (highF xs ys n) := by simp [spanD, hc, HL.out]
    obtain ⟨hnm, hn1, hn12⟩ := ch_nat hc
    rw [HL.out] at hnm hn1 hn12
    rw [HL2.out] at hnm
    have Hfy := Lib.hid (ch_fin hc).2
    rw [hd]
    clear hd
    obtain ⟨d, hd⟩ : ∃ d, d = giveFF (lowF xs ys n) (highF xs ys n) := ⟨_, rfl⟩
    have Hd := Lib.hid hd
    rw [← hd]
    clear hd
    go_enter Try.func56, Try.ntmps56
    go_upto_region 1 with (fail)
    obtain ⟨w0, hw0⟩ : ∃ w0, w0 = (w.alloc (.cells #[.slice A n cap, .slice B m cap'] 27)) := ⟨_, rfl⟩
    have hx0 : Ext w w0 := by subst hw0; exact (Ext.refl _).alloc _
    have ba : Blk w0 (w.heap.size) #[.slice A n cap, .slice B m cap'] 27 := by subst hw0; exact (Blk.new w _ _)
    rw [← hw0]
    clear hw0
    go_wp2_with fail
    refine (l04Is_any _ A n cap B m cap' xs ys _ (CAt.of ba (hr.below hx0) (hq.below hx0))).mono ?_
    rintro e w1 ⟨rfl, hx⟩
    rw [hc]
    replace hx0 := hx0.trans hx
    replace ba := ba.ext hx
    clear hx
    go_wp2_with fail
    refine (l04Span_any _ A n cap B m cap' xs ys _ (CAt.of ba (hr.below hx0) (hq.below hx0)) hnm hn12 Hfy.out Hwf.out).mono ?_
    rintro e w2 ⟨l, h, rfl, hl, hh, hx⟩
    replace hx0 := hx0.trans hx
    have HD : Hid (d = giveFF (c32 l) (c32 h)) := by show _ = _; rw [Hd.out, hl, hh]
    clear hx hl hh
    cases h1 : isFin .f32 l with
    | false =>
      have HE : Hid (d = (0, 0, false)) := by show _ = _; rw [HD.out, giveFF_bad (by rw [h1]; rfl)]
      go_wp2_with fail
      refine (l01Finite_any l _).mono ?_
      rintro e w3 ⟨rfl, hx⟩
      rw [h1]
      go_wp2_with fail
      go_ret3
      exact ⟨by rw [HE.out]; rfl, hx0.trans hx⟩
    | true =>
      cases h2 : isFin .f32 h with
      | false =>
        have HE : Hid (d = (0, 0, false)) := by show _ = _; rw [HD.out, giveFF_bad (by rw [h1, h2]; rfl)]
        go_wp2_with fail
        refine (l01Finite_any l _).mono ?_
        rintro e w3 ⟨rfl, hx⟩
        rw [h1]
        replace hx0 := hx0.trans hx
        go_wp2_with fail
        refine (l01Finite_any h _).mono ?_
        rintro e w4 ⟨rfl, hx⟩
        rw [h2]
        go_wp2_with fail
        go_ret3
        exact ⟨by rw [HE.out]; rfl, hx0.trans hx⟩
      | true =>
        have HE : Hid (d = (l, h, true)) := by show _ = _; rw [HD.out, giveFF_good h1 h2]
        go_wp2_with fail
        refine (l01Finite_any l _).mono ?_
        rintro e w3 ⟨rfl, hx⟩
        rw [h1]
        replace hx0 := hx0.trans hx
        go_wp2_with fail
        refine (l01Finite_any h _).mono ?_
        rintro e w4 ⟨rfl, hx⟩
        rw [h2]
        go_wp2_with fail
        go_ret3
        exact ⟨by rw [HE.out]; rfl, hx0.trans hx⟩

set_option maxRecDepth 20000 in
set_option maxHeartbeats 4000000 in
theorem implSpanOfChain_any (A : Option Addr) (n cap : Nat) (B : Option Addr) (m cap' : Nat) (xs ys : List Nat) (w : World) (hr : Rds w A n (flts xs)) (hq : Rds w B m (flts ys)) :
    Calls Try.prog 57 #[.agg #[.slice A n cap, .slice B m cap']] w (RetFFB w (spanD xs ys)) := by
  have HL := Lib.hid hr.flen
  have HL2 := Lib.hid hq.flen
  cases hc : isCh xs ys with
  | false =>
    have hd : spanD xs ys = (0, 0, false) := by simp [spanD, hc]
    rw [hd]
    go_enter Try.func57, Try.ntmps57
    go_upto_region 1 with (fail)
    obtain ⟨w0, hw0⟩ : ∃ w0, w0 = (w.alloc (.cells #[.slice A n cap, .slice B m cap'] 27)) := ⟨_, rfl⟩
    have hx0 : Ext w w0 := by subst hw0; exact (Ext.refl _).alloc _
    have ba : Blk w0 (w.heap.size) #[.slice A n cap, .slice B m cap'] 27 := by subst hw0; exact (Blk.new w _ _)
    rw [← hw0]
    clear hw0
    have a0 := ba.cell 0 rfl
    have a1 := ba.cell 1 rfl
    go_wp2_with fail
    refine (implValidChain_any A n cap B m cap' xs ys _ (hr.below hx0) (hq.below hx0)).mono ?_
    rintro e w1 ⟨rfl, hx⟩
    rw [hc]
    go_wp2_with fail
    go_ret3
    exact ⟨rfl, hx0.trans hx⟩
  | true =>
    have hd : spanD xs ys = giveFF (lowF xs ys n) (highF xs ys n) := by simp [spanD, hc, HL.out]
    obtain ⟨hnm, hn1, hn12⟩ := ch_nat hc
    rw [HL.out] at hnm hn1 hn12
    rw [HL2.out] at hnm
    have Hfy := Lib.hid (ch_fin hc).2
    rw [hd]
    clear hd
    obtain ⟨d, hd⟩ : ∃ d, d = giveFF (lowF xs ys n) (highF xs ys n) := ⟨_, rfl⟩
    have Hd := Lib.hid hd
    rw [← hd]
    clear hd
    go_enter Try.func57, Try.ntmps57
    go_upto_region 1 with (fail)
    obtain ⟨w0, hw0⟩ : ∃ w0, w0 = (w.alloc (.cells #[.slice A n cap, .slice B m cap'] 27)) := ⟨_, rfl⟩
    have hx0 : Ext w w0 := by subst hw0; exact (Ext.refl _).alloc _
    have ba : Blk w0 (w.heap.size) #[.slice A n cap, .slice B m cap'] 27 := by subst hw0; exact (Blk.new w _ _)
    rw [← hw0]
    clear hw0
    have a0 := ba.cell 0 rfl
    have a1 := ba.cell 1 rfl
    go_wp2_with fail
    refine (implValidChain_any A n cap B m cap' xs ys _ (hr.below hx0) (hq.below hx0)).mono ?_
    rintro e w1 ⟨rfl, hx⟩
    rw [hc]
    replace hx0 := hx0.trans hx
    replace ba := ba.ext hx
    clear hx a0 a1
    have a0 := ba.cell 0 rfl
    have a1 := ba.cell 1 rfl
    go_wp2_with fail
    refine (span_any A n cap B m cap' xs ys _ (hr.below hx0) (hq.below hx0) hnm hn12 Hfy.out).mono ?_
    rintro e w2 ⟨l, h, rfl, hl, hh, hx⟩
    replace hx0 := hx0.trans hx
    have HD : Hid (d = giveFF (c32 l) (c32 h)) := by show _ = _; rw [Hd.out, hl, hh]
    clear hx hl hh a0 a1
    cases h1 : (isFin .f32 l && isFin .f32 h) with
    | false =>
      have HE : Hid (d = (0, 0, false)) := by show _ = _; rw [HD.out, giveFF_bad h1]
      go_wp2_with fail
      refine (areFinite_any _ 2 _ [l, h] _ (rds_two w2 l h)).mono ?_
      rintro e w3 ⟨rfl, hx⟩
      rw [finL_two, h1]
      go_wp2_with fail
      go_ret3
      exact ⟨by rw [HE.out]; rfl, (hx0.alloc _).trans hx⟩
    | true =>
      have h2 := h1
      rw [Bool.and_eq_true] at h2
      have HE : Hid (d = (l, h, true)) := by show _ = _; rw [HD.out, giveFF_good h2.1 h2.2]
      clear h2
      go_wp2_with fail
      refine (areFinite_any _ 2 _ [l, h] _ (rds_two w2 l h)).mono ?_
      rintro e w3 ⟨rfl, hx⟩
      rw [finL_two, h1]
      go_wp2_with fail
      go_ret3
      exact ⟨by rw [HE.out]; rfl, (hx0.alloc _).trans hx⟩

end Go.Proofs.Ytgjfdfmbknmpaaa
