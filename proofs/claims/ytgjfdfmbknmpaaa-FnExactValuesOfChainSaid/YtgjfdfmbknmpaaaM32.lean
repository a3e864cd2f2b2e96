import Derived.Test.YtgjfdfmbknmpaaaM31
import Derived.Test.YtgjfdfmbknmpaaaM24
set_option linter.unusedVariables false
set_option linter.unusedSimpArgs false
namespace Go.Proofs.Ytgjfdfmbknmpaaa
open Go.RowKit

def rayD (r c : Int) (xs vs : List Nat) : Nat × Bool :=
  if (timesD r c xs vs).2 && decide (r = c) && !eq0 (dotL vs vs vs.length) then giveF (fdiv (dotL vs (timesD r c xs vs).1 vs.length) (dotL vs vs vs.length)) else (0, false)
theorem rayD_fin (r c : Int) (xs vs : List Nat) : isFin .f32 (rayD r c xs vs).1 = true := by
  unfold rayD
  split
  · exact giveF_fin _
  · decide
theorem times_ok {r c : Int} {xs vs ys : List Nat} (h : (ys, true) = timesD r c xs vs) : timesB r c xs vs = true ∧ ys.length = r.toNat := by
  unfold timesD at h
  split at h
  · rename_i hb
    refine ⟨hb, ?_⟩
    unfold giveL at h
    split at h
    · have := congrArg (fun p : List Nat × Bool => p.1.length) h
      simp only [wordsL, timesF, List.length_map, List.length_range] at this
      exact this
    · cases h
  · cases h
theorem ray_1 {r c : Int} {xs vs ys : List Nat} (h : (ys, false) = timesD r c xs vs) : rayD r c xs vs = (0, false) := by unfold rayD; rw [← h]; rfl
theorem ray_2 {r c : Int} {xs vs : List Nat} (h : r ≠ c) : rayD r c xs vs = (0, false) := by unfold rayD; rw [decide_eq_false h, Bool.and_false]; rfl
theorem ray_3 {r c : Int} {xs vs : List Nat} (h : eq0 (dotL vs vs vs.length) = true) : rayD r c xs vs = (0, false) := by unfold rayD; rw [h]; simp
theorem ray_4 {r c : Int} {xs vs ys : List Nat} (h : (ys, true) = timesD r c xs vs) (h2 : r = c) (h3 : eq0 (dotL vs vs vs.length) = false) : rayD r c xs vs = giveF (fdiv (dotL vs ys vs.length) (dotL vs vs vs.length)) := by
  unfold rayD; rw [← h, h3, decide_eq_true h2]; rfl

set_option maxRecDepth 20000 in
set_option maxHeartbeats 4000000 in
theorem implRayleighOf_any (r c : Int) (A : Option Addr) (n cap : Nat) (B : Option Addr) (m cap' : Nat) (xs vs : List Nat) (w : World) (hr : Rds w A n (flts xs)) (hq : Rds w B m (flts vs)) (hcap : n ≤ cap) (hcap' : m ≤ cap') :
    Calls Try.prog 85 #[.agg #[.int .i64 r, .int .i64 c, .slice A n cap], .slice B m cap'] w (RetND w (rayD r c xs vs)) := by
  have HL' := Lib.hid hq.flen
  obtain ⟨⟨ys, ok⟩, hd⟩ : ∃ d, d = timesD r c xs vs := ⟨_, rfl⟩
  have Hd := Lib.hid hd
  cases ok with
  | false =>
    rw [ray_1 hd]
    clear hd
    go_enter Try.func85, Try.ntmps85
    go_upto_region 1 with (fail)
    obtain ⟨w0, hw0⟩ : ∃ w0, w0 = (w.alloc (.cells #[.int .i64 r, .int .i64 c, .slice A n cap] 35)) := ⟨_, rfl⟩
    have hx0 : Ext w w0 := by subst hw0; exact (Ext.refl _).alloc _
    have ba : Blk w0 (w.heap.size) #[.int .i64 r, .int .i64 c, .slice A n cap] 35 := by subst hw0; exact (Blk.new w _ _)
    rw [← hw0]
    clear hw0
    obtain ⟨c0, c1, c2, hr1⟩ := MAt.blk ba (hr.below hx0)
    go_wp2_with fail
    refine (implTimesVector_any r c A n cap B m cap' xs vs _ (hr.below hx0) (hq.below hx0) hcap hcap').mono ?_
    rw [← Hd.out]
    rintro e w1 ⟨A', k', rfl, ho, hx⟩
    clear c0 c1 c2 hr1
    go_wp2_with fail
    go_ret2
    exact ⟨rfl, hx0.trans hx⟩
  | true =>
    obtain ⟨hb, hyl⟩ := times_ok hd
    by_cases hrc : r = c
    · have hrc' : (r != c) = false := by simp [hrc]
      obtain ⟨_, _, hvl⟩ := times_of hb
      rw [HL'.out] at hvl
      have hym : m ≤ ys.length := by omega
      clear hyl hvl
      cases he : eq0 (dotL vs vs m) with
      | true =>
        rw [ray_3 (by rw [HL'.out]; exact he)]
        have Hrc := Lib.hid hrc
        clear hd hrc hb
        go_enter Try.func85, Try.ntmps85
        go_upto_region 1 with (fail)
        obtain ⟨w0, hw0⟩ : ∃ w0, w0 = (w.alloc (.cells #[.int .i64 r, .int .i64 c, .slice A n cap] 35)) := ⟨_, rfl⟩
        have hx0 : Ext w w0 := by subst hw0; exact (Ext.refl _).alloc _
        have ba : Blk w0 (w.heap.size) #[.int .i64 r, .int .i64 c, .slice A n cap] 35 := by subst hw0; exact (Blk.new w _ _)
        rw [← hw0]
        clear hw0
        obtain ⟨c0, c1, c2, hr1⟩ := MAt.blk ba (hr.below hx0)
        go_wp2_with fail
        refine (implTimesVector_any r c A n cap B m cap' xs vs _ (hr.below hx0) (hq.below hx0) hcap hcap').mono ?_
        rw [← Hd.out]
        rintro e w1 ⟨A', k', rfl, ho, hx⟩
        replace hx0 := hx0.trans hx
        replace ba := ba.ext hx
        clear c0 c1 c2 hr1 hx
        obtain ⟨c0, c1, c2, hr1⟩ := MAt.blk ba (hr.below hx0)
        go_wp2_with fail
        refine (dot_any B B m m cap' cap' vs vs _ (Nat.le_refl _) (hq.below hx0) (hq.below hx0)).mono ?_
        rintro e w2 ⟨l, rfl, hlo, hx⟩
        have hle : (FloatKind.f32.format.order l 0 == some .eq) = true := by rw [eq0_c32, hlo]; exact he
        clear c0 c1 c2 hr1
        go_wp2_with fail
        go_ret2
        exact ⟨rfl, hx0.trans hx⟩
      | false =>
        rw [ray_4 hd hrc (by rw [HL'.out]; exact he)]
        have Hrc := Lib.hid hrc
        clear hd hrc hb
        go_enter Try.func85, Try.ntmps85
        go_upto_region 1 with (fail)
        obtain ⟨w0, hw0⟩ : ∃ w0, w0 = (w.alloc (.cells #[.int .i64 r, .int .i64 c, .slice A n cap] 35)) := ⟨_, rfl⟩
        have hx0 : Ext w w0 := by subst hw0; exact (Ext.refl _).alloc _
        have ba : Blk w0 (w.heap.size) #[.int .i64 r, .int .i64 c, .slice A n cap] 35 := by subst hw0; exact (Blk.new w _ _)
        rw [← hw0]
        clear hw0
        obtain ⟨c0, c1, c2, hr1⟩ := MAt.blk ba (hr.below hx0)
        go_wp2_with fail
        refine (implTimesVector_any r c A n cap B m cap' xs vs _ (hr.below hx0) (hq.below hx0) hcap hcap').mono ?_
        rw [← Hd.out]
        rintro e w1 ⟨A', k', rfl, ho, hx⟩
        have hor : Rds w1 A' ys.length (flts ys) := ho.reads
        replace hx0 := hx0.trans hx
        replace ba := ba.ext hx
        clear c0 c1 c2 hr1 hx ho
        obtain ⟨c0, c1, c2, hr1⟩ := MAt.blk ba (hr.below hx0)
        go_wp2_with fail
        refine (dot_any B B m m cap' cap' vs vs _ (Nat.le_refl _) (hq.below hx0) (hq.below hx0)).mono ?_
        rintro e w2 ⟨l, rfl, hlo, hx⟩
        have hle : (FloatKind.f32.format.order l 0 == some .eq) = false := by rw [eq0_c32, hlo]; exact he
        replace hx0 := hx0.trans hx
        replace hor := hor.below hx
        clear c0 c1 c2 hr1 hx ba hlo
        go_wp2_with fail
        refine (dot_any B A' m ys.length cap' k' vs ys _ hym (hq.below hx0) hor).mono ?_
        rintro e w3 ⟨s, rfl, hso, hx⟩
        replace hx0 := hx0.trans hx
        clear hx hor
        go_wp2_with fail
        refine (dot_any B B m m cap' cap' vs vs _ (Nat.le_refl _) (hq.below hx0) (hq.below hx0)).mono ?_
        rintro e w4 ⟨t, rfl, hto, hx⟩
        replace hx0 := hx0.trans hx
        clear hx
        obtain ⟨g, w5, hrr, hx5, hc⟩ := run_fop (P := Try.prog) w4 .quo (.inr (.inr (.inr rfl))) 39 .f32 s t
        go_wp2_with (simp only [hrr])
        refine (finite_any g _).mono ?_
        have hc' : c32 g = fdiv (dotL vs ys vs.length) (dotL vs vs vs.length) := by rw [HL'.out, ← hso, ← hto]; exact hc
        rw [hc']
        intro e w6 h6
        obtain ⟨he6, hx6⟩ := h6.nd
        subst he6
        go_wp2_with fail
        go_ret2
        exact ⟨rfl, (hx0.trans hx5).trans hx6⟩
    · have hrc' : (r != c) = true := by simp [hrc]
      rw [ray_2 hrc]
      clear hd
      go_enter Try.func85, Try.ntmps85
      go_upto_region 1 with (fail)
      obtain ⟨w0, hw0⟩ : ∃ w0, w0 = (w.alloc (.cells #[.int .i64 r, .int .i64 c, .slice A n cap] 35)) := ⟨_, rfl⟩
      have hx0 : Ext w w0 := by subst hw0; exact (Ext.refl _).alloc _
      have ba : Blk w0 (w.heap.size) #[.int .i64 r, .int .i64 c, .slice A n cap] 35 := by subst hw0; exact (Blk.new w _ _)
      rw [← hw0]
      clear hw0
      obtain ⟨c0, c1, c2, hr1⟩ := MAt.blk ba (hr.below hx0)
      go_wp2_with fail
      refine (implTimesVector_any r c A n cap B m cap' xs vs _ (hr.below hx0) (hq.below hx0) hcap hcap').mono ?_
      rw [← Hd.out]
      rintro e w1 ⟨A', k', rfl, ho, hx⟩
      replace hx0 := hx0.trans hx
      replace ba := ba.ext hx
      clear c0 c1 c2 hr1 hx
      obtain ⟨c0, c1, c2, hr1⟩ := MAt.blk ba (hr.below hx0)
      go_wp2_with fail
      go_ret2
      exact ⟨rfl, hx0⟩

theorem sq_ne {r c : Int} {xs vs ys : List Nat} (h : isSq r c xs = false) (hd : (ys, true) = timesD r c xs vs) : r ≠ c := by
  have hm := (times_of (times_ok hd).1).1
  intro e
  unfold isSq at h
  rw [hm, decide_eq_true e] at h
  cases h
theorem sq_ray {r c : Int} {xs vs : List Nat} (h : isSq r c xs = false) : rayD r c xs vs = (0, false) := by
  obtain ⟨⟨ys, ok⟩, hd⟩ : ∃ d, d = timesD r c xs vs := ⟨_, rfl⟩
  cases ok with
  | false => exact ray_1 hd
  | true => exact ray_2 (sq_ne h hd)

set_option maxRecDepth 20000 in
set_option maxHeartbeats 4000000 in
theorem specRayleighOf_any (r c : Int) (A : Option Addr) (n cap : Nat) (B : Option Addr) (m cap' : Nat) (xs vs : List Nat) (w : World) (hr : Rds w A n (flts xs)) (hq : Rds w B m (flts vs)) (hcap : n ≤ cap) (hcap' : m ≤ cap') :
    Calls Try.prog 84 #[.agg #[.int .i64 r, .int .i64 c, .slice A n cap], .slice B m cap'] w (RetND w (rayD r c xs vs)) := by
  have HL' := Lib.hid hq.flen
  cases hv : isSq r c xs with
  | false =>
    rw [sq_ray hv]
    go_enter Try.func84, Try.ntmps84
    go_upto_region 1 with (fail)
    obtain ⟨w0, hw0⟩ : ∃ w0, w0 = (w.alloc (.cells #[.int .i64 r, .int .i64 c, .slice A n cap] 35)) := ⟨_, rfl⟩
    have hx0 : Ext w w0 := by subst hw0; exact (Ext.refl _).alloc _
    have ba : Blk w0 (w.heap.size) #[.int .i64 r, .int .i64 c, .slice A n cap] 35 := by subst hw0; exact (Blk.new w _ _)
    rw [← hw0]
    clear hw0
    go_wp2_with fail
    refine (l02Square_any _ r c A n cap xs _ (MAt.blk ba (hr.below hx0))).mono ?_
    rintro e w1 ⟨rfl, hx⟩
    rw [hv]
    replace hx0 := hx0.trans hx
    clear  hx
    go_wp2_with fail
    go_ret2
    exact ⟨rfl, hx0⟩
  | true =>
    obtain ⟨hv', hrc⟩ := sq_nat hv
    obtain ⟨⟨ys, ok⟩, hd⟩ : ∃ d, d = timesD r c xs vs := ⟨_, rfl⟩
    have Hd := Lib.hid hd
    have Hrc := Lib.hid hrc
    cases ok with
    | false =>
      rw [ray_1 hd]
      clear hd hrc
      go_enter Try.func84, Try.ntmps84
      go_upto_region 1 with (fail)
      obtain ⟨w0, hw0⟩ : ∃ w0, w0 = (w.alloc (.cells #[.int .i64 r, .int .i64 c, .slice A n cap] 35)) := ⟨_, rfl⟩
      have hx0 : Ext w w0 := by subst hw0; exact (Ext.refl _).alloc _
      have ba : Blk w0 (w.heap.size) #[.int .i64 r, .int .i64 c, .slice A n cap] 35 := by subst hw0; exact (Blk.new w _ _)
      rw [← hw0]
      clear hw0
      go_wp2_with fail
      refine (l02Square_any _ r c A n cap xs _ (MAt.blk ba (hr.below hx0))).mono ?_
      rintro e w1 ⟨rfl, hx⟩
      rw [hv]
      replace ba := ba.ext hx
      replace hx0 := hx0.trans hx
      clear  hx
      obtain ⟨c0, c1, c2, hr1⟩ := MAt.blk ba (hr.below hx0)
      go_wp2_with fail
      refine (specTimesVector_any r c A n cap B m cap' xs vs _ (hr.below hx0) (hq.below hx0) hcap hcap').mono ?_
      rw [← Hd.out]
      rintro e w2 ⟨A', k', rfl, ho, hx⟩
      clear c0 c1 c2 hr1
      go_wp2_with fail
      go_ret2
      exact ⟨rfl, hx0.trans hx⟩
    | true =>
      obtain ⟨hb, hyl⟩ := times_ok hd
      obtain ⟨_, _, hvl⟩ := times_of hb
      rw [HL'.out] at hvl
      have hym : m ≤ ys.length := by omega
      clear hyl hvl
      cases he : eq0 (dotL vs vs m) with
      | true =>
        rw [ray_3 (by rw [HL'.out]; exact he)]
        clear hd hrc hb
        go_enter Try.func84, Try.ntmps84
        go_upto_region 1 with (fail)
        obtain ⟨w0, hw0⟩ : ∃ w0, w0 = (w.alloc (.cells #[.int .i64 r, .int .i64 c, .slice A n cap] 35)) := ⟨_, rfl⟩
        have hx0 : Ext w w0 := by subst hw0; exact (Ext.refl _).alloc _
        have ba : Blk w0 (w.heap.size) #[.int .i64 r, .int .i64 c, .slice A n cap] 35 := by subst hw0; exact (Blk.new w _ _)
        rw [← hw0]
        clear hw0
        go_wp2_with fail
        refine (l02Square_any _ r c A n cap xs _ (MAt.blk ba (hr.below hx0))).mono ?_
        rintro e w1 ⟨rfl, hx⟩
        rw [hv]
        replace ba := ba.ext hx
        replace hx0 := hx0.trans hx
        clear  hx
        obtain ⟨c0, c1, c2, hr1⟩ := MAt.blk ba (hr.below hx0)
        go_wp2_with fail
        refine (specTimesVector_any r c A n cap B m cap' xs vs _ (hr.below hx0) (hq.below hx0) hcap hcap').mono ?_
        rw [← Hd.out]
        rintro e w2 ⟨A', k', rfl, ho, hx⟩
        replace hx0 := hx0.trans hx
        clear c0 c1 c2 hr1 hx
        go_wp2_with fail
        refine (l02Dot_any B B m m cap' cap' vs vs _ (Nat.le_refl _) (hq.below hx0) (hq.below hx0)).mono ?_
        rintro e w3 ⟨l, rfl, hlo, hx⟩
        have hle : (FloatKind.f32.format.order l 0 == some .eq) = true := by rw [eq0_c32, hlo]; exact he
        go_wp2_with fail
        go_ret2
        exact ⟨rfl, hx0.trans hx⟩
      | false =>
        rw [ray_4 hd hrc.symm (by rw [HL'.out]; exact he)]
        clear hd hrc hb
        go_enter Try.func84, Try.ntmps84
        go_upto_region 1 with (fail)
        obtain ⟨w0, hw0⟩ : ∃ w0, w0 = (w.alloc (.cells #[.int .i64 r, .int .i64 c, .slice A n cap] 35)) := ⟨_, rfl⟩
        have hx0 : Ext w w0 := by subst hw0; exact (Ext.refl _).alloc _
        have ba : Blk w0 (w.heap.size) #[.int .i64 r, .int .i64 c, .slice A n cap] 35 := by subst hw0; exact (Blk.new w _ _)
        rw [← hw0]
        clear hw0
        go_wp2_with fail
        refine (l02Square_any _ r c A n cap xs _ (MAt.blk ba (hr.below hx0))).mono ?_
        rintro e w1 ⟨rfl, hx⟩
        rw [hv]
        replace ba := ba.ext hx
        replace hx0 := hx0.trans hx
        clear  hx
        obtain ⟨c0, c1, c2, hr1⟩ := MAt.blk ba (hr.below hx0)
        go_wp2_with fail
        refine (specTimesVector_any r c A n cap B m cap' xs vs _ (hr.below hx0) (hq.below hx0) hcap hcap').mono ?_
        rw [← Hd.out]
        rintro e w2 ⟨A', k', rfl, ho, hx⟩
        have hor : Rds w2 A' ys.length (flts ys) := ho.reads
        replace hx0 := hx0.trans hx
        clear c0 c1 c2 hr1 hx ho
        go_wp2_with fail
        refine (l02Dot_any B B m m cap' cap' vs vs _ (Nat.le_refl _) (hq.below hx0) (hq.below hx0)).mono ?_
        rintro e w3 ⟨t, rfl, hto, hx⟩
        have hle : (FloatKind.f32.format.order t 0 == some .eq) = false := by rw [eq0_c32, hto]; exact he
        replace hx0 := hx0.trans hx
        replace hor := hor.below hx
        clear hx ba
        go_wp2_with fail
        refine (l02Dot_any B A' m ys.length cap' k' vs ys _ hym (hq.below hx0) hor).mono ?_
        rintro e w4 ⟨s, rfl, hso, hx⟩
        replace hx0 := hx0.trans hx
        clear hx hor hle
        obtain ⟨g, w5, hrr, hx5, hc⟩ := run_fop (P := Try.prog) w4 .quo (.inr (.inr (.inr rfl))) 39 .f32 s t
        go_wp2_with (simp only [hrr])
        refine (l02Number_any g _).mono ?_
        have hc' : c32 g = fdiv (dotL vs ys vs.length) (dotL vs vs vs.length) := by rw [HL'.out, ← hso, ← hto]; exact hc
        rw [hc']
        intro e w6 h6
        obtain ⟨he6, hx6⟩ := h6.nd
        subst he6
        go_wp2_with fail
        go_ret2
        exact ⟨rfl, (hx0.trans hx5).trans hx6⟩

end Go.Proofs.Ytgjfdfmbknmpaaa
