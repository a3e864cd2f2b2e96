import Derived.Test.YtgjfdfmbknmpaaaM30
set_option linter.unusedVariables false
set_option linter.unusedSimpArgs false
namespace Go.Proofs.Ytgjfdfmbknmpaaa
open Go.RowKit

/-- The count of a chain, with its tests. -/
def cntD (xs ys : List Nat) (x : Nat) : Int × Bool := if isCh xs ys && isFin .f32 x then belowD xs ys x else (0, false)
theorem cnt_bad {xs ys : List Nat} {x : Nat} (h : (isCh xs ys && isFin .f32 x) = false) : cntD xs ys x = (0, false) := by simp [cntD, h]
theorem cnt_good {xs ys : List Nat} {x : Nat} (h : (isCh xs ys && isFin .f32 x) = true) : cntD xs ys x = belowD xs ys x := by simp [cntD, h]
theorem ch_nat {xs ys : List Nat} (h : isCh xs ys = true) : ys.length + 1 = xs.length ∧ 1 ≤ xs.length ∧ xs.length ≤ 12 := by
  unfold isCh at h
  simp only [Bool.and_eq_true, decide_eq_true_eq] at h
  have b := inR_iff.1 h.1.1.1
  omega

set_option maxRecDepth 20000 in
set_option maxHeartbeats 4000000 in
theorem specCountBelow_any (A : Option Addr) (n cap : Nat) (B : Option Addr) (m cap' : Nat) (x : Nat) (xs ys : List Nat) (w : World) (hr : Rds w A n (flts xs)) (hq : Rds w B m (flts ys)) :
    Calls Try.prog 50 #[.agg #[.slice A n cap, .slice B m cap'], .float .f32 x] w (RetID w (cntD xs ys x)) := by
  have HL := Lib.hid hr.flen
  have HL2 := Lib.hid hq.flen
  cases hc : isCh xs ys with
  | false =>
    have hd := cnt_bad (xs := xs) (ys := ys) (x := x) (by rw [hc]; rfl)
    rw [hd]
    go_enter Try.func50, Try.ntmps50
    go_upto_region 1 with (fail)
    obtain ⟨w0, hw0⟩ : ∃ w0, w0 = (w.alloc (.cells #[.slice A n cap, .slice B m cap'] 27)) := ⟨_, rfl⟩
    have hx0 : Ext w w0 := by subst hw0; exact (Ext.refl _).alloc _
    have ba : Blk w0 (w.heap.size) #[.slice A n cap, .slice B m cap'] 27 := by subst hw0; exact (Blk.new w _ _)
    rw [← hw0]
    clear hw0
    go_wp2_with fail
    refine (l04Is_any _ A n cap B m cap' xs ys _ (CAt.of ba (hr.below hx0) (hq.below hx0))).mono ?_
    rintro e w1 ⟨rfl, hx⟩
    rw [hc]
    go_wp2_with fail
    go_ret2
    exact ⟨rfl, hx0.trans hx⟩
  | true =>
    cases hf : isFin .f32 x with
    | false =>
      have hd := cnt_bad (xs := xs) (ys := ys) (x := x) (by rw [hc, hf]; rfl)
      rw [hd]
      go_enter Try.func50, Try.ntmps50
      go_upto_region 1 with (fail)
      obtain ⟨w0, hw0⟩ : ∃ w0, w0 = (w.alloc (.cells #[.slice A n cap, .slice B m cap'] 27)) := ⟨_, rfl⟩
      have hx0 : Ext w w0 := by subst hw0; exact (Ext.refl _).alloc _
      have ba : Blk w0 (w.heap.size) #[.slice A n cap, .slice B m cap'] 27 := by subst hw0; exact (Blk.new w _ _)
      rw [← hw0]
      clear hw0
      go_wp2_with fail
      refine (l04Is_any _ A n cap B m cap' xs ys _ (CAt.of ba (hr.below hx0) (hq.below hx0))).mono ?_
      rintro e w1 ⟨rfl, hx⟩
      rw [hc]
      go_wp2_with fail
      refine (l01Finite_any x _).mono ?_
      rintro e w2 ⟨rfl, hx2⟩
      rw [hf]
      go_wp2_with fail
      go_ret2
      exact ⟨rfl, (hx0.trans hx).trans hx2⟩
    | true =>
      have hd := cnt_good (xs := xs) (ys := ys) (x := x) (by rw [hc, hf]; rfl)
      have hN := ch_nat hc
      rw [HL.out, HL2.out] at hN
      rw [hd]
      clear hd
      obtain ⟨d, hd⟩ : ∃ d, d = belowD xs ys x := ⟨_, rfl⟩
      have Hd := Lib.hid hd
      rw [← hd]
      clear hd
      go_enter Try.func50, Try.ntmps50
      go_upto_region 1 with (fail)
      obtain ⟨w0, hw0⟩ : ∃ w0, w0 = (w.alloc (.cells #[.slice A n cap, .slice B m cap'] 27)) := ⟨_, rfl⟩
      have hx0 : Ext w w0 := by subst hw0; exact (Ext.refl _).alloc _
      have ba : Blk w0 (w.heap.size) #[.slice A n cap, .slice B m cap'] 27 := by subst hw0; exact (Blk.new w _ _)
      rw [← hw0]
      clear hw0
      go_wp2_with fail
      refine (l04Is_any _ A n cap B m cap' xs ys _ (CAt.of ba (hr.below hx0) (hq.below hx0))).mono ?_
      rintro e w1 ⟨rfl, hx⟩
      rw [hc]
      go_wp2_with fail
      refine (l01Finite_any x _).mono ?_
      rintro e w2 ⟨rfl, hx2⟩
      rw [hf]
      replace hx0 := (hx0.trans hx).trans hx2
      replace ba := (ba.ext hx).ext hx2
      clear hx hx2
      go_wp2_with fail
      refine (l04Below_any _ A n cap B m cap' xs ys x _ (CAt.of ba (hr.below hx0) (hq.below hx0)) hN.1 hN.2.2).mono ?_
      rw [← Hd.out]
      rintro e w3 ⟨rfl, hx⟩
      go_wp2_with fail
      go_ret2
      exact ⟨rfl, hx0.trans hx⟩

set_option maxRecDepth 20000 in
set_option maxHeartbeats 4000000 in
theorem implCountBelow_any (A : Option Addr) (n cap : Nat) (B : Option Addr) (m cap' : Nat) (x : Nat) (xs ys : List Nat) (w : World) (hr : Rds w A n (flts xs)) (hq : Rds w B m (flts ys)) :
    Calls Try.prog 51 #[.agg #[.slice A n cap, .slice B m cap'], .float .f32 x] w (RetID w (cntD xs ys x)) := by
  have HL := Lib.hid hr.flen
  have HL2 := Lib.hid hq.flen
  have hs1 := hr.small
  cases hc : isCh xs ys with
  | false =>
    have hd := cnt_bad (xs := xs) (ys := ys) (x := x) (by rw [hc]; rfl)
    rw [hd]
    go_enter Try.func51, Try.ntmps51
    go_upto_region 1 with (fail)
    obtain ⟨w0, hw0⟩ : ∃ w0, w0 = (w.alloc (.cells #[.slice A n cap, .slice B m cap'] 27)) := ⟨_, rfl⟩
    have hx0 : Ext w w0 := by subst hw0; exact (Ext.refl _).alloc _
    have ba : Blk w0 (w.heap.size) #[.slice A n cap, .slice B m cap'] 27 := by subst hw0; exact (Blk.new w _ _)
    rw [← hw0]
    clear hw0
    have a0 := ba.cell 0 rfl
    have a1 := ba.cell 1 rfl
    go_wp2_with fail
    refine (implValidChain_any A n cap B m cap' xs ys _ (hr.below hx0) (hq.below hx0)).mono ?_
    rintro e w1 ⟨rfl, hx⟩
    rw [hc]
    go_wp2_with fail
    go_ret2
    exact ⟨rfl, hx0.trans hx⟩
  | true =>
    cases hf : isFin .f32 x with
    | false =>
      have hd := cnt_bad (xs := xs) (ys := ys) (x := x) (by rw [hc, hf]; rfl)
      rw [hd]
      go_enter Try.func51, Try.ntmps51
      go_upto_region 1 with (fail)
      obtain ⟨w0, hw0⟩ : ∃ w0, w0 = (w.alloc (.cells #[.slice A n cap, .slice B m cap'] 27)) := ⟨_, rfl⟩
      have hx0 : Ext w w0 := by subst hw0; exact (Ext.refl _).alloc _
      have ba : Blk w0 (w.heap.size) #[.slice A n cap, .slice B m cap'] 27 := by subst hw0; exact (Blk.new w _ _)
      rw [← hw0]
      clear hw0
      have a0 := ba.cell 0 rfl
      have a1 := ba.cell 1 rfl
      go_wp2_with fail
      refine (implValidChain_any A n cap B m cap' xs ys _ (hr.below hx0) (hq.below hx0)).mono ?_
      rintro e w1 ⟨rfl, hx⟩
      rw [hc]
      go_wp2_with fail
      refine (IsFinite_any x _).mono ?_
      rintro e w2 ⟨rfl, hx2⟩
      rw [hf]
      go_wp2_with fail
      go_ret2
      exact ⟨rfl, (hx0.trans hx).trans hx2⟩
    | true =>
      have hd := cnt_good (xs := xs) (ys := ys) (x := x) (by rw [hc, hf]; rfl)
      obtain ⟨hnm, hn1, hn12⟩ := ch_nat hc
      rw [HL.out] at hnm hn1 hn12
      rw [HL2.out] at hnm
      rw [hd]
      clear hd
      obtain ⟨d, hd⟩ : ∃ d, d = belowD xs ys x := ⟨_, rfl⟩
      have Hd := Lib.hid hd
      rw [← hd]
      clear hd
      go_enter Try.func51, Try.ntmps51
      go_upto_region 1 with (fail)
      obtain ⟨w0, hw0⟩ : ∃ w0, w0 = (w.alloc (.cells #[.slice A n cap, .slice B m cap'] 27)) := ⟨_, rfl⟩
      have hx0 : Ext w w0 := by subst hw0; exact (Ext.refl _).alloc _
      have ba : Blk w0 (w.heap.size) #[.slice A n cap, .slice B m cap'] 27 := by subst hw0; exact (Blk.new w _ _)
      rw [← hw0]
      clear hw0
      have a0 := ba.cell 0 rfl
      have a1 := ba.cell 1 rfl
      go_wp2_with fail
      refine (implValidChain_any A n cap B m cap' xs ys _ (hr.below hx0) (hq.below hx0)).mono ?_
      rintro e w1 ⟨rfl, hx⟩
      rw [hc]
      go_wp2_with fail
      refine (IsFinite_any x _).mono ?_
      rintro e w2 ⟨rfl, hx2⟩
      rw [hf]
      replace hx0 := (hx0.trans hx).trans hx2
      replace ba := (ba.ext hx).ext hx2
      clear hx hx2 a0 a1
      have a0 := ba.cell 0 rfl
      go_wp2_with fail
      go_loopw [6, 7, 23] (fun c v u wr => ∃ i p : Nat, i ≤ n ∧ c = .int .i64 (negC xs ys x i) ∧ v = .float .f32 p ∧ u = .int .i64 i ∧ Hid (PivAt xs ys x i p) ∧ Ext w2 wr) (fun _ _ u _ => n - (intOf u).toNat)
      case atStart => exact ⟨0, 0, Nat.zero_le _, rfl, rfl, rfl, PivAt.start _ _ _, Ext.refl _⟩
      case round =>
        clear a0
        obtain ⟨i, p, hi, rfl, rfl, rfl, HP, hx⟩ := hrel
        obtain ⟨N, hN⟩ : ∃ N, N = negC xs ys x i := ⟨_, rfl⟩
        have hNi : N ≤ i := by rw [hN]; exact negC_le _ _ _ _
        rw [← hN]
        have HN := Lib.hid hN
        clear hN
        obtain ⟨c0, c1, hrd, hrq⟩ := (CAt.of ba (hr.below hx0) (hq.below hx0)).ext hx
        by_cases hlt : i < n
        · obtain ⟨ad, rfl, hca⟩ := hrd.fltN i hlt
          obtain ⟨q, hq⟩ : ∃ q, q = rdf xs i := ⟨_, rfl⟩
          rw [← hq] at hca
          have HQ := Lib.hid hq
          clear hq
          obtain ⟨r1, w1, hrr1, hx1, hc1⟩ := run_fop (P := Try.prog) wr .sub (.inr (.inl rfl)) 39 .f32 q x
          by_cases hi0 : i = 0
          · have hca0 : wr.cell? ad = some (.float .f32 q) := by have h := hca; rw [hi0] at h; rwa [show ad.add 0 = ad by cases ad; simp [Addr.add]] at h
            have hraw : c32 r1 = rawF xs ys x i (pivF xs ys x i) := by unfold rawF; rw [if_pos hi0, ← HQ.out]; exact hc1
            have hex := hx.trans hx1
            cases he : eq0 (c32 r1) with
            | true =>
              have hpv := pivF_mend hraw he
              have hnn : (c32 2155872256).isNone = false := by decide
              have hll : (FloatKind.f32.format.order 2155872256 0 == some .lt) = true := by decide
              have hl := negC_lt (xs := xs) (ys := ys) (x := x) (i := i) (by rw [hpv]; decide)
              rw [← eq0_c32] at he
              have HP' := HP.out.next (hpv ▸ c32_tiny) (by decide)
              clear hpv hraw
              go_wp2_with (simp only [hrr1])
              refine (isNotANumber_any 2155872256 _).mono ?_
              rintro e w7 ⟨rfl, hx7⟩
              rw [hnn]
              replace hex := hex.trans hx7
              go_wp2_with fail
              go_roundw
              case rel => exact ⟨i + 1, _, by omega, by rw [hl, ← HN.out]; go_num, rfl, by go_num, HP', hex⟩
              case measure => simp [intOf]; omega
            | false =>
              have hpv := pivF_keep hraw he
              rw [← eq0_c32] at he
              cases hn : (c32 r1).isNone with
              | true =>
                have hd := belowD_bad (xs := xs) (ys := ys) (x := x) (j := i) (by rw [HL.out]; exact hlt) (by rw [hpv]; exact hn)
                clear hpv hraw
                go_wp2_with (simp only [hrr1])
                refine (isNotANumber_any r1 _).mono ?_
                rintro e w7 ⟨rfl, hx7⟩
                rw [hn]
                replace hex := hex.trans hx7
                go_wp2_with fail
                go_ret2
                exact ⟨by rw [Hd.out, hd]; rfl, hx0.trans hex⟩
              | false =>
                have HP' := HP.out.next hpv.symm hn
                cases hll : lt0 (c32 r1) with
                | true =>
                  have hl := negC_lt (xs := xs) (ys := ys) (x := x) (i := i) (by rw [hpv]; exact hll)
                  rw [← lt0_c32] at hll
                  clear hpv hraw
                  go_wp2_with (simp only [hrr1])
                  refine (isNotANumber_any r1 _).mono ?_
                  rintro e w7 ⟨rfl, hx7⟩
                  rw [hn]
                  replace hex := hex.trans hx7
                  go_wp2_with fail
                  go_roundw
                  case rel => exact ⟨i + 1, _, by omega, by rw [hl, ← HN.out]; go_num, rfl, by go_num, HP', hex⟩
                  case measure => simp [intOf]; omega
                | false =>
                  have hl := negC_ge (xs := xs) (ys := ys) (x := x) (i := i) (by rw [hpv]; exact hll)
                  rw [← lt0_c32] at hll
                  clear hpv hraw
                  go_wp2_with (simp only [hrr1])
                  refine (isNotANumber_any r1 _).mono ?_
                  rintro e w7 ⟨rfl, hx7⟩
                  rw [hn]
                  replace hex := hex.trans hx7
                  go_wp2_with fail
                  go_roundw
                  case rel => exact ⟨i + 1, _, by omega, by rw [hl, ← HN.out], rfl, by go_num, HP', hex⟩
                  case measure => simp [intOf]; omega
          · obtain ⟨ad', rfl, hcb⟩ := hrq.fltN (i - 1) (by omega)
            have ei : (((i - 1 : Nat) : Nat) : Int) = (i : Int) - 1 := by omega
            rw [ei] at hcb
            obtain ⟨z, hz⟩ : ∃ z, z = rdf ys ((i : Int) - 1) := ⟨_, rfl⟩
            rw [← hz] at hcb
            have HZ := Lib.hid hz
            clear hz hrd hrq
            replace hcb := hx1.cell hcb
            replace c1 := hx1.cell c1
            have g1 : IntKind.i64.wrap ((i : Int) - 1) = (i : Int) - 1 := IntWalk.i64_in _ (by omega)
            have g2 : (1 : Int) ≤ (i : Int) := by omega
            clear ei
            have g3 : (i : Int) - 1 < (m : Int) := by omega
            go_wp2_with (simp only [hrr1])
            refine (mul_any z z _).mono ?_
            rintro e w3 ⟨l, rfl, hlo, hx3⟩
            obtain ⟨r2, w4, hrr2, hx4, hc2⟩ := run_fop (P := Try.prog) w3 .quo (.inr (.inr (.inr rfl))) 39 .f32 l p
            obtain ⟨r3, w5, hrr3, hx5, hc3⟩ := run_fop (P := Try.prog) w4 .sub (.inr (.inl rfl)) 39 .f32 r1 r2
            clear c0 c1 hca hcb
            have hraw : c32 r3 = rawF xs ys x i (pivF xs ys x i) := by
              have hc1' : c32 r1 = fop .sub .f32 (c32 q) (c32 x) := hc1
              have hc2' : c32 r2 = fop .quo .f32 (c32 l) (c32 p) := hc2
              have hc3' : c32 r3 = fop .sub .f32 (c32 r1) (c32 r2) := hc3
              unfold rawF; rw [if_neg hi0, ← HQ.out, ← HZ.out, ← HP.out.1, hc3', hc2', hc1', hlo]
            have hex := (((hx.trans hx1).trans hx3).trans hx4).trans hx5
            cases he : eq0 (c32 r3) with
            | true =>
              have hpv := pivF_mend hraw he
              have hnn : (c32 2155872256).isNone = false := by decide
              have hll : (FloatKind.f32.format.order 2155872256 0 == some .lt) = true := by decide
              have hl := negC_lt (xs := xs) (ys := ys) (x := x) (i := i) (by rw [hpv]; decide)
              rw [← eq0_c32] at he
              have HP' := HP.out.next (hpv ▸ c32_tiny) (by decide)
              clear hpv hraw
              go_wp2_with (simp only [hrr2, hrr3])
              refine (isNotANumber_any 2155872256 _).mono ?_
              rintro e w7 ⟨rfl, hx7⟩
              rw [hnn]
              replace hex := hex.trans hx7
              go_wp2_with fail
              go_roundw
              case rel => exact ⟨i + 1, _, by omega, by rw [hl, ← HN.out]; go_num, rfl, by go_num, HP', hex⟩
              case measure => simp [intOf]; omega
            | false =>
              have hpv := pivF_keep hraw he
              rw [← eq0_c32] at he
              cases hn : (c32 r3).isNone with
              | true =>
                have hd := belowD_bad (xs := xs) (ys := ys) (x := x) (j := i) (by rw [HL.out]; exact hlt) (by rw [hpv]; exact hn)
                clear hpv hraw
                go_wp2_with (simp only [hrr2, hrr3])
                refine (isNotANumber_any r3 _).mono ?_
                rintro e w7 ⟨rfl, hx7⟩
                rw [hn]
                replace hex := hex.trans hx7
                go_wp2_with fail
                go_ret2
                exact ⟨by rw [Hd.out, hd]; rfl, hx0.trans hex⟩
              | false =>
                have HP' := HP.out.next hpv.symm hn
                cases hll : lt0 (c32 r3) with
                | true =>
                  have hl := negC_lt (xs := xs) (ys := ys) (x := x) (i := i) (by rw [hpv]; exact hll)
                  rw [← lt0_c32] at hll
                  clear hpv hraw
                  go_wp2_with (simp only [hrr2, hrr3])
                  refine (isNotANumber_any r3 _).mono ?_
                  rintro e w7 ⟨rfl, hx7⟩
                  rw [hn]
                  replace hex := hex.trans hx7
                  go_wp2_with fail
                  go_roundw
                  case rel => exact ⟨i + 1, _, by omega, by rw [hl, ← HN.out]; go_num, rfl, by go_num, HP', hex⟩
                  case measure => simp [intOf]; omega
                | false =>
                  have hl := negC_ge (xs := xs) (ys := ys) (x := x) (i := i) (by rw [hpv]; exact hll)
                  rw [← lt0_c32] at hll
                  clear hpv hraw
                  go_wp2_with (simp only [hrr2, hrr3])
                  refine (isNotANumber_any r3 _).mono ?_
                  rintro e w7 ⟨rfl, hx7⟩
                  rw [hn]
                  replace hex := hex.trans hx7
                  go_wp2_with fail
                  go_roundw
                  case rel => exact ⟨i + 1, _, by omega, by rw [hl, ← HN.out], rfl, by go_num, HP', hex⟩
                  case measure => simp [intOf]; omega
        · obtain rfl : i = n := by omega
          have hd := belowD_good (xs := xs) (ys := ys) (x := x) (by rw [HL.out]; exact HP.out.2)
          clear c0 c1
          go_wp2_with fail
          go_ret2
          exact ⟨by rw [Hd.out, hd, HL.out, ← HN.out]; rfl, hx0.trans hx⟩

end Go.Proofs.Ytgjfdfmbknmpaaa
