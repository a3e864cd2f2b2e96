
/- ShortestOf, the reference. -/

import Derived.Test.YtdmeobffijhloaaW5
set_option linter.unusedVariables false
set_option linter.unusedSimpArgs false

namespace Go.Proofs.Ytdmeobffijhloaa

open Go.RowKit


theorem pow_bound {ρ R i : Nat} (hρ : ρ ≤ 3) (hR : R ≤ 4) (hi : i ≤ R) : (2 * ρ + 1) ^ i ≤ 2401 := by
  refine Nat.le_trans (Nat.pow_le_pow_left (show 2 * ρ + 1 ≤ 7 by omega) i) ?_
  exact Nat.le_trans (Nat.pow_le_pow_right (by omega) (Nat.le_trans hi hR)) (by decide)
/-- The sums of the last rows, from row r on. -/
def rsum (a : Nat → Nat → Int) (ρ R n r : Nat) : Nat → Int := fun j => sumI (fun i => facI ρ R n i * a i j) r (R - r)
theorem rsum_zero (a : Nat → Nat → Int) (ρ R n : Nat) : rsum a ρ R n R = fun _ => 0 := by
  funext j
  unfold rsum
  rw [Nat.sub_self]
  rfl
theorem rsum_end (a : Nat → Nat → Int) (ρ R n : Nat) : rsum a ρ R n 0 = vecN a ρ R n := rfl
/-- .. and of row p in the first k columns. -/
def psuR (a : Nat → Nat → Int) (ρ R n p k : Nat) : Nat → Int := fun j => if j < k then rsum a ρ R n p j else rsum a ρ R n (p + 1) j
theorem psuR_zero (a : Nat → Nat → Int) (ρ R n p : Nat) : psuR a ρ R n p 0 = rsum a ρ R n (p + 1) := by
  funext j
  unfold psuR
  rw [if_neg (by omega)]
theorem psuR_at (a : Nat → Nat → Int) (ρ R n p k : Nat) : psuR a ρ R n p k k = sumI (fun i => facI ρ R n i * a i k) (p + 1) (R - (p + 1)) := by
  unfold psuR
  rw [if_neg (by omega)]
  rfl
theorem psuR_set (a : Nat → Nat → Int) (ρ R C n p k : Nat) (hp : p < R) : (lstI C (psuR a ρ R n p k)).set k (sumI (fun i => facI ρ R n i * a i k) (p + 1) (R - (p + 1)) + facI ρ R n p * a p k) = lstI C (psuR a ρ R n p (k + 1)) := by
  refine lstI_set ?_ (fun j hj hne => ?_)
  · unfold psuR
    rw [if_pos (by omega)]
    unfold rsum
    rw [show R - p = (R - (p + 1)) + 1 from by omega, sumI_front]
    omega
  · unfold psuR
    by_cases h : j < k
    · rw [if_pos h, if_pos (by omega)]
    · rw [if_neg h, if_neg (by omega)]
theorem psuR_end (a : Nat → Nat → Int) (ρ R C n : Nat) {p : Nat} (_ : p < R) : lstI C (psuR a ρ R n p C) = lstI C (rsum a ρ R n p) := lstI_congr fun j hj => by unfold psuR; rw [if_pos hj]
/-- The best so far, as the reference keeps it. -/
def BT (wB : World) (a : Nat → Nat → Int) (ρ R C : Nat) (B : Option (Nat × Int)) (u v : Value) (wr : World) : Prop := match B with
  | none => ∃ g, u = .slice (some ⟨g, 0, none⟩) 0 0 ∧ v = .int .i64 0
  | some p => ∃ g, u = .slice (some ⟨g, 0, none⟩) C C ∧ v = .int .i64 p.2 ∧ Own wr wB.heap.size 2 (.slice (some ⟨g, 0, none⟩) C C) (ints (lstI C (vecN a ρ R p.1)))
theorem BT.fresh {wB : World} {a : Nat → Nat → Int} {ρ R C : Nat} {B : Option (Nat × Int)} {sb l k : Nat} {u v : Value} {w w' : World} {o : Obj} (h : BT wB a ρ R C B u v w) (hs : sb = w.heap.size) (hw : Wr (w.alloc o) w' (.slice (some ⟨sb, 0, none⟩) l k)) : BT wB a ρ R C B u v w' := by
  cases B with
  | none => exact h
  | some p =>
    obtain ⟨g, h1, h2, h3⟩ := h
    have hlt := (h3.row.lt g rfl).2
    exact ⟨g, h1, h2, (h3.ext ((Ext.refl _).alloc o)).other hw (.inr (by simp only [Value.ownBlock, ne_eq, Option.some.injEq]; omega))⟩

set_option maxRecDepth 20000 in
set_option maxHeartbeats 16000000 in
theorem specShortestOf_any (r c : Int) (A : Option Addr) (nn cap : Nat) (xs : List Int) (reach : Int) (w : World) (hr : Rds w A nn (ints xs)) :
    Calls Try.prog 14 #[.agg #[.int .i64 r, .int .i64 c, .slice A nn cap], .int .i64 reach] w (RetSh w (shoD r c xs reach)) := by
  cases hlow : isWholeB r c xs 100 with
  | false =>
    rw [shoD_1 hlow]
    go_enter Try.func14, Try.ntmps14
    go_upto_region 1 with (fail)
    obtain ⟨w0, hw0⟩ : ∃ w0 : World, w0 = w.alloc (.cells #[.int .i64 r, .int .i64 c, .slice A nn cap] 31) := ⟨_, rfl⟩
    have hx0 : Ext w w0 := by rw [hw0]; exact (Ext.refl _).alloc _
    have b0 : Blk w0 w.heap.size #[.int .i64 r, .int .i64 c, .slice A nn cap] 31 := by rw [hw0]; exact Blk.new _ _ _
    rw [← hw0]
    clear hw0
    have c0 := b0.cell 0 rfl
    have c1 := b0.cell 1 rfl
    have c2 := b0.cell 2 rfl
    go_wp2_with fail
    refine (l06Low_any _ r c A nn cap xs _ ⟨c0, c1, c2, hr.below hx0⟩).mono ?_
    rintro e w1 ⟨rfl, hx⟩
    rw [hlow]
    replace hx0 := hx0.trans hx
    replace b0 := b0.ext hx
    clear hx c0 c1 c2
    go_wp2_with fail
    refine bodyPost_ret (v := .tuple #[.slice none 0 0, .int .i64 0, .bool false]) (by simp only [results, Try.results14]; simp [go_sem]) rfl ⟨none, 0, rfl, own_nil _ _ _, hx0⟩
  | true =>
    obtain ⟨R, C, rfl, rfl, hR1, hR6, hC1, hC6, hlen, ha⟩ := low_nat hlow
    have HA := Lib.hid ha
    have HN := Lib.hid (hr.ilen.symm.trans hlen)
    clear ha hlen
    by_cases hR4 : R ≤ 4
    rotate_left
    · rw [shoD_2 (by omega)]
      have hgt : (4 : Int) < R := by omega
      go_enter Try.func14, Try.ntmps14
      go_upto_region 1 with (fail)
      obtain ⟨w0, hw0⟩ : ∃ w0 : World, w0 = w.alloc (.cells #[.int .i64 R, .int .i64 C, .slice A nn cap] 31) := ⟨_, rfl⟩
      have hx0 : Ext w w0 := by rw [hw0]; exact (Ext.refl _).alloc _
      have b0 : Blk w0 w.heap.size #[.int .i64 R, .int .i64 C, .slice A nn cap] 31 := by rw [hw0]; exact Blk.new _ _ _
      rw [← hw0]
      clear hw0
      have c0 := b0.cell 0 rfl
      have c1 := b0.cell 1 rfl
      have c2 := b0.cell 2 rfl
      go_wp2_with fail
      refine (l06Low_any _ R C A nn cap xs _ ⟨c0, c1, c2, hr.below hx0⟩).mono ?_
      rintro e w1 ⟨rfl, hx⟩
      rw [hlow]
      replace hx0 := hx0.trans hx
      replace b0 := b0.ext hx
      clear hx c0 c1 c2
      have c0 := b0.cell 0 rfl
      go_wp2_with fail
      refine bodyPost_ret (v := .tuple #[.slice none 0 0, .int .i64 0, .bool false]) (by simp only [results, Try.results14]; simp [go_sem]) rfl ⟨none, 0, rfl, own_nil _ _ _, hx0⟩
    · have hle : ¬ (4 : Int) < R := by omega
      cases hin : inR 1 reach 3 with
      | false =>
        rw [shoD_3 hin]
        go_enter Try.func14, Try.ntmps14
        go_upto_region 1 with (fail)
        obtain ⟨w0, hw0⟩ : ∃ w0 : World, w0 = w.alloc (.cells #[.int .i64 R, .int .i64 C, .slice A nn cap] 31) := ⟨_, rfl⟩
        have hx0 : Ext w w0 := by rw [hw0]; exact (Ext.refl _).alloc _
        have b0 : Blk w0 w.heap.size #[.int .i64 R, .int .i64 C, .slice A nn cap] 31 := by rw [hw0]; exact Blk.new _ _ _
        rw [← hw0]
        clear hw0
        have c0 := b0.cell 0 rfl
        have c1 := b0.cell 1 rfl
        have c2 := b0.cell 2 rfl
        go_wp2_with fail
        refine (l06Low_any _ R C A nn cap xs _ ⟨c0, c1, c2, hr.below hx0⟩).mono ?_
        rintro e w1 ⟨rfl, hx⟩
        rw [hlow]
        replace hx0 := hx0.trans hx
        replace b0 := b0.ext hx
        clear hx c0 c1 c2
        have c0 := b0.cell 0 rfl
        go_wp2_with fail
        refine (l00In_any _ _ _ _).mono ?_
        rintro e w2 ⟨rfl, rfl⟩
        rw [hin]
        go_wp2_with fail
        refine bodyPost_ret (v := .tuple #[.slice none 0 0, .int .i64 0, .bool false]) (by simp only [results, Try.results14]; simp [go_sem]) rfl ⟨none, 0, rfl, own_nil _ _ _, hx0⟩
      | true =>
        have hb3 := inR_iff.1 hin
        obtain ⟨ρ, rfl⟩ : ∃ ρ : Nat, reach = ρ := ⟨reach.toNat, by omega⟩
        have hρ1 : 1 ≤ ρ := by omega
        have hρ3 : ρ ≤ 3 := by omega
        obtain ⟨D, hD⟩ : ∃ D, D = shoD R C xs ρ := ⟨_, rfl⟩
        rw [← hD]
        rw [shoD_ok hlow hR4 hin] at hD
        have HD := Lib.hid hD
        clear hD hb3
        go_enter Try.func14, Try.ntmps14
        go_upto_region 1 with (fail)
        obtain ⟨w0, hw0⟩ : ∃ w0 : World, w0 = w.alloc (.cells #[.int .i64 R, .int .i64 C, .slice A nn cap] 31) := ⟨_, rfl⟩
        have hx0 : Ext w w0 := by rw [hw0]; exact (Ext.refl _).alloc _
        have b0 : Blk w0 w.heap.size #[.int .i64 R, .int .i64 C, .slice A nn cap] 31 := by rw [hw0]; exact Blk.new _ _ _
        rw [← hw0]
        clear hw0
        have c0 := b0.cell 0 rfl
        have c1 := b0.cell 1 rfl
        have c2 := b0.cell 2 rfl
        go_wp2_with fail
        refine (l06Low_any _ R C A nn cap xs _ ⟨c0, c1, c2, hr.below hx0⟩).mono ?_
        rintro e w1 ⟨rfl, hx⟩
        rw [hlow]
        replace hx0 := hx0.trans hx
        replace b0 := b0.ext hx
        clear hx c0 c1 c2
        have c0 := b0.cell 0 rfl
        go_wp2_with fail
        refine (l00In_any _ _ _ _).mono ?_
        rintro e w2 ⟨rfl, rfl⟩
        rw [hin]
        clear c0
        have c0 := b0.cell 0 rfl
        have gb1 : IntKind.i64.wrap (2 * (ρ : Int)) = 2 * (ρ : Int) := IntWalk.i64_in _ (by omega)
        have gb2 : IntKind.i64.wrap (2 * (ρ : Int) + 1) = 2 * (ρ : Int) + 1 := IntWalk.i64_in _ (by omega)
        go_wp2_with fail
        go_loopw [7, 8] (fun u v wr => ∃ i : Nat, i ≤ R ∧ v = .int .i64 i ∧ u = .int .i64 (((2 * ρ + 1) ^ i : Nat) : Int) ∧ wr = w1) (fun _ v _ => R - (intOf v).toNat)
        case atStart => exact ⟨0, Nat.zero_le _, rfl, rfl, rfl⟩
        case round =>
          rename World => wA
          obtain ⟨i, hi, rfl, rfl, rfl⟩ := hrel
          by_cases hlt : i < R
          · have g1 : IntKind.i64.wrap ((i : Int) + 1) = (i : Int) + 1 := IntWalk.i64_in _ (by omega)
            have hb1 := pow_bound (i := i) hρ3 hR4 (by omega)
            have hb2 := pow_bound (i := i + 1) hρ3 hR4 (by omega)
            have e2 : (((2 * ρ + 1) ^ i : Nat) : Int) * (2 * (ρ : Int) + 1) = (((2 * ρ + 1) ^ (i + 1) : Nat) : Int) := by rw [Nat.pow_succ]; simp
            have g2 : IntKind.i64.wrap ((((2 * ρ + 1) ^ i : Nat) : Int) * (2 * (ρ : Int) + 1)) = (((2 * ρ + 1) ^ (i + 1) : Nat) : Int) := by rw [e2]; exact IntWalk.i64_in _ (by omega)
            have HE := Lib.hid e2
            obtain ⟨P1, hP1⟩ : ∃ P, P = (2 * ρ + 1) ^ i := ⟨_, rfl⟩
            obtain ⟨P2, hP2⟩ : ∃ P, P = (2 * ρ + 1) ^ (i + 1) := ⟨_, rfl⟩
            have HP2 := Lib.hid hP2
            rw [← hP1, ← hP2] at g2
            rw [← hP1]
            clear e2 hb1 hb2 hP1 hP2 HE
            go_wp2_with fail
            go_roundw
            case rel => exact ⟨i + 1, by omega, by go_num, by rw [HP2.out], by first | trivial | rfl⟩
            case measure => simp [intOf]; try omega
          · obtain rfl : R = i := by omega
            have HALL : Hid ((2 * ρ + 1) ^ R = allN ρ R) := rfl
            rw [HALL.out]
            have hbig := all_bound hρ3 hR4
            obtain ⟨wB, hwB⟩ : ∃ wB, wB = wA := ⟨_, rfl⟩
            rw [← hwB] at hx0 b0
            have hB0 : BT wB (fun i k => atI xs C i k) ρ R C (bestN (fun i k => atI xs C i k) ρ R C 0) (.slice (some ⟨wA.heap.size, 0, none⟩) 0 0) (.int .i64 0) (wA.alloc (.cells #[] 2)) := ⟨_, rfl, rfl⟩
            have HB0 := Lib.hid hB0
            have hx : Ext wB (wA.alloc (.cells #[] 2)) := by rw [hwB]; exact (Ext.refl _).alloc _
            clear hB0 hwB
            go_wp2_with fail
            clear c0
            go_loopw [9, 10, 11] (fun u v q wr => ∃ n, n ≤ allN ρ R ∧ q = .int .i64 n ∧ BT wB (fun i k => atI xs C i k) ρ R C (bestN (fun i k => atI xs C i k) ρ R C n) u v wr ∧ Ext wB wr) (fun _ _ q _ => allN ρ R - (intOf q).toNat)
            case atStart => exact ⟨0, Nat.zero_le _, rfl, HB0.out, hx⟩
            case round =>
              rename World => wA
              clear hx HB0
              obtain ⟨n, hn, rfl, hB, hx⟩ := hrel
              by_cases hnl : n < allN ρ R
              · have HB := Lib.hid hB
                clear hB
                have hmk := run_make_row' (P := Try.prog) 22 2 (.int .i64 0) 8 Try.underlying22 info_i64 rfl .i64 .i64 C (by omega) (by omega)
                have c1 := (b0.ext hx).cell 1 rfl
                have hal : Ext wA (wA.alloc (.cells (madeCells #[.int .i64 0] C) 2)) := (Ext.refl _).alloc _
                have os := (Own.made wA 2 (.int .i64 0) C rfl (by omega)).base (b := wB.heap.size) hx.size
                rw [← ints_replicate, ← lstI_const, ← rsum_zero (fun i k => atI xs C i k) ρ R n] at os
                obtain ⟨wM, hwM⟩ : ∃ v : World, v = wA.alloc (.cells (madeCells #[.int .i64 0] C) 2) := ⟨_, rfl⟩
                obtain ⟨sb, hsb⟩ : ∃ sb, sb = wA.heap.size := ⟨_, rfl⟩
                go_upto_region 14 with (fail)
                rw [← hwM, ← hsb] at os
                rw [← hwM] at hal
                rw [← hwM, ← hsb]
                have HBM : Hid (∀ wr, Wr wM wr (.slice (some ⟨sb, 0, none⟩) C C) → BT wB (fun i k => atI xs C i k) ρ R C (bestN (fun i k => atI xs C i k) ρ R C n) u9 u10 wr) := fun wr h => HB.out.fresh hsb (hwM ▸ h)
                have hxM := hx.trans hal
                have OS0 := Lib.hid os
                clear hmk hwM hsb hal c1 hx HB
                have hrest : ((n : Nat) : Int) = ((n / (2 * ρ + 1) ^ (R - R) : Nat) : Int) := by simp
                have HRS := Lib.hid hrest
                clear hrest
                have c0 := (b0.ext hxM).cell 0 rfl
                have gR : IntKind.i64.wrap ((R : Int) - 1) = (R : Int) - 1 := IntWalk.i64_in _ (by omega)
                go_wp2_with fail
                clear c0
                go_loopw [13, 14] (fun u v wr => ∃ r : Nat, r ≤ R ∧ v = .int .i64 ((r : Int) - 1) ∧ u = .int .i64 ((n / (2 * ρ + 1) ^ (R - r) : Nat) : Int) ∧ Own wr wB.heap.size 2 (.slice (some ⟨sb, 0, none⟩) C C) (ints (lstI C (rsum (fun i k => atI xs C i k) ρ R n r))) ∧ Wr wM wr (.slice (some ⟨sb, 0, none⟩) C C)) (fun _ v _ => (intOf v + 1).toNat)
                case atStart => exact ⟨R, Nat.le_refl _, by go_num, by rw [← HRS.out], os, Wr.refl _ _⟩
                case round =>
                  rename World => wR
                  clear os
                  obtain ⟨r, hrR, rfl, rfl, os, hW⟩ := hrel
                  by_cases hr0 : 1 ≤ r
                  · obtain ⟨p, rfl⟩ : ∃ p, r = p + 1 := ⟨r - 1, by omega⟩
                    have ep : ((p + 1 : Nat) : Int) - 1 = (p : Int) := by omega
                    rw [ep]
                    have hpR : p < R := by omega
                    have hp0 : (0 : Int) ≤ (p : Int) := by omega
                    have g1 : IntKind.i64.wrap ((p : Int) - 1) = (p : Int) - 1 := IntWalk.i64_in _ (by omega)
                    obtain ⟨q, hq⟩ : ∃ q, q = n / (2 * ρ + 1) ^ (R - (p + 1)) := ⟨_, rfl⟩
                    have hqn : q ≤ n := by rw [hq]; exact Nat.div_le_self _ _
                    have HQ2 : Hid (((q / (2 * ρ + 1) : Nat) : Int) = ((n / (2 * ρ + 1) ^ (R - p) : Nat) : Int)) := by
                      show _ = _
                      rw [hq, Nat.div_div_eq_div_mul, ← Nat.pow_succ, show (R - (p + 1)).succ = R - p from by omega]
                    have HX : Hid (((q % (2 * ρ + 1) : Nat) : Int) - ρ = facI ρ R n p) := by
                      show _ = _
                      unfold facI dgt
                      rw [hq, show R - (p + 1) = R - 1 - p from by omega]
                    have hfr := facI_range ρ R n p
                    rw [← HX.out] at hfr
                    rw [← hq]
                    clear hq
                    have m1 : (q : Int).tmod (2 * (ρ : Int) + 1) = ((q % (2 * ρ + 1) : Nat) : Int) := by
                      rw [show (2 * (ρ : Int) + 1) = ((2 * ρ + 1 : Nat) : Int) from by omega]
                      exact (Int.ofNat_tmod q (2 * ρ + 1)).symm
                    have m2 : (q : Int).tdiv (2 * (ρ : Int) + 1) = ((q / (2 * ρ + 1) : Nat) : Int) := by
                      rw [show (2 * (ρ : Int) + 1) = ((2 * ρ + 1 : Nat) : Int) from by omega]
                      exact (Int.ofNat_tdiv q (2 * ρ + 1)).symm
                    have m3 : (q : Int) % (2 * (ρ : Int) + 1) = ((q % (2 * ρ + 1) : Nat) : Int) := by
                      rw [show (2 * (ρ : Int) + 1) = ((2 * ρ + 1 : Nat) : Int) from by omega]
                      rfl
                    have m4 : (q : Int) / (2 * (ρ : Int) + 1) = ((q / (2 * ρ + 1) : Nat) : Int) := by
                      rw [show (2 * (ρ : Int) + 1) = ((2 * ρ + 1 : Nat) : Int) from by omega]
                      rfl
                    obtain ⟨qm, hqm⟩ : ∃ qm, qm = q % (2 * ρ + 1) := ⟨_, rfl⟩
                    obtain ⟨qd, hqd⟩ : ∃ qd, qd = q / (2 * ρ + 1) := ⟨_, rfl⟩
                    have hqdn : qd ≤ q := by rw [hqd]; exact Nat.div_le_self _ _
                    rw [← hqm] at HX hfr m1 m3
                    rw [← hqd] at HQ2 m2 m4
                    clear hqm hqd
                    have gd0 : ¬ (2 * (ρ : Int) + 1 = 0) := by omega
                    have gx : IntKind.i64.wrap ((qm : Int) - ρ) = (qm : Int) - ρ := IntWalk.i64_in _ (by omega)
                    have gq : IntKind.i64.wrap (qd : Int) = qd := IntWalk.i64_in _ (by omega)
                    have gm : IntKind.i64.wrap (qm : Int) = qm := IntWalk.i64_in _ (by omega)
                    have os1 : Own wR wB.heap.size 2 (.slice (some ⟨sb, 0, none⟩) C C) (ints (lstI C (psuR (fun i k => atI xs C i k) ρ R n p 0))) := by rw [psuR_zero]; exact os
                    clear os
                    go_wp2_with fail
                    go_loopw [16] (fun v wr => ∃ k : Nat, k ≤ C ∧ v = .int .i64 k ∧ Own wr wB.heap.size 2 (.slice (some ⟨sb, 0, none⟩) C C) (ints (lstI C (psuR (fun i k => atI xs C i k) ρ R n p k))) ∧ Wr wM wr (.slice (some ⟨sb, 0, none⟩) C C)) (fun v _ => C - (intOf v).toNat)
                    case atStart => exact ⟨0, Nat.zero_le _, rfl, os1, hW⟩
                    case round =>
                      rename World => wI
                      clear os1 hW
                      obtain ⟨k, hk, rfl, os, hW⟩ := hrel
                      have hxI := hW.ext hxM OS0.out
                      have c1 := (b0.ext hxI).cell 1 rfl
                      by_cases hkC : k < C
                      · have g2 : IntKind.i64.wrap ((k : Int) + 1) = (k : Int) + 1 := IntWalk.i64_in _ (by omega)
                        obtain ⟨hcs, hfz⟩ := os.at_ k hkC
                        rw [ints_get (by rw [lstI_length]; exact hkC), lstI_rd hkC, psuR_at] at hcs
                        have hb1 := vecN_bound (n := n) (k := k) (C := C) (a := fun i k => atI xs C i k) hρ3 hR4 (fun i hi => HA.out i k hi hkC) hkC (p + 1) (R - (p + 1)) (by omega)
                        have hb2 := prod_bound (n := n) (R := R) hρ3 (HA.out p k hpR hkC) p
                        have hps := psuR_set (fun i k => atI xs C i k) ρ R C n p k hpR
                        rw [← HX.out] at hb2 hps
                        obtain ⟨z, hz⟩ : ∃ z, z = atI xs C p k := ⟨_, rfl⟩
                        obtain ⟨s, hs⟩ : ∃ s, s = sumI (fun i => facI ρ R n i * atI xs C i k) (p + 1) (R - (p + 1)) := ⟨_, rfl⟩
                        have HZ := Lib.hid hz
                        rw [← hz] at hb2 hps
                        rw [← hs] at hcs hb1 hps
                        have HPS := Lib.hid hps
                        clear hz hs hps
                        have g3 : IntKind.i64.wrap (((qm : Int) - ρ) * z) = ((qm : Int) - ρ) * z := IntWalk.i64_in _ (by omega)
                        have g4 : IntKind.i64.wrap (s + ((qm : Int) - ρ) * z) = s + ((qm : Int) - ρ) * z := IntWalk.i64_in _ (by omega)
                        go_upto_region 23 with (fail)
                        refine wp_region_T (cs := []) [0, 1, 2, 3, 4, 5, 6, 7, 8, 9] [10, 11] [7] [] (fun i__ v => match i__ with | 7 => v = (.int .i64 z) | _ => False) (fun _ _ _ => True) (by kernel_rfl) (by kernel_rfl) (fun _ _ _ _ _ _ => trivial) ?_
                        refine' wpT_det (o := ⟨some 77, Op.move (Operand.tmp 12), 22, "l06_integers.go:651", #[], none⟩) rfl (by rfl) (by rfl) (fun w' hw' => ?_) ?_; rotate_left
                        · go_simp <;> first | rfl | exact ⟨rfl, rfl⟩
                        simp only [Act.put, List.setIfInBounds_toArray, List.set_cons_zero, List.set_cons_succ]
                        refine' wpT_det (o := ⟨some 78, Op.move (Operand.tmp 16), 2, "l06_integers.go:651", #[], none⟩) rfl (by rfl) (by rfl) (fun w' hw' => ?_) ?_; rotate_left
                        · go_simp <;> first | rfl | exact ⟨rfl, rfl⟩
                        simp only [Act.put, List.setIfInBounds_toArray, List.set_cons_zero, List.set_cons_succ]
                        refine' wpT_det (o := ⟨some 79, Op.indexAddr 22 (Operand.tmp 77) (Operand.tmp 78), 0, "l06_integers.go:651", #[{ on := 0, ground := Ground.data }, { on := 1, ground := Ground.data }], none⟩) rfl (by rfl) (by rfl) (fun w' hw' => ?_) ?_; rotate_left
                        · go_simp <;> first | rfl | exact ⟨rfl, rfl⟩
                        simp only [Act.put, List.setIfInBounds_toArray, List.set_cons_zero, List.set_cons_succ]
                        refine' wpT_det (o := ⟨some 80, Op.load 2 (Operand.tmp 79), 2, "l06_integers.go:651", #[{ on := 2, ground := Ground.data }], none⟩) rfl (by rfl) (by rfl) (fun w' hw' => ?_) ?_; rotate_left
                        · have hcs_ := Ext.cell hw' hcs; go_simp <;> first | rfl | exact ⟨rfl, rfl⟩
                        simp only [Act.put, List.setIfInBounds_toArray, List.set_cons_zero, List.set_cons_succ]
                        refine' wpT_det (o := ⟨some 81, Op.move (Operand.tmp 15), 2, "l06_integers.go:651", #[], none⟩) rfl (by rfl) (by rfl) (fun w' hw' => ?_) ?_; rotate_left
                        · go_simp <;> first | rfl | exact ⟨rfl, rfl⟩
                        simp only [Act.put, List.setIfInBounds_toArray, List.set_cons_zero, List.set_cons_succ]
                        refine' wpT_det (o := ⟨some 82, Op.move (Operand.tmp 14), 2, "l06_integers.go:651", #[], none⟩) rfl (by rfl) (by rfl) (fun w' hw' => ?_) ?_; rotate_left
                        · go_simp <;> first | rfl | exact ⟨rfl, rfl⟩
                        simp only [Act.put, List.setIfInBounds_toArray, List.set_cons_zero, List.set_cons_succ]
                        refine' wpT_det (o := ⟨some 83, Op.move (Operand.tmp 16), 2, "l06_integers.go:651", #[], none⟩) rfl (by rfl) (by rfl) (fun w' hw' => ?_) ?_; rotate_left
                        · go_simp <;> first | rfl | exact ⟨rfl, rfl⟩
                        simp only [Act.put, List.setIfInBounds_toArray, List.set_cons_zero, List.set_cons_succ]
                        refine wpT_nd (o := ⟨some 84, Op.call { callee := Callee.value (Operand.func 32), args := #[Operand.tmp 2, Operand.tmp 82, Operand.tmp 83], argTypes := #[44, 2, 2] }, 2, "l06_integers.go:651", #[{ on := 5, ground := Ground.data }, { on := 6, ground := Ground.data }], none⟩) rfl (by rfl) (by rfl) (fun w' hw' hF R__ hGo => ?_) ⟨_, rfl⟩ ?_
                        · go_simp
                          refine gives_enter rfl ?_
                          refine (l06At_any _ R C p k nn cap A xs _ hpR hkC hR6 hC6 HN.out ⟨hw'.undrew.cell ((b0.ext hxI).cell 0 rfl), hw'.undrew.cell ((b0.ext hxI).cell 1 rfl), hw'.undrew.cell ((b0.ext hxI).cell 2 rfl), hr.below ((hx0.trans hxI).trans hw'.undrew)⟩).mono ?_
                          rintro e w2 ⟨rfl, hx⟩
                          exact ⟨_, rfl, hGo _ _ hx (congrArg (Value.int .i64) HZ.out.symm) trivial⟩
                        intro v hv
                        obtain rfl : v = (.int .i64 z) := hv
                        simp only [Act.put, List.setIfInBounds_toArray, List.set_cons_zero, List.set_cons_succ]
                        refine' wpT_det (o := ⟨some 85, Op.binOp BinOp.mul 2 (Operand.tmp 81) (Operand.tmp 84) 2, 2, "l06_integers.go:651", #[{ on := 4, ground := Ground.data }, { on := 7, ground := Ground.data }], none⟩) rfl (by rfl) (by rfl) (fun w' hw' => ?_) ?_; rotate_left
                        · go_simp <;> first | rfl | exact ⟨rfl, rfl⟩
                        simp only [Act.put, List.setIfInBounds_toArray, List.set_cons_zero, List.set_cons_succ]
                        refine' wpT_det (o := ⟨some 86, Op.binOp BinOp.add 2 (Operand.tmp 80) (Operand.tmp 85) 2, 2, "l06_integers.go:651", #[{ on := 3, ground := Ground.data }, { on := 8, ground := Ground.data }], none⟩) rfl (by rfl) (by rfl) (fun w' hw' => ?_) ?_; rotate_left
                        · go_simp <;> first | rfl | exact ⟨rfl, rfl⟩
                        simp only [Act.put, List.setIfInBounds_toArray, List.set_cons_zero, List.set_cons_succ]
                        refine wpT_nil (fun w9 hw' hF => ?_)
                        show wpList _ _ _ [(⟨some 87, Op.indexAddr 22 (Operand.tmp 77) (Operand.tmp 78), 0, "l06_integers.go:651", #[{ on := 0, ground := Ground.data }, { on := 1, ground := Ground.data }, { on := 0, ground := Ground.phase }, { on := 1, ground := Ground.phase }, { on := 2, ground := Ground.phase }, { on := 3, ground := Ground.phase }, { on := 4, ground := Ground.phase }, { on := 5, ground := Ground.phase }, { on := 6, ground := Ground.phase }, { on := 7, ground := Ground.phase }, { on := 8, ground := Ground.phase }, { on := 9, ground := Ground.phase }], none⟩ : Oper), (⟨none, Op.store 2 (Operand.tmp 87) (Operand.tmp 86), 0, "l06_integers.go:651", #[{ on := 10, ground := Ground.data }, { on := 9, ground := Ground.data }, { on := 7, ground := Ground.chain }, { on := 0, ground := Ground.phase }, { on := 1, ground := Ground.phase }, { on := 2, ground := Ground.phase }, { on := 3, ground := Ground.phase }, { on := 4, ground := Ground.phase }, { on := 5, ground := Ground.phase }, { on := 6, ground := Ground.phase }, { on := 7, ground := Ground.phase }, { on := 8, ground := Ground.phase }, { on := 9, ground := Ground.phase }], none⟩ : Oper)] _ _
                        have hx9 := hw'.undrew
                        obtain ⟨hcs9, hfz9⟩ := (os.ext hx9).at_ k hkC
                        obtain ⟨hc8, _⟩ := os.at_ k hkC
                        rw [← hc8, hcs] at hcs9
                        obtain ⟨hs1, hs2⟩ := (os.ext hx9).stored k (.int .i64 (s + ((qm : Int) - ρ) * z))
                        rw [← ints_set, HPS.out] at hs1
                        have hS := Lib.hid hs1
                        clear hF hw' c1 hcs hfz hc8 hs1
                        go_wp2_with fail
                        go_roundw
                        case rel => exact ⟨k + 1, by omega, by go_num, hS.out, (hW.trans (Wr.of_ext hx9 _)).trans hs2⟩
                        case measure => simp [intOf]; try omega
                      · obtain rfl : C = k := by omega
                        rw [psuR_end _ _ _ _ _ hpR] at os
                        clear hxI
                        go_wp2_with fail
                        go_roundw
                        case rel => exact ⟨p, by omega, by go_num, by rw [HQ2.out], os, hW⟩
                        case measure => simp [intOf]; try omega
                  · obtain rfl : r = 0 := by omega
                    have ez : ((0 : Nat) : Int) - 1 = -1 := rfl
                    rw [ez]
                    rw [rsum_end] at os
                    have hneg : ¬ (0 : Int) ≤ -1 := by omega
                    clear HRS
                    go_wp2_with fail
                    go_loopw [17, 18] (fun u v wr => ∃ k : Nat, k ≤ C ∧ v = .int .i64 k ∧ u = .int .i64 (sqI (vecN (fun i k => atI xs C i k) ρ R n) k) ∧ Own wr wB.heap.size 2 (.slice (some ⟨sb, 0, none⟩) C C) (ints (lstI C (vecN (fun i k => atI xs C i k) ρ R n))) ∧ Wr wM wr (.slice (some ⟨sb, 0, none⟩) C C)) (fun _ v _ => C - (intOf v).toNat)
                    case atStart => exact ⟨0, Nat.zero_le _, rfl, rfl, os, hW⟩
                    case round =>
                      rename World => wK
                      clear os hW
                      obtain ⟨k, hk, rfl, rfl, os, hW⟩ := hrel
                      have c1 := (b0.ext (hW.ext hxM OS0.out)).cell 1 rfl
                      by_cases hkC : k < C
                      · have g1 : IntKind.i64.wrap ((k : Int) + 1) = (k : Int) + 1 := IntWalk.i64_in _ (by omega)
                        have hsq := sq_bound (n := n) hρ3 hR4 hC6 HA.out (Nat.le_of_lt hkC)
                        obtain ⟨q, hqq⟩ : ∃ q, q = sqI (vecN (fun i k => atI xs C i k) ρ R n) k := ⟨_, rfl⟩
                        have HQ := Lib.hid hqq
                        rw [← hqq] at hsq
                        rw [← hqq]
                        clear hqq
                        obtain ⟨hcs, hfz⟩ := os.at_ k hkC
                        rw [ints_get (by rw [lstI_length]; exact hkC), lstI_rd hkC] at hcs
                        have hv := vec_bound (n := n) (i := R) hρ3 hR4 HA.out hkC (Nat.le_refl _)
                        have hNQ : Hid (sqI (vecN (fun i k => atI xs C i k) ρ R n) (k + 1) = q + vecN (fun i k => atI xs C i k) ρ R n k * vecN (fun i k => atI xs C i k) ρ R n k) := by show _ = _; rw [HQ.out]; rfl
                        have hv2 : -1200 ≤ vecN (fun i k => atI xs C i k) ρ R n k ∧ vecN (fun i k => atI xs C i k) ρ R n k ≤ 1200 := hv
                        obtain ⟨y, hy⟩ : ∃ y, y = vecN (fun i k => atI xs C i k) ρ R n k := ⟨_, rfl⟩
                        rw [← hy] at hcs hv2 hNQ
                        clear hv hy
                        have hyy := mul_bound hv2
                        have g3 : IntKind.i64.wrap (y * y) = y * y := IntWalk.i64_in _ (by omega)
                        have g4 : IntKind.i64.wrap (q + y * y) = q + y * y := IntWalk.i64_in _ (by omega)
                        go_upto_region 28 with (fail)
                        refine wp_region_T (cs := []) [0, 1, 2, 3, 4, 5, 6, 7, 8, 9, 10, 11] [] [] [] (fun _ _ => False) (fun _ _ _ => True) (by kernel_rfl) (by kernel_rfl) (fun _ _ _ _ _ _ => trivial) ?_
                        refine' wpT_det (o := ⟨some 94, Op.move (Operand.tmp 17), 2, "l06_integers.go:656", #[], none⟩) rfl (by rfl) (by rfl) (fun w' hw' => ?_) ?_; rotate_left
                        · go_simp <;> first | rfl | exact ⟨rfl, rfl⟩
                        simp only [Act.put, List.setIfInBounds_toArray, List.set_cons_zero, List.set_cons_succ]
                        refine' wpT_det (o := ⟨some 95, Op.move (Operand.tmp 12), 22, "l06_integers.go:656", #[], none⟩) rfl (by rfl) (by rfl) (fun w' hw' => ?_) ?_; rotate_left
                        · go_simp <;> first | rfl | exact ⟨rfl, rfl⟩
                        simp only [Act.put, List.setIfInBounds_toArray, List.set_cons_zero, List.set_cons_succ]
                        refine' wpT_det (o := ⟨some 96, Op.move (Operand.tmp 18), 2, "l06_integers.go:656", #[], none⟩) rfl (by rfl) (by rfl) (fun w' hw' => ?_) ?_; rotate_left
                        · go_simp <;> first | rfl | exact ⟨rfl, rfl⟩
                        simp only [Act.put, List.setIfInBounds_toArray, List.set_cons_zero, List.set_cons_succ]
                        refine' wpT_det (o := ⟨some 97, Op.indexAddr 22 (Operand.tmp 95) (Operand.tmp 96), 0, "l06_integers.go:656", #[{ on := 1, ground := Ground.data }, { on := 2, ground := Ground.data }], none⟩) rfl (by rfl) (by rfl) (fun w' hw' => ?_) ?_; rotate_left
                        · go_simp <;> first | rfl | exact ⟨rfl, rfl⟩
                        simp only [Act.put, List.setIfInBounds_toArray, List.set_cons_zero, List.set_cons_succ]
                        refine' wpT_det (o := ⟨some 98, Op.load 2 (Operand.tmp 97), 2, "l06_integers.go:656", #[{ on := 3, ground := Ground.data }], none⟩) rfl (by rfl) (by rfl) (fun w' hw' => ?_) ?_; rotate_left
                        · have hcs_ := Ext.cell hw' hcs; go_simp <;> first | rfl | exact ⟨rfl, rfl⟩
                        simp only [Act.put, List.setIfInBounds_toArray, List.set_cons_zero, List.set_cons_succ]
                        refine' wpT_det (o := ⟨some 99, Op.move (Operand.tmp 12), 22, "l06_integers.go:656", #[], none⟩) rfl (by rfl) (by rfl) (fun w' hw' => ?_) ?_; rotate_left
                        · go_simp <;> first | rfl | exact ⟨rfl, rfl⟩
                        simp only [Act.put, List.setIfInBounds_toArray, List.set_cons_zero, List.set_cons_succ]
                        refine' wpT_det (o := ⟨some 100, Op.move (Operand.tmp 18), 2, "l06_integers.go:656", #[], none⟩) rfl (by rfl) (by rfl) (fun w' hw' => ?_) ?_; rotate_left
                        · go_simp <;> first | rfl | exact ⟨rfl, rfl⟩
                        simp only [Act.put, List.setIfInBounds_toArray, List.set_cons_zero, List.set_cons_succ]
                        refine' wpT_det (o := ⟨some 101, Op.indexAddr 22 (Operand.tmp 99) (Operand.tmp 100), 0, "l06_integers.go:656", #[{ on := 5, ground := Ground.data }, { on := 6, ground := Ground.data }], none⟩) rfl (by rfl) (by rfl) (fun w' hw' => ?_) ?_; rotate_left
                        · go_simp <;> first | rfl | exact ⟨rfl, rfl⟩
                        simp only [Act.put, List.setIfInBounds_toArray, List.set_cons_zero, List.set_cons_succ]
                        refine' wpT_det (o := ⟨some 102, Op.load 2 (Operand.tmp 101), 2, "l06_integers.go:656", #[{ on := 7, ground := Ground.data }], none⟩) rfl (by rfl) (by rfl) (fun w' hw' => ?_) ?_; rotate_left
                        · have hcs_ := Ext.cell hw' hcs; go_simp <;> first | rfl | exact ⟨rfl, rfl⟩
                        simp only [Act.put, List.setIfInBounds_toArray, List.set_cons_zero, List.set_cons_succ]
                        refine' wpT_det (o := ⟨some 103, Op.binOp BinOp.mul 2 (Operand.tmp 98) (Operand.tmp 102) 2, 2, "l06_integers.go:656", #[{ on := 4, ground := Ground.data }, { on := 8, ground := Ground.data }], none⟩) rfl (by rfl) (by rfl) (fun w' hw' => ?_) ?_; rotate_left
                        · go_simp <;> first | rfl | exact ⟨rfl, rfl⟩
                        simp only [Act.put, List.setIfInBounds_toArray, List.set_cons_zero, List.set_cons_succ]
                        refine' wpT_det (o := ⟨some 104, Op.binOp BinOp.add 2 (Operand.tmp 94) (Operand.tmp 103) 2, 2, "l06_integers.go:656", #[{ on := 0, ground := Ground.data }, { on := 9, ground := Ground.data }], none⟩) rfl (by rfl) (by rfl) (fun w' hw' => ?_) ?_; rotate_left
                        · go_simp <;> first | rfl | exact ⟨rfl, rfl⟩
                        simp only [Act.put, List.setIfInBounds_toArray, List.set_cons_zero, List.set_cons_succ]
                        refine' wpT_det (o := ⟨some 17, Op.assign (Operand.tmp 104), 2, "l06_integers.go:656", #[{ on := 10, ground := Ground.data }, { on := 0, ground := Ground.phase }, { on := 1, ground := Ground.phase }, { on := 2, ground := Ground.phase }, { on := 3, ground := Ground.phase }, { on := 4, ground := Ground.phase }, { on := 5, ground := Ground.phase }, { on := 6, ground := Ground.phase }, { on := 7, ground := Ground.phase }, { on := 8, ground := Ground.phase }, { on := 9, ground := Ground.phase }, { on := 10, ground := Ground.phase }], none⟩) rfl (by rfl) (by rfl) (fun w' hw' => ?_) ?_; rotate_left
                        · go_simp <;> first | rfl | exact ⟨rfl, rfl⟩
                        simp only [Act.put, List.setIfInBounds_toArray, List.set_cons_zero, List.set_cons_succ]
                        refine wpT_nil (fun w9 hw' hF => ?_)
                        refine wpList_nil ?_
                        have hx9 := hw'.undrew
                        have os9 := os.ext hx9
                        have hW9 := hW.trans (Wr.of_ext hx9 _)
                        clear hF hw' hcs hfz hW os c1
                        go_wp2_with fail
                        go_roundw
                        case rel => exact ⟨k + 1, by omega, by go_num, by rw [hNQ.out], os9, hW9⟩
                        case measure => simp [intOf]; try omega
                      · obtain rfl : C = k := by omega
                        have hsz := sq_bound (n := n) (C := C) hρ3 hR4 hC6 HA.out (Nat.le_refl _)
                        have hx := hW.ext hxM OS0.out
                        have hBK := HBM.out wK hW
                        clear hW hxM
                        have HSZ : Hid (sqI (vecN (fun i k => atI xs C i k) ρ R n) C = sizN (fun i k => atI xs C i k) ρ R C n) := rfl
                        rw [HSZ.out] at hsz
                        rw [HSZ.out]
                        obtain ⟨z, hz⟩ : ∃ z, z = sizN (fun i k => atI xs C i k) ρ R C n := ⟨_, rfl⟩
                        rw [← hz] at hsz
                        rw [← hz]
                        have g1 : IntKind.i64.wrap ((n : Int) + 1) = (n : Int) + 1 := IntWalk.i64_in _ (by omega)
                        have hC0 : ((C : Int) == 0) = false := by simp; omega
                        by_cases hpos : 0 < z
                        · cases hbn : bestN (fun i k => atI xs C i k) ρ R C n with
                          | none =>
                            have HB := Lib.hid (show BT wB (fun i k => atI xs C i k) ρ R C (bestN (fun i k => atI xs C i k) ρ R C (n + 1)) (.slice (some ⟨sb, 0, none⟩) C C) (.int .i64 z) wK from by
                              rw [hz] at hpos
                              rw [bestN_take hpos (fun p h => by rw [hbn] at h; cases h), hz]
                              exact ⟨sb, rfl, rfl, os⟩)
                            rw [hbn] at hBK
                            obtain ⟨g8, rfl, rfl⟩ := hBK
                            clear hz hbn os HBM
                            go_wp2_with fail
                            go_roundw
                            case rel => exact ⟨n + 1, by omega, by go_num, HB.out, hx⟩
                            case measure => simp [intOf]; try omega
                          | some p =>
                            by_cases hl : z < p.2
                            · have HB := Lib.hid (show BT wB (fun i k => atI xs C i k) ρ R C (bestN (fun i k => atI xs C i k) ρ R C (n + 1)) (.slice (some ⟨sb, 0, none⟩) C C) (.int .i64 z) wK from by
                                rw [hz] at hpos hl
                                rw [bestN_take hpos (fun p' h => by rw [hbn] at h; cases h; exact hl), hz]
                                exact ⟨sb, rfl, rfl, os⟩)
                              rw [hbn] at hBK
                              obtain ⟨g8, rfl, rfl, _⟩ := hBK
                              clear hz hbn os HBM
                              go_wp2_with fail
                              go_roundw
                              case rel => exact ⟨n + 1, by omega, by go_num, HB.out, hx⟩
                              case measure => simp [intOf]; try omega
                            · have HB := Lib.hid (show BT wB (fun i k => atI xs C i k) ρ R C (bestN (fun i k => atI xs C i k) ρ R C (n + 1)) u9 u10 wK from by
                                rw [hz] at hl
                                rw [bestN_keep (.inr ⟨p, hbn, hl⟩)]
                                exact hBK)
                              rw [hbn] at hBK
                              obtain ⟨g8, rfl, rfl, _⟩ := hBK
                              clear hz hbn os HBM
                              go_wp2_with fail
                              go_roundw
                              case rel => exact ⟨n + 1, by omega, by go_num, HB.out, hx⟩
                              case measure => simp [intOf]; try omega
                        · have HB := Lib.hid (show BT wB (fun i k => atI xs C i k) ρ R C (bestN (fun i k => atI xs C i k) ρ R C (n + 1)) u9 u10 wK from by
                            rw [hz] at hpos
                            rw [bestN_keep (.inl hpos)]
                            exact hBK)
                          clear hz os HBM hBK
                          go_wp2_with fail
                          go_roundw
                          case rel => exact ⟨n + 1, by omega, by go_num, HB.out, hx⟩
                          case measure => simp [intOf]; try omega
              · obtain rfl : n = allN ρ R := by omega
                cases hbz : bestN (fun i k => atI xs C i k) ρ R C (allN ρ R) with
                | none =>
                  rw [hbz] at hB
                  obtain ⟨g9, rfl, rfl⟩ := hB
                  have hD : Hid (D = ([], 0, false)) := HD.out.trans (shoV_none hbz)
                  clear hbz
                  go_wp2_with fail
                  refine bodyPost_ret (v := .tuple #[.slice none 0 0, .int .i64 0, .bool false]) (by simp only [results, Try.results14]; simp [go_sem]) rfl ?_
                  rw [hD.out]
                  exact ⟨none, 0, rfl, own_nil _ _ _, hx0.trans hx⟩
                | some p9 =>
                  rw [hbz] at hB
                  obtain ⟨g9, rfl, rfl, ob⟩ := hB
                  have hD : Hid (D = (lstI C (vecN (fun i k => atI xs C i k) ρ R p9.1), p9.2, true)) := HD.out.trans (shoV_some hbz)
                  have hC0 : ((C : Int) == 0) = false := by simp; omega
                  clear hbz
                  go_wp2_with fail
                  refine bodyPost_ret (v := .tuple #[.slice (some ⟨g9, 0, none⟩) C C, .int .i64 p9.2, .bool true]) (by simp only [results, Try.results14]; simp [go_sem]) rfl ?_
                  rw [hD.out]
                  have hw3 : (lstI C (vecN (fun i k => atI xs C i k) ρ R p9.1)).length = C := by rw [lstI_length]
                  refine ⟨some ⟨g9, 0, none⟩, C, ?_, ?_, hx0.trans hx⟩
                  · show _ = Ending.returned (.tuple #[.slice _ (lstI C (vecN (fun i k => atI xs C i k) ρ R p9.1)).length C, _, _])
                    rw [hw3]
                  · show Own _ _ _ (.slice _ (lstI C (vecN (fun i k => atI xs C i k) ρ R p9.1)).length C) _
                    rw [hw3]
                    exact ob.base hx0.size


end Go.Proofs.Ytdmeobffijhloaa
