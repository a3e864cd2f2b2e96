import Derived.Test.YtcfimkjkolgboaaE16
set_option linter.unusedVariables false
set_option linter.unusedSimpArgs false
namespace Go.Proofs.Ytcfimkjkolgboaa
open Go.RowKit

/-- What MinorOfWhole answers. -/
def minorD (r c : Int) (xs rows cols : List Int) : Int × Bool :=
  if isWholeB r c xs 100 && (decide (0 < rows.length) && setB rows r) && (decide (0 < cols.length) && setB cols c) && decide (rows.length = cols.length) then (minorL xs c.toNat rows cols, true) else (0, false)

set_option maxHeartbeats 2000000 in
theorem specMinorOfWhole_any (r c : Int) (A : Option Addr) (n cap : Nat) (B : Option Addr) (p pc : Nat) (D : Option Addr) (q qc : Nat) (xs rows cols : List Int) (w : World) (hr : Rds w A n (ints xs)) (h1 : Rds w B p (ints rows)) (h2 : Rds w D q (ints cols)) (hcap : n ≤ cap) (hpc : p ≤ pc) (hqc : q ≤ qc) :
    Calls Try.prog 41 #[.agg #[.int .i64 r, .int .i64 c, .slice A n cap], .slice B p pc, .slice D q qc] w fun e w' => e = .returned (.tuple #[.int .i64 (minorD r c xs rows cols).1, .bool (minorD r c xs rows cols).2]) ∧ Ext w w' := by
  have hx0 : Ext w (w.alloc (.cells #[.int .i64 r, .int .i64 c, .slice A n cap] 31)) := (Ext.refl _).alloc _
  have ha0 := WAt.new (r := r) (c := c) (cap := cap) hr 31
  have hl := hr.ilen
  have hp := h1.ilen
  have hq := h2.ilen
  have hps := h1.small
  have hqs := h2.small
  obtain ⟨d, hd⟩ : ∃ d, d = minorD r c xs rows cols := ⟨_, rfl⟩
  rw [← hd]
  unfold minorD at hd
  rw [hp, hq] at hd
  have HD := Lib.hid hd
  have HP := Lib.hid hp
  have HQ := Lib.hid hq
  have HL := Lib.hid hl
  clear hd hp hq hl
  go_enter Try.func41, Try.ntmps41
  go_wp2_with fail
  refine (l06Low_any _ r c A n cap xs _ ha0).mono ?_
  rintro e w1 ⟨rfl, hx⟩
  have ha := ha0.ext hx
  have hx1 := hx0.trans hx
  clear ha0 hx0 hx
  cases hv : isWholeB r c xs 100 with
  | false =>
    go_wp2_with fail
    go_ret2
    exact ⟨by rw [HD.out, hv]; rfl, hx1⟩
  | true =>
    obtain ⟨R, C, rfl, rfl, u1, u2, u3, u4, u5⟩ := whole_nat hv
    have Hn : Hid (n = R * C) := by have := HL.out; show n = _; omega
    have HV := Lib.hid hv
    clear hv u5
    obtain ⟨c0, c1, c2, hr1⟩ := ha
    go_wp2_with fail
    refine (l06Set_any B p pc rows R _ (h1.below hx1) (by omega)).mono ?_
    rintro e w2 ⟨rfl, hx⟩
    replace c0 := hx.cell c0; replace c1 := hx.cell c1; replace c2 := hx.cell c2; replace hr1 := hr1.below hx; replace hx1 := hx1.trans hx; clear hx
    cases hv1 : (decide (0 < p) && setB rows R) with
    | false =>
      go_wp2_with fail
      go_ret2
      exact ⟨by rw [HD.out, HV.out, hv1]; rfl, hx1⟩
    | true =>
      have HV1 := Lib.hid hv1
      clear hv1
      go_wp2_with fail
      refine (l06Set_any D q qc cols C _ (h2.below hx1) (by omega)).mono ?_
      rintro e w3 ⟨rfl, hx⟩
      replace c0 := hx.cell c0; replace c1 := hx.cell c1; replace c2 := hx.cell c2; replace hr1 := hr1.below hx; replace hx1 := hx1.trans hx; clear hx
      cases hv2 : (decide (0 < q) && setB cols C) with
      | false =>
        go_wp2_with fail
        go_ret2
        exact ⟨by rw [HD.out, HV.out, HV1.out, hv2]; rfl, hx1⟩
      | true =>
        have HV2 := Lib.hid hv2
        have hq6 : q ≤ 1048576 := by
          rw [Bool.and_eq_true] at hv2
          have := setB_len hv2.2 (by omega)
          have := HQ.out
          omega
        clear hv2
        by_cases hpq : p = q
        · subst hpq
          have hne : ((p : Int) != (p : Int)) = false := by simp
          have g1 := setB_mem (Bool.and_eq_true _ _ ▸ HV1.out).2
          have g2 := setB_mem (Bool.and_eq_true _ _ ▸ HV2.out).2
          go_wp2_with fail
          refine (l06Minor_any _ R C n cap A xs u2 u4 Hn rows cols B p pc D p qc _ ⟨c0, c1, c2, hr1⟩ (h1.below hx1) (h2.below hx1) hpc hqc hq6 g1 g2).mono ?_
          rintro e w4 ⟨rfl, hx⟩
          go_wp2_with fail
          go_ret2
          refine ⟨?_, hx1.trans hx⟩
          rw [HD.out, HV.out, HV1.out, HV2.out]
          simp
        · have hne : ((p : Int) != (q : Int)) = true := by simp; omega
          go_wp2_with fail
          go_ret2
          refine ⟨?_, hx1⟩
          rw [HD.out, HV.out, HV1.out, HV2.out, decide_eq_false hpq]
          rfl

set_option maxHeartbeats 2000000 in
theorem implMinorOfWhole_any (r c : Int) (A : Option Addr) (n cap : Nat) (B : Option Addr) (p pc : Nat) (D : Option Addr) (q qc : Nat) (xs rows cols : List Int) (w : World) (hr : Rds w A n (ints xs)) (h1 : Rds w B p (ints rows)) (h2 : Rds w D q (ints cols)) (hcap : n ≤ cap) (hpc : p ≤ pc) (hqc : q ≤ qc) :
    Calls Try.prog 43 #[.agg #[.int .i64 r, .int .i64 c, .slice A n cap], .slice B p pc, .slice D q qc] w fun e w' => e = .returned (.tuple #[.int .i64 (minorD r c xs rows cols).1, .bool (minorD r c xs rows cols).2]) ∧ Ext w w' := by
  have hx0 : Ext w (w.alloc (.cells #[.int .i64 r, .int .i64 c, .slice A n cap] 31)) := (Ext.refl _).alloc _
  have ha0 := WAt.new (r := r) (c := c) (cap := cap) hr 31
  have hl := hr.ilen
  have hp := h1.ilen
  have hq := h2.ilen
  have hps := h1.small
  have hqs := h2.small
  obtain ⟨d, hd⟩ : ∃ d, d = minorD r c xs rows cols := ⟨_, rfl⟩
  rw [← hd]
  unfold minorD at hd
  rw [hp, hq] at hd
  have HD := Lib.hid hd
  have HP := Lib.hid hp
  have HQ := Lib.hid hq
  have HL := Lib.hid hl
  clear hd hp hq hl
  go_enter Try.func43, Try.ntmps43
  go_wp2_with fail
  refine (isLow_any r c A n cap xs _ ha0.rds).mono ?_
  rintro e w1 ⟨rfl, hx⟩
  have ha := ha0.ext hx
  have hx1 := hx0.trans hx
  clear ha0 hx0 hx
  cases hv : isWholeB r c xs 100 with
  | false =>
    go_wp2_with fail
    go_ret2
    exact ⟨by rw [HD.out, hv]; rfl, hx1⟩
  | true =>
    obtain ⟨R, C, rfl, rfl, u1, u2, u3, u4, u5⟩ := whole_nat hv
    have Hn : Hid (n = R * C) := by have := HL.out; show n = _; omega
    have HV := Lib.hid hv
    clear hv u5
    obtain ⟨c0, c1, c2, hr1⟩ := ha
    go_wp2_with fail
    refine (length_any B p pc hps _).mono ?_
    rintro e w2 ⟨rfl, rfl⟩
    go_wp2_with fail
    refine (inRange_any _ _ _ _).mono ?_
    rintro e w2 ⟨rfl, rfl⟩
    cases hv0 : inR 1 p 6 with
    | false =>
      go_wp2_with fail
      go_ret2
      refine ⟨?_, hx1⟩
      rw [HD.out, HV.out]
      have hf : (decide (0 < p) && setB rows R) = false := by
        rw [← Bool.not_eq_true]
        intro hb
        rw [Bool.and_eq_true, decide_eq_true_eq] at hb
        have := setB_len hb.2 (by omega)
        have := HP.out
        rw [inR_iff.2 (by omega)] at hv0
        cases hv0
      rw [hf]
      rfl
    | true =>
      have hp6 := inR_iff.1 hv0
      clear hv0
      by_cases hpq : p = q
      · subst hpq
        have hne : ((p : Int) != (p : Int)) = false := by simp
        have hd0 : decide (0 < p) = true := decide_eq_true (by omega)
        have HD0 := Lib.hid hd0
        clear hd0
        go_wp2_with fail
        refine (isSet_any B p pc rows R _ (h1.below hx1) (by omega)).mono ?_
        rintro e w2 ⟨rfl, hx⟩
        replace c0 := hx.cell c0; replace c1 := hx.cell c1; replace c2 := hx.cell c2; replace hr1 := hr1.below hx; replace hx1 := hx1.trans hx; clear hx
        cases hv1 : setB rows R with
        | false =>
          go_wp2_with fail
          go_ret2
          exact ⟨by rw [HD.out, HV.out, HD0.out, hv1]; rfl, hx1⟩
        | true =>
          have HV1 := Lib.hid hv1
          clear hv1
          go_wp2_with fail
          refine (isSet_any D p qc cols C _ (h2.below hx1) (by omega)).mono ?_
          rintro e w3 ⟨rfl, hx⟩
          replace c0 := hx.cell c0; replace c1 := hx.cell c1; replace c2 := hx.cell c2; replace hr1 := hr1.below hx; replace hx1 := hx1.trans hx; clear hx
          cases hv2 : setB cols C with
          | false =>
            go_wp2_with fail
            go_ret2
            exact ⟨by rw [HD.out, HV.out, HD0.out, HV1.out, hv2]; rfl, hx1⟩
          | true =>
            have HV2 := Lib.hid hv2
            clear hv2
            have g1 := setB_mem HV1.out
            have g2 := setB_mem HV2.out
            go_wp2_with fail
            refine (minor_any R C n cap A xs u2 u4 Hn rows cols B p pc D p qc _ hr1 (h1.below hx1) (h2.below hx1) hpc hqc (by omega) g1 g2).mono ?_
            rintro e w4 ⟨rfl, hx⟩
            go_wp2_with fail
            go_ret2
            refine ⟨?_, hx1.trans hx⟩
            rw [HD.out, HV.out, HD0.out, HV1.out, HV2.out]
            simp
      · have hne : ((p : Int) != (q : Int)) = true := by simp; omega
        go_wp2_with fail
        go_ret2
        refine ⟨?_, hx1⟩
        rw [HD.out, decide_eq_false hpq, Bool.and_false]
        rfl

end Go.Proofs.Ytcfimkjkolgboaa
