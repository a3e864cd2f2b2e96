
import Derived.Test.YtkifpligpobiaaaV2

import Derived.Test.YtkifpligpobiaaaF3

import Derived.Test.YtkifpligpobiaaaT1
set_option linter.unusedVariables false
set_option linter.unusedSimpArgs false

namespace Go.Proofs.Ytkifpligpobiaaa

open Go.RowKit


theorem bits32_run (x : Nat) (w : World) : (callFunc 170 #[.float .f32 x]).run Try.prog w = .ok (.value (.int .u32 x)) w :=
  run_extern Try.func170 (by kernel_rfl) (by kernel_rfl) (by kernel_rfl) (e := Extern.MathFloatBits.float32bits) (by kernel_rfl) _ w w _ rfl

theorem ne_self (x : Nat) : (FloatKind.f32.format.order x x != some .eq) = (c32 x).isNone := by
  cases h : c32 x with
  | none => rw [order_nan h]; rfl
  | some z => rw [order_self (cf_some h).2]; rfl

set_option maxRecDepth 20000 in
set_option maxHeartbeats 400000 in
theorem signbit_any (x : Nat) (hx : x < 18446744073709551616) (w : World) :
    Calls Try.prog 152 #[.float .f64 x] w fun e w' => e = .returned (.bool (decide (9223372036854775808 ≤ x))) ∧ w = w' := by
  have h1 := bits64_run x w
  have hw : IntKind.i64.wrap (x : Int) = if 9223372036854775808 ≤ x then (x : Int) - 18446744073709551616 else x := by
    have e1 : (2 : Int) ^ IntKind.i64.bits = 18446744073709551616 := rfl
    have e2 : (2 : Int) ^ (IntKind.i64.bits - 1) = 9223372036854775808 := rfl
    have e3 : IntKind.i64.signed = true := rfl
    have em : (x : Int) % 18446744073709551616 = x := by omega
    simp only [IntKind.wrap, e1, e2, e3, em, Bool.true_and, decide_eq_true_eq]
    by_cases h : 9223372036854775808 ≤ x
    · rw [if_pos h, if_pos (by omega)]
    · rw [if_neg h, if_neg (by omega)]
  by_cases hb : 9223372036854775808 ≤ x
  · rw [if_pos hb] at hw
    have hl : (x : Int) - 18446744073709551616 < 0 := by omega
    clear hx
    go_enter Try.func152, Try.ntmps152
    go_upto_region 1 with (fail)
    go_wp2_with fail
    go_ret
    exact ⟨ret_bool (by simp [hb]), rfl⟩
  · rw [if_neg hb] at hw
    have hl : ¬ (x : Int) < 0 := by omega
    clear hx
    go_enter Try.func152, Try.ntmps152
    go_upto_region 1 with (fail)
    go_wp2_with fail
    go_ret
    exact ⟨ret_bool (by simp [hb]), rfl⟩

set_option maxRecDepth 20000 in
set_option maxHeartbeats 400000 in
theorem l01Bits_any (x : Nat) (hx : x < 4294967296) (w : World) :
    Calls Try.prog 151 #[.float .f32 x] w fun e w' => e = .returned (.int .i64 (((c32 x).getD 2143289344 : Nat) : Int)) ∧ w = w' := by
  have h0 := ne_self x
  have h1 := bits32_run x w
  have hw : IntKind.i64.wrap (x : Int) = x := IntWalk.i64_in _ (by omega)
  clear hx
  cases h : c32 x with
  | none =>
    rw [h] at h0
    simp only [Option.isNone_none] at h0
    go_enter Try.func151, Try.ntmps151
    go_upto_region 1 with (fail)
    go_wp2_with fail
    go_ret
    exact ⟨rfl, rfl⟩
  | some z =>
    obtain rfl := (cf_some h).1
    rw [h] at h0
    simp only [Option.isNone_some] at h0
    go_enter Try.func151, Try.ntmps151
    go_upto_region 1 with (fail)
    go_wp2_with fail
    go_ret
    exact ⟨rfl, rfl⟩

theorem bits_eq (x y : Nat) : ((((c32 x).getD 2143289344 : Nat) : Int) == (((c32 y).getD 2143289344 : Nat) : Int)) = decide (c32 x = c32 y) := by
  have hq : c32 2143289344 = none := by decide
  cases h1 : c32 x with
  | none =>
    cases h2 : c32 y with
    | none => rfl
    | some b =>
      obtain rfl := (cf_some h2).1
      have : y ≠ 2143289344 := fun e => by rw [e, hq] at h2; cases h2
      simp; omega
  | some a =>
    obtain rfl := (cf_some h1).1
    cases h2 : c32 y with
    | none =>
      have : x ≠ 2143289344 := fun e => by rw [e, hq] at h1; cases h1
      simp; omega
    | some b => by_cases e : x = b <;> simp [e]; omega

set_option maxRecDepth 20000 in
set_option maxHeartbeats 400000 in
theorem l01Same_any (x y : Nat) (hx : x < 4294967296) (hy : y < 4294967296) (w : World) :
    Calls Try.prog 134 #[.float .f32 x, .float .f32 y] w fun e w' => e = .returned (.bool (decide (c32 x = c32 y))) ∧ w = w' := by
  rw [← bits_eq]
  go_enter Try.func134, Try.ntmps134
  go_upto_region 1 with (fail)
  go_wp2_with fail
  refine (l01Bits_any x hx _).mono ?_
  rintro e w1 ⟨rfl, rfl⟩
  go_wp2_with fail
  refine (l01Bits_any y hy _).mono ?_
  rintro e w1 ⟨rfl, rfl⟩
  go_wp2_with fail
  go_ret
  exact ⟨rfl, rfl⟩

set_option maxRecDepth 20000 in
set_option maxHeartbeats 1000000 in
theorem SameNumber_any (x y : Nat) (hx : x < 4294967296) (hy : y < 4294967296) (w : World) :
    Calls Try.prog 136 #[.float .f32 x, .float .f32 y] w fun e w' => e = .returned (.bool (decide (c32 x = c32 y))) ∧ Ext w w' := by
  have h0 := ne_self x
  have h1 := ne_self y
  cases hcx : c32 x with
  | none =>
    rw [hcx] at h0
    simp only [Option.isNone_none] at h0
    cases hcy : c32 y with
    | none =>
      rw [hcy] at h1
      simp only [Option.isNone_none] at h1
      go_enter Try.func136, Try.ntmps136
      go_upto_region 1 with (fail)
      go_wp2_with fail
      go_ret
      exact ⟨rfl, Ext.refl _⟩
    | some b =>
      rw [hcy] at h1
      simp only [Option.isNone_some] at h1
      go_enter Try.func136, Try.ntmps136
      go_upto_region 1 with (fail)
      go_wp2_with fail
      go_ret
      exact ⟨rfl, Ext.refl _⟩
  | some a =>
    obtain rfl := (cf_some hcx).1
    rw [hcx] at h0
    simp only [Option.isNone_some] at h0
    cases hcy : c32 y with
    | none =>
      rw [hcy] at h1
      simp only [Option.isNone_none] at h1
      go_enter Try.func136, Try.ntmps136
      go_upto_region 1 with (fail)
      go_wp2_with fail
      go_ret
      exact ⟨rfl, Ext.refl _⟩
    | some b =>
      obtain rfl := (cf_some hcy).1
      rw [hcy] at h1
      simp only [Option.isNone_some] at h1
      have nx := (cf_some hcx).2
      have ny := (cf_some hcy).2
      cases ho : (FloatKind.f32.format.order x y == some .eq) with
      | false =>
        have hne : x ≠ y := by
          rintro rfl
          rw [order_self nx] at ho
          cases ho
        go_enter Try.func136, Try.ntmps136
        go_upto_region 1 with (fail)
        go_wp2_with fail
        go_ret
        exact ⟨ret_bool (by simp [hne]), Ext.refl _⟩
      | true =>
        have hoe : FloatKind.f32.format.order x y = some .eq := by simpa using ho
        obtain ⟨r1, w1, hr1, hx1, hc1, hl1⟩ := widen_ x w
        obtain ⟨r2, w2, hr2, hx2, hc2, hl2⟩ := widen_ y w1
        obtain ⟨z1, hz1⟩ : ∃ z, wide x = some z := by
          cases h : wide x with
          | some z => exact ⟨z, rfl⟩
          | none => rw [wide_none h] at nx; cases nx
        obtain ⟨z2, hz2⟩ : ∃ z, wide y = some z := by
          cases h : wide y with
          | some z => exact ⟨z, rfl⟩
          | none => rw [wide_none h] at ny; cases ny
        rw [hz1] at hc1
        rw [hz2] at hc2
        obtain rfl := (cf_some hc1).1
        obtain rfl := (cf_some hc2).1
        have s1 := (wide_sign hz1).2
        have s2 := (wide_sign hz2).2
        have hfin : (decide (9223372036854775808 ≤ r1) == decide (9223372036854775808 ≤ r2)) = decide (some x = some y) := by
          rw [s1, s2]
          by_cases e : x = y
          · subst e; simp
          · have : (FloatKind.f32.format.read x).neg ≠ (FloatKind.f32.format.read y).neg := fun h => e (order_word hx hy hoe h)
            simp [e, this]
        clear s1 s2 hz1 hz2 hc1 hc2 hoe
        go_enter Try.func136, Try.ntmps136
        go_upto_region 1 with (fail)
        go_wp2_with (simp only [hr1])
        refine (signbit_any r1 hl1 _).mono ?_
        rintro e w3 ⟨rfl, rfl⟩
        go_wp2_with (simp only [hr2])
        refine (signbit_any r2 hl2 _).mono ?_
        rintro e w4 ⟨rfl, rfl⟩
        go_wp2_with fail
        go_ret
        exact ⟨ret_bool (by simp), hx1.trans hx2⟩

end Go.Proofs.Ytkifpligpobiaaa
