
import Derived.Test.YtkifpligpobiaaaM2

import Derived.Test.YtkifpligpobiaaaT0
set_option linter.unusedVariables false
set_option linter.unusedSimpArgs false

namespace Go.Proofs.Ytkifpligpobiaaa

open Go.RowKit

theorem u32f : Try.prog.underlying 43 = some (.float .f32) := Try.underlying43
theorem u64f : Try.prog.underlying 47 = some (.float .f64) := Try.underlying47
theorem widen_ (x : Nat) (w : World) : ∃ r w', (convert 43 47 (.float .f32 x)).run Try.prog w = .ok (.float .f64 r) w' ∧ Ext w w' ∧ cf .f64 r = wide x ∧ r < 18446744073709551616 :=
  run_widen _ _ x w (by rw [u32f]; rfl) u64f
theorem narrow_ (x : Nat) (w : World) (hn : narrow x = none → cf .f64 x = none) : ∃ r w', (convert 47 43 (.float .f64 x)).run Try.prog w = .ok (.float .f32 r) w' ∧ Ext w w' ∧ cf .f32 r = narrow x ∧ r < 4294967296 :=
  run_narrow _ _ x w (by rw [u64f]; rfl) u32f hn

set_option maxHeartbeats 400000 in
theorem mul_any (x y : Nat) (w : World) : Calls Try.prog 121 #[.float .f32 x, .float .f32 y] w (RetF w (fmul (c32 x) (c32 y))) := by
  obtain ⟨r, w1, hr, hx, hc⟩ := run_fop (P := Try.prog) w .mul (.inr (.inr (.inl rfl))) 43 .f32 x y
  go_enter Try.func121, Try.ntmps121
  go_wp2_with (simp only [hr])
  go_ret
  exact ⟨r, rfl, hc, hx⟩

set_option maxHeartbeats 400000 in
theorem mathAbs_any (x : Nat) (hx : x < 18446744073709551616) (w : World) :
    Calls Try.prog 177 #[.float .f64 x] w fun e w' => e = .returned (.float .f64 (x % 9223372036854775808)) ∧ w = w' := by
  have hb : bits .andNot .u64 (x : Int) 9223372036854775808 = ((x % 9223372036854775808 : Nat) : Int) := by
    have h1 := u64_andNot (x : Int) 9223372036854775808 (by omega) (by omega) (by omega) (by omega)
    rw [h1]
    have h2 : (18446744073709551615 - (9223372036854775808 : Int).toNat) = 2 ^ 63 - 1 := by decide
    rw [h2, Int.toNat_natCast, Nat.and_two_pow_sub_one_eq_mod]
  obtain ⟨n, hn⟩ : ∃ n, n = x % 9223372036854775808 := ⟨_, rfl⟩
  rw [← hn] at hb ⊢
  clear hn
  have h1 := bits64_run x w
  have h2 := frombits64_run (n : Int) w
  clear hx
  go_enter Try.func177, Try.ntmps177
  go_wp2_with fail
  go_ret
  exact ⟨rfl, rfl⟩

set_option maxHeartbeats 400000 in
theorem mathIsInf_any (x : Nat) (hx : x < 18446744073709551616) (hn : (FloatKind.f64.format.read x).isNaN = false) (w : World) :
    Calls Try.prog 166 #[.float .f64 x, .int .i64 0] w fun e w' => e = .returned (.bool (!isFin .f64 x)) ∧ w = w' := by
  have ht := inf_test x hx hn
  go_enter Try.func166, Try.ntmps166
  go_wp2_with fail
  refine (mathAbs_any x hx _).mono ?_
  rintro e w1 ⟨rfl, rfl⟩
  go_wp2_with fail
  go_ret
  exact ⟨ret_bool (by first | rfl | exact ht), rfl⟩

set_option maxHeartbeats 400000 in
theorem isFinite64_any (x : Nat) (hx : x < 18446744073709551616) (w : World) :
    Calls Try.prog 145 #[.float .f64 x] w fun e w' => e = .returned (.bool (isFin .f64 x)) ∧ w = w' := by
  cases hn : cf .f64 x with
  | none =>
    have hf : isFin .f64 x = false := by
      obtain ⟨s, t, e⟩ := isNaN_iff.1 (cf_none.1 hn)
      unfold isFin
      rw [e]
    go_enter Try.func145, Try.ntmps145
    go_wp2_with fail
    refine (mathIsNaN_any x _).mono ?_
    rintro e w1 ⟨rfl, rfl⟩
    rw [hn]
    go_wp2_with fail
    go_ret
    exact ⟨ret_bool hf.symm, rfl⟩
  | some y =>
    have hq := (cf_some hn).2
    go_enter Try.func145, Try.ntmps145
    go_wp2_with fail
    refine (mathIsNaN_any x _).mono ?_
    rintro e w1 ⟨rfl, rfl⟩
    rw [hn]
    go_wp2_with fail
    refine (mathIsInf_any x hx hq _).mono ?_
    rintro e w1 ⟨rfl, rfl⟩
    go_wp2_with fail
    go_ret
    exact ⟨ret_bool (by simp), rfl⟩

set_option maxHeartbeats 400000 in
theorem IsFinite_any (x : Nat) (w : World) :
    Calls Try.prog 118 #[.float .f32 x] w fun e w' => e = .returned (.bool (isFin .f32 x)) ∧ Ext w w' := by
  obtain ⟨r, w1, hr, hx, hc, hlt⟩ := widen_ x w
  rw [← isFin_wide hc]
  go_enter Try.func118, Try.ntmps118
  go_wp2_with (simp only [hr])
  refine (isFinite64_any r hlt _).mono ?_
  rintro e w2 ⟨rfl, rfl⟩
  go_wp2_with fail
  go_ret
  exact ⟨rfl, hx⟩

theorem sqrt_ext (x : Nat) : Extern.MathSqrt.sqrt #[.float .f64 x] = (match FloatKind.f64.format.sqrt x with
    | some r => pure (.float .f64 r)
    | none => do pure (.float .f64 (← choose (.nanBits .f64 x x)))) := rfl
theorem sqrt_run (x : Nat) (w : World) : ∃ r w', (callFunc 167 #[.float .f64 x]).run Try.prog w = .ok (.value (.float .f64 r)) w' ∧ Ext w w' ∧ cf .f64 r = FloatKind.f64.format.sqrt x ∧ r < 18446744073709551616 := by
  cases h : FloatKind.f64.format.sqrt x with
  | some r =>
    refine ⟨r, w, run_extern Try.func167 (by kernel_rfl) (by kernel_rfl) (by kernel_rfl) (e := Extern.MathSqrt.sqrt) (by kernel_rfl) _ w w _ ?_, Ext.refl _, (sqrt_cf h).1, (sqrt_cf h).2⟩
    rw [sqrt_ext, h]
    rfl
  | none =>
    refine ⟨(Question.nanBits .f64 x x).cut (w.tape w.drawn (Question.nanBits .f64 x x)), w.drew, run_extern Try.func167 (by kernel_rfl) (by kernel_rfl) (by kernel_rfl) (e := Extern.MathSqrt.sqrt) (by kernel_rfl) _ w w.drew _ ?_, (Ext.refl w).drew, cf_nan _ _ _ _, nanConv64_lt 0 _⟩
    rw [sqrt_ext, h]
    simp [Sem.run_bind, Question.forced]

set_option maxHeartbeats 400000 in
theorem mathSqrt_any (x : Nat) (w : World) :
    Calls Try.prog 147 #[.float .f64 x] w fun e w' => ∃ r, e = .returned (.float .f64 r) ∧ cf .f64 r = FloatKind.f64.format.sqrt x ∧ r < 18446744073709551616 ∧ Ext w w' := by
  obtain ⟨r, w1, hr, hx, hc, hlt⟩ := sqrt_run x w
  go_enter Try.func147, Try.ntmps147
  go_wp2_with fail
  go_ret
  exact ⟨r, rfl, hc, hlt, hx⟩

/-- The root by way of f64 is never too great for f32. -/
theorem root_step {x y z : Nat} (hy : cf .f64 y = wide x) (hz : cf .f64 z = FloatKind.f64.format.sqrt y) : (narrow z = none → cf .f64 z = none) ∧ narrow z = rootF (c32 x) := by
  cases hw : wide x with
  | none =>
    have h1 : c32 x = none := cf_none.2 (wide_none hw)
    rw [hw] at hy
    rw [sqrt_nan hy] at hz
    refine ⟨fun _ => hz, ?_⟩
    rw [narrow_nan hz, h1]
    rfl
  | some y' =>
    rw [hw] at hy
    obtain ⟨rfl, _⟩ := cf_some hy
    have hx : c32 x = some x := by
      cases h2 : c32 x with
      | none => rw [wide_nan h2] at hw; cases hw
      | some z => obtain ⟨rfl, _⟩ := cf_some h2; rfl
    have hR : rootF (c32 x) = (FloatKind.f64.format.sqrt y).bind fun z => narrow z := by
      unfold rootF
      rw [hx]
      show (wide x).bind _ = _
      rw [hw]
      rfl
    rw [hR]
    cases hs : FloatKind.f64.format.sqrt y with
    | none =>
      rw [hs] at hz
      exact ⟨fun _ => hz, narrow_nan hz⟩
    | some z' =>
      rw [hs] at hz
      obtain ⟨rfl, _⟩ := cf_some hz
      refine ⟨fun hn => ?_, rfl⟩
      obtain ⟨r, hr⟩ := root_ok hw hs
      rw [hr] at hn
      cases hn

set_option maxHeartbeats 400000 in
theorem RootNumber_any (x : Nat) (w : World) : Calls Try.prog 130 #[.float .f32 x] w (RetF w (rootF (c32 x))) := by
  obtain ⟨y, w1, hr, hx, hc, hlt⟩ := widen_ x w
  go_enter Try.func130, Try.ntmps130
  go_wp2_with (simp only [hr])
  refine (mathSqrt_any y _).mono ?_
  rintro e w2 ⟨z, rfl, hz, _, hx2⟩
  obtain ⟨s1, s2⟩ := root_step hc hz
  obtain ⟨r, w3, hr2, hx3, hc3, _⟩ := narrow_ z w2 s1
  rw [s2] at hc3
  clear hr s1 s2 hz hc
  go_wp2_with (simp only [hr2])
  go_ret
  exact ⟨r, rfl, hc3, (hx.trans hx2).trans hx3⟩

set_option maxHeartbeats 400000 in
theorem l01Narrow_any (x : Nat) (hn : narrow x = none → cf .f64 x = none) (w : World) : Calls Try.prog 146 #[.float .f64 x] w (RetF w (narrow x)) := by
  obtain ⟨r, w3, hr2, hx3, hc3, _⟩ := narrow_ x w hn
  clear hn
  go_enter Try.func146, Try.ntmps146
  go_wp2_with (simp only [hr2])
  go_ret
  exact ⟨r, rfl, hc3, hx3⟩

set_option maxHeartbeats 400000 in
theorem l01Sqrt_any (x : Nat) (w : World) : Calls Try.prog 128 #[.float .f32 x] w (RetF w (rootF (c32 x))) := by
  obtain ⟨y, w1, hr, hx, hc, hlt⟩ := widen_ x w
  go_enter Try.func128, Try.ntmps128
  go_wp2_with (simp only [hr])
  refine (mathSqrt_any y _).mono ?_
  rintro e w2 ⟨z, rfl, hz, _, hx2⟩
  obtain ⟨s1, s2⟩ := root_step hc hz
  clear hr
  go_wp2_with fail
  refine (l01Narrow_any z s1 _).mono ?_
  rintro e w3 ⟨r, rfl, hc3, hx3⟩
  rw [s2] at hc3
  clear s1 s2 hz hc
  go_wp2_with fail
  go_ret
  exact ⟨r, rfl, hc3, (hx.trans hx2).trans hx3⟩

/-- A number, if it is finite. -/
def RetFB (w : World) (d : Option Nat) (e : Ending) (w' : World) : Prop := ∃ r, e = .returned (.tuple #[.float .f32 r, .bool (finO d)]) ∧ r = (if finO d then d.getD 0 else 0) ∧ Ext w w'
theorem retFB {x : Nat} : (if finO (c32 x) then (c32 x).getD 0 else 0) = if isFin .f32 x then x else 0 := by
  rw [finO_cf]
  cases h : isFin .f32 x with
  | false => rfl
  | true => rw [isFin_c32 h]; rfl
end Go.Proofs.Ytkifpligpobiaaa
