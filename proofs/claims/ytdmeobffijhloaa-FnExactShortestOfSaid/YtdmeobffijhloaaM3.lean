
import Derived.Test.YtdmeobffijhloaaM2

import Derived.Test.YtdmeobffijhloaaT0
set_option linter.unusedVariables false
set_option linter.unusedSimpArgs false

namespace Go.Proofs.Ytdmeobffijhloaa

open Go.RowKit

theorem u32f : Try.prog.underlying 46 = some (.float .f32) := Try.underlying46
theorem u64f : Try.prog.underlying 62 = some (.float .f64) := Try.underlying62
theorem widen_ (x : Nat) (w : World) : ∃ r w', (convert 46 62 (.float .f32 x)).run Try.prog w = .ok (.float .f64 r) w' ∧ Ext w w' ∧ cf .f64 r = wide x ∧ r < 18446744073709551616 :=
  run_widen _ _ x w (by rw [u32f]; rfl) u64f
theorem narrow_ (x : Nat) (w : World) (hn : narrow x = none → cf .f64 x = none) : ∃ r w', (convert 62 46 (.float .f64 x)).run Try.prog w = .ok (.float .f32 r) w' ∧ Ext w w' ∧ cf .f32 r = narrow x ∧ r < 4294967296 :=
  run_narrow _ _ x w (by rw [u64f]; rfl) u32f hn

theorem sqrt_ext (x : Nat) : Extern.MathSqrt.sqrt #[.float .f64 x] = (match FloatKind.f64.format.sqrt x with
    | some r => pure (.float .f64 r)
    | none => do pure (.float .f64 (← choose (.nanBits .f64 x x)))) := rfl
/-- The root by way of f64 is never too great for f32. -/
theorem root_step {x y z : Nat} (hy : cf .f64 y = wide x) (hz : cf .f64 z = FloatKind.f64.format.sqrt y) : (narrow z = none → cf .f64 z = none) ∧ narrow z = rootF (c32 x) := by
  cases hw : wide x with
  | none =>
    have h1 : c32 x = none := cf_none.2 (wide_none hw)
    rw [hw] at hy
    rw [sqrt_nan hy] at hz
    refine ⟨fun _ => hz, ?_⟩
    rw [narrow_nan hz, h1]
    rfl
  | some y' =>
    rw [hw] at hy
    obtain ⟨rfl, _⟩ := cf_some hy
    have hx : c32 x = some x := by
      cases h2 : c32 x with
      | none => rw [wide_nan h2] at hw; cases hw
      | some z => obtain ⟨rfl, _⟩ := cf_some h2; rfl
    have hR : rootF (c32 x) = (FloatKind.f64.format.sqrt y).bind fun z => narrow z := by
      unfold rootF
      rw [hx]
      show (wide x).bind _ = _
      rw [hw]
      rfl
    rw [hR]
    cases hs : FloatKind.f64.format.sqrt y with
    | none =>
      rw [hs] at hz
      exact ⟨fun _ => hz, narrow_nan hz⟩
    | some z' =>
      rw [hs] at hz
      obtain ⟨rfl, _⟩ := cf_some hz
      refine ⟨fun hn => ?_, rfl⟩
      obtain ⟨r, hr⟩ := root_ok hw hs
      rw [hr] at hn
      cases hn

/-- A number, if it is finite. -/
def RetFB (w : World) (d : Option Nat) (e : Ending) (w' : World) : Prop := ∃ r, e = .returned (.tuple #[.float .f32 r, .bool (finO d)]) ∧ r = (if finO d then d.getD 0 else 0) ∧ Ext w w'
theorem retFB {x : Nat} : (if finO (c32 x) then (c32 x).getD 0 else 0) = if isFin .f32 x then x else 0 := by
  rw [finO_cf]
  cases h : isFin .f32 x with
  | false => rfl
  | true => rw [isFin_c32 h]; rfl
end Go.Proofs.Ytdmeobffijhloaa
