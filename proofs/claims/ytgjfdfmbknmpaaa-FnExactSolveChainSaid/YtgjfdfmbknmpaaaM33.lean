import Derived.Test.YtgjfdfmbknmpaaaM1
import Derived.Test.YtgjfdfmbknmpaaaM22
set_option linter.unusedVariables false
set_option linter.unusedSimpArgs false
namespace Go.Proofs.Ytgjfdfmbknmpaaa
open Go.RowKit

/-- What is taken from zero loses its sign. -/
theorem sub_neg {x : Nat} {s : Bool} {m : Nat} {e : Int} (h : FloatKind.f32.format.read x = .number s m e) (hs : s = true ∨ m = 0) : FloatKind.f32.format.sub 0 x = some (absW x) := by
  obtain ⟨a1, a2, a3, a4, a5, a6⟩ := read_spec .f32 h
  have e1 : FloatKind.f32.format.signWeight = 2147483648 := rfl
  have e2 : FloatKind.f32.format.leastPlace = -149 := rfl
  unfold Ieee.Format.sub
  rw [h, read_0]
  simp only [Ieee.Datum.opposite, Ieee.Datum.sum]
  have hm : min (-149) e = -149 := by omega
  have e3 : Ieee.signed false 0 (-149 - -149 : Int).toNat = 0 := by decide
  have e4 : (e - -149).toNat = (e + 149).toNat := by congr 1
  rw [hm, e3, e4, Int.zero_add]
  by_cases h0 : m = 0
  · subst h0
    have he : e = FloatKind.f32.format.leastPlace := by
      have hb : 0 < FloatKind.f32.format.binade := Nat.two_pow_pos _
      omega
    have hx : absW x = 0 := by unfold absW; rw [← e1, ← a4, he]; simp
    have ht : Ieee.signed (!s) 0 (e + 149).toNat = 0 := by unfold Ieee.signed; cases s <;> simp
    rw [ht, hx, if_pos rfl]
    show some (FloatKind.f32.format.nearest (false && !s) 0 (-149)) = some 0
    rw [show (false && !s) = false from rfl]
    decide
  · obtain rfl : s = true := hs.resolve_right h0
    have hp := shl_pos (k := (e + 149).toNat) h0
    have ht : Ieee.signed (!true) m (e + 149).toNat = ((m <<< (e + 149).toNat : Nat) : Int) := by unfold Ieee.signed; rw [if_neg (by simp)]
    rw [ht, if_neg (by omega)]
    have hneg : decide (((m <<< (e + 149).toNat : Nat) : Int) < 0) = false := decide_eq_false (by omega)
    have hk : (-149 : Int) = e - ((e + 149).toNat : Nat) := by omega
    simp only [Option.map_some, hneg, Int.natAbs_natCast]
    show some (FloatKind.f32.format.nearest false (m <<< (e + 149).toNat) (-149)) = _
    rw [hk]
    have : (e - ((e + 149).toNat : Nat) + 149).toNat = 0 := by omega
    rw [← hk, show FloatKind.f32.format.nearest false (m <<< (e + 149).toNat) (-149) = FloatKind.f32.format.nearest false (m <<< (e + 149).toNat) (e - ((e + 149).toNat : Nat)) by rw [← hk], nearest_shl _ _ _ h0, write_read .f32 h]
    rfl

theorem absW_pos {x : Nat} (hx : x < 4294967296) {m : Nat} {e : Int} (h : FloatKind.f32.format.read x = .number false m e) : absW x = x := by
  obtain ⟨_, _, a3, _⟩ := read_spec .f32 h
  have e1 : FloatKind.f32.format.signWeight = 2147483648 := rfl
  rw [e1] at a3
  unfold absW
  have : ¬ (x / 2147483648 % 2 = 1) := by intro hc; rw [hc] at a3; cases a3
  omega

set_option maxRecDepth 20000 in
set_option maxHeartbeats 1000000 in
theorem l02Size_any (x : Nat) (hx : x < 4294967296) (hf : isFin .f32 x = true) (w : World) :
    Calls Try.prog 169 #[.float .f32 x] w (RetF w (some (absW x))) := by
  obtain ⟨s, m, e, hd⟩ : ∃ s m e, FloatKind.f32.format.read x = .number s m e := by
    unfold isFin at hf
    split at hf
    · exact ⟨_, _, _, by assumption⟩
    · cases hf
  have hg := gt0_num hd
  obtain ⟨r, w1, hrr, hx1, hc⟩ := run_fop (P := Try.prog) w .sub (.inr (.inl rfl)) 39 .f32 0 x
  have hle : (FloatKind.f32.format.order x 0 == some .lt || FloatKind.f32.format.order x 0 == some .eq) = !(FloatKind.f32.format.order x 0 == some .gt) := by
    rw [order_0 hd]
    cases compare (Ieee.signed s m (e + 149).toNat) 0 <;> rfl
  rw [hg] at hle
  by_cases hs : s = true ∨ m = 0
  · have hle' : (FloatKind.f32.format.order x 0 == some .lt || FloatKind.f32.format.order x 0 == some .eq) = true := by rw [hle]; rcases hs with rfl | rfl <;> simp
    have hr : c32 r = some (absW x) := by
      rw [fop_cf] at hc
      have hsb : floatBits .sub .f32 0 x = some (absW x) := sub_neg hd hs
      rw [hsb] at hc
      exact hc
    clear hle hg
    rw [Bool.or_eq_true] at hle'
    go_enter Try.func169, Try.ntmps169
    rcases hle' with hl1 | hl1
    all_goals
      go_wp2_with (simp only [hrr])
      go_ret
      exact ⟨r, rfl, hr, hx1⟩
  · have hs2 : s = false ∧ m ≠ 0 := by
      cases s with
      | false => exact ⟨rfl, fun h => hs (.inr h)⟩
      | true => exact absurd (.inl rfl) hs
    obtain ⟨rfl, hm⟩ := hs2
    have hle' : (FloatKind.f32.format.order x 0 == some .lt || FloatKind.f32.format.order x 0 == some .eq) = false := by rw [hle]; simp [hm]
    rw [Bool.or_eq_false_iff] at hle'
    obtain ⟨hl1, hl2⟩ := hle'
    have ha := absW_pos hx hd
    have hc0 := c32_num hd
    rw [ha, ← hc0]
    clear hle hg hc ha hc0
    go_enter Try.func169, Try.ntmps169
    go_wp2_with fail
    go_ret
    exact ⟨x, rfl, rfl, Ext.refl _⟩

end Go.Proofs.Ytgjfdfmbknmpaaa
