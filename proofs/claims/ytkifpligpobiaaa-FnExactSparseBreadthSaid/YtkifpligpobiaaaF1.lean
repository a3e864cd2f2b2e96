
/- The widening of floats. Nothing of the program. -/

import Derived.Test.YtkifpligpobiaaaF0
set_option linter.unusedVariables false
set_option linter.unusedSimpArgs false

namespace Go.Proofs.Ytkifpligpobiaaa

open Go.RowKit

theorem read32_number {x : Nat} {s : Bool} {m : Nat} {e : Int} (h : FloatKind.f32.format.read x = .number s m e) : m < 16777216 ∧ -149 ≤ e ∧ e ≤ 104 := by
  have e1 : FloatKind.f32.format.signWeight = 2147483648 := rfl
  have e2 : FloatKind.f32.format.infRung = 2139095040 := rfl
  have e3 : FloatKind.f32.format.binade = 8388608 := rfl
  have e4 : FloatKind.f32.format.leastPlace = -149 := rfl
  unfold Ieee.Format.read at h
  simp only [e1, e2, e3, e4] at h
  split at h
  · simp only [Ieee.Datum.number.injEq] at h
    obtain ⟨_, h2, h3⟩ := h
    omega
  · split at h
    · simp only [Ieee.Datum.number.injEq] at h
      obtain ⟨_, h2, h3⟩ := h
      omega
    · split at h <;> cases h

theorem cut_zero (neg : Bool) (n : Nat) : Ieee.Toward.even.cut neg n 0 = n := by
  unfold Ieee.Toward.cut
  simp [Nat.mod_one]

/-- The rung of a number of f32 among those of f64. -/
theorem wide_rung {s : Bool} {m : Nat} {e : Int} (h : m < 16777216) (h1 : -149 ≤ e) (h2 : e ≤ 104) : ∃ rung, rung < FloatKind.f64.format.infRung ∧ FloatKind.f64.format.nearest s m e = FloatKind.f64.format.word s rung := by
  have e2 : FloatKind.f64.format.infRung = 9218868437227405312 := rfl
  have e3 : FloatKind.f64.format.binade = 4503599627370496 := rfl
  have e4 : FloatKind.f64.format.leastPlace = -1074 := rfl
  have e5 : FloatKind.f64.format.fractionBits = 52 := rfl
  unfold Ieee.Format.nearest
  by_cases hm : m = 0
  · rw [if_pos hm]
    exact ⟨0, by rw [e2]; omega, rfl⟩
  · rw [if_neg hm]
    have hl : m.log2 < 24 := (Nat.log2_lt hm).2 (by simpa using h)
    have hlast : max (e + (m.log2 : Int) - ((52 : Nat) : Int)) (-1074) = e + (m.log2 : Int) - 52 := by omega
    rw [← e4, ← e5] at hlast
    obtain ⟨B, hB⟩ : ∃ B, B = FloatKind.f64.format.binade := ⟨_, rfl⟩
    obtain ⟨I, hI⟩ : ∃ I, I = FloatKind.f64.format.infRung := ⟨_, rfl⟩
    dsimp only
    rw [hlast, ← hB, ← hI]
    rw [← hB] at e3
    rw [← hI] at e2
    have d0 : (e + (m.log2 : Int) - 52 - e).toNat = 0 := by omega
    rw [d0, cut_zero]
    obtain ⟨K, hK⟩ : ∃ K, K = m <<< (e - (e + (m.log2 : Int) - 52)).toNat := ⟨_, rfl⟩
    have hk : K < 9007199254740992 := by
      have hd : (e - (e + (m.log2 : Int) - 52)).toNat = 52 - m.log2 := by omega
      rw [hK, hd, Nat.shiftLeft_eq]
      have hml : m < 2 ^ (m.log2 + 1) := Nat.lt_log2_self
      calc m * 2 ^ (52 - m.log2) < 2 ^ (m.log2 + 1) * 2 ^ (52 - m.log2) := Nat.mul_lt_mul_of_pos_right hml (Nat.two_pow_pos _)
        _ = 2 ^ 53 := by rw [← Nat.pow_add]; congr 1; omega
        _ = 9007199254740992 := rfl
    rw [← hK]
    obtain ⟨T, hT⟩ : ∃ T, T = (e + (m.log2 : Int) - 52 - FloatKind.f64.format.leastPlace).toNat := ⟨_, rfl⟩
    have hT' : T ≤ 1149 := by rw [hT, e4]; omega
    rw [← hT]
    refine ⟨min (T * B + K) I, ?_, rfl⟩
    clear hK hT hB hI hlast d0 hl e4 e5 h1 h2
    have hTB : T * B ≤ 1149 * B := Nat.mul_le_mul_right _ hT'
    subst e3 e2
    omega

theorem read_less (k : FloatKind) (neg : Bool) (rung : Nat) (h : rung < k.format.infRung) : ∃ s m e, k.format.read (k.format.word neg rung) = .number s m e := by
  have hlt := k.format.infRung_lt
  have hm : k.format.word neg rung % k.format.signWeight = rung := by
    unfold Ieee.Format.word
    split
    · rw [Nat.add_mod_left, Nat.mod_eq_of_lt (by omega)]
    · exact Nat.mod_eq_of_lt (by omega)
  unfold Ieee.Format.read
  simp only [hm]
  split
  · exact ⟨_, _, _, rfl⟩
  · first | exact ⟨_, _, _, rfl⟩ | (rw [if_pos h]; exact ⟨_, _, _, rfl⟩)

/-- A number of f32 among those of f64; of a NaN: none. -/
def wide (x : Nat) : Option Nat := floatToFloatBits .f32 x .f64
theorem wide_num {x : Nat} {s : Bool} {m : Nat} {e : Int} (h : FloatKind.f32.format.read x = .number s m e) : wide x = some (FloatKind.f64.format.write (.number s m e)) ∧ isFin .f64 (FloatKind.f64.format.write (.number s m e)) = true := by
  obtain ⟨h1, h2, h3⟩ := read32_number h
  obtain ⟨rung, hr, hw⟩ := wide_rung (s := s) h1 h2 h3
  have hw' : FloatKind.f64.format.write (.number s m e) = FloatKind.f64.format.word s rung := hw
  obtain ⟨s', m', e', hd⟩ := read_less .f64 s rung hr
  rw [← hw'] at hd
  refine ⟨?_, by unfold isFin; rw [hd]⟩
  unfold wide floatToFloatBits
  have hdec : FloatKind.f32.decode x = .number s m e := h
  rw [if_neg (by decide), hdec]
  have hdec2 : FloatKind.f64.decode (FloatKind.f64.encode (.number s m e)) = .number s' m' e' := hd
  simp only [hdec2]
  rfl
theorem wide_inf {x : Nat} {s : Bool} (h : FloatKind.f32.format.read x = .infinity s) : wide x = some (FloatKind.f64.format.write (.infinity s)) := by
  unfold wide floatToFloatBits
  have hdec : FloatKind.f32.decode x = .infinity s := h
  rw [if_neg (by decide), hdec]
  rfl
theorem wide_nan {x : Nat} (h : cf .f32 x = none) : wide x = none := by
  obtain ⟨s, t, e⟩ := isNaN_iff.1 (cf_none.1 h)
  unfold wide floatToFloatBits
  have hdec : FloatKind.f32.decode x = .nan s t := e
  rw [if_neg (by decide), hdec]

theorem order_self {k : FloatKind} {x : Nat} (h : (k.format.read x).isNaN = false) : k.format.order x x = some .eq := by
  unfold Ieee.Format.order
  cases hd : k.format.read x with
  | number s m e => simp [Ieee.Datum.order]
  | infinity s => cases s <;> rfl
  | nan s t => rw [hd] at h; simp [Ieee.Datum.isNaN] at h
theorem order_ne (k : FloatKind) (x : Nat) : (k.format.order x x != some .eq) = (cf k x).isNone := by
  cases h : (k.format.read x).isNaN with
  | true => rw [order_nan (cf_none.2 h), cf_none.2 h]; rfl
  | false => rw [order_self h]; unfold cf; rw [h]; rfl

end Go.Proofs.Ytkifpligpobiaaa
