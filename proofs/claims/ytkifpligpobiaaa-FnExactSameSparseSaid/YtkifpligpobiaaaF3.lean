
/- Two numbers that are equal and have one sign are one word. Nothing of the program. -/

import Derived.Test.YtkifpligpobiaaaT0
set_option linter.unusedVariables false
set_option linter.unusedSimpArgs false

namespace Go.Proofs.Ytkifpligpobiaaa

open Go.RowKit

theorem read_neg (x : Nat) : (FloatKind.f32.format.read x).neg = (x / 2147483648 % 2 == 1) := by
  have e1 : FloatKind.f32.format.signWeight = 2147483648 := rfl
  unfold Ieee.Format.read
  simp only [e1]
  split
  · rfl
  · split
    · rfl
    · split <;> rfl
theorem order_word {x y : Nat} (hx : x < 4294967296) (hy : y < 4294967296) (h : FloatKind.f32.format.order x y = some .eq) (hs : (FloatKind.f32.format.read x).neg = (FloatKind.f32.format.read y).neg) : x = y := by
  have e1 : FloatKind.f32.format.signWeight = 2147483648 := rfl
  have e2 : FloatKind.f32.format.infRung = 2139095040 := rfl
  have e3 : FloatKind.f32.format.binade = 8388608 := rfl
  have key : x % 2147483648 = y % 2147483648 → x = y := by
    intro hk
    rw [read_neg, read_neg] at hs
    have a : x / 2147483648 % 2 = y / 2147483648 % 2 := by
      cases h1 : (x / 2147483648 % 2 == 1) with
      | true => rw [h1] at hs; simp at h1; simp at hs; omega
      | false => rw [h1] at hs; simp at h1; simp at hs; omega
    omega
  unfold Ieee.Format.order at h
  cases hd : FloatKind.f32.format.read x with
  | nan s t => rw [hd] at h; cases h
  | infinity s =>
    rw [hd] at h
    cases he : FloatKind.f32.format.read y with
    | nan s t => rw [he] at h; cases h
    | number t n j => rw [he] at h; cases s <;> cases h
    | infinity t =>
      have inf : ∀ {z : Nat} {s : Bool}, FloatKind.f32.format.read z = .infinity s → z % 2147483648 = 2139095040 := by
        intro z s hz
        unfold Ieee.Format.read at hz
        simp only [e1, e2, e3] at hz
        split at hz
        · cases hz
        · split at hz
          · cases hz
          · split at hz
            · assumption
            · cases hz
      exact key (by rw [inf hd, inf he])
  | number s m i =>
    rw [hd] at h
    cases he : FloatKind.f32.format.read y with
    | nan s t => rw [he] at h; cases h
    | infinity t => rw [he] at h; cases t <;> cases h
    | number t n j =>
      rw [he] at h
      rw [hd, he] at hs
      obtain rfl : s = t := hs
      have h' : Ieee.signed s m (i - min i j).toNat = Ieee.signed s n (j - min i j).toNat := by
        simp only [Ieee.Datum.order, Option.some.injEq] at h
        simpa using h
      have hmn : m <<< (i - min i j).toNat = n <<< (j - min i j).toNat := by
        unfold Ieee.signed at h'
        cases s
        · rw [if_neg (by simp), if_neg (by simp)] at h'
          exact Int.ofNat.inj h'
        · rw [if_pos rfl, if_pos rfl] at h'
          exact Int.ofNat.inj (Int.neg_inj.1 h')
      apply key
      have w1 := write_read .f32 hd s
      have w2 := write_read .f32 he s
      rw [e1] at w1 w2
      have hw : FloatKind.f32.format.word s (x % 2147483648) = FloatKind.f32.format.word s (y % 2147483648) := by
        rw [← w1, ← w2]
        by_cases hm : m = 0
        · have hn : n = 0 := by
            rw [hm, Nat.zero_shiftLeft, Nat.shiftLeft_eq] at hmn
            rcases Nat.mul_eq_zero.1 hmn.symm with h | h
            · exact h
            · exact absurd h (Nat.ne_of_gt (Nat.two_pow_pos _))
          subst hm; subst hn
          unfold Ieee.Format.nearest
          simp
        · have hn : n ≠ 0 := by
            intro hn
            rw [hn, Nat.zero_shiftLeft, Nat.shiftLeft_eq] at hmn
            rcases Nat.mul_eq_zero.1 hmn with h | h
            · exact hm h
            · exact absurd h (Nat.ne_of_gt (Nat.two_pow_pos _))
          have a1 := nearest_shl FloatKind.f32.format s (k := (i - min i j).toNat) i hm
          have a2 := nearest_shl FloatKind.f32.format s (k := (j - min i j).toNat) j hn
          rw [← a1, ← a2, hmn]
          congr 1
          omega
      unfold Ieee.Format.word at hw
      rw [e1] at hw
      cases s <;> simp at hw <;> exact hw

/-- The sign of a number widened. -/
theorem wide_sign {x y : Nat} (h : wide x = some y) : y < 18446744073709551616 ∧ decide (9223372036854775808 ≤ y) = (FloatKind.f32.format.read x).neg := by
  have e1 : FloatKind.f64.format.signWeight = 9223372036854775808 := rfl
  have e2 : FloatKind.f64.format.infRung = 9218868437227405312 := rfl
  have word : ∀ (s : Bool) (r : Nat), r ≤ 9218868437227405312 → FloatKind.f64.format.word s r < 18446744073709551616 ∧ decide (9223372036854775808 ≤ FloatKind.f64.format.word s r) = s := by
    intro s r hr
    unfold Ieee.Format.word
    rw [e1]
    cases s <;> simp <;> omega
  cases hd : FloatKind.f32.format.read x with
  | number s m e =>
    by_cases hm : m = 0
    · rw [(wide_num hd).1] at h
      obtain rfl := Option.some.inj h
      subst hm
      have hw : FloatKind.f64.format.write (.number s 0 e) = FloatKind.f64.format.word s 0 := by
        show FloatKind.f64.format.nearest s 0 e = _
        unfold Ieee.Format.nearest
        simp
      rw [hw]
      exact word s 0 (by omega)
    · obtain ⟨d, r, hr, hw, _⟩ := wide_exact hd hm
      rw [hw] at h
      obtain rfl := Option.some.inj h
      exact word s r (by rw [e2] at hr; omega)
  | infinity s =>
    rw [wide_inf hd] at h
    obtain rfl := Option.some.inj h
    exact word s _ (by rw [e2]; omega)
  | nan s t =>
    unfold wide floatToFloatBits at h
    have hdec : FloatKind.f32.decode x = .nan s t := hd
    rw [if_neg (by decide), hdec] at h
    cases h

end Go.Proofs.Ytkifpligpobiaaa
