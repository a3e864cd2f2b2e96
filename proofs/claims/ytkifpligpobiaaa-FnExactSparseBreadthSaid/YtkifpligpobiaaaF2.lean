
/- What words of floats stand for: exact numbers, absolute values, roots. Nothing of the program. -/

import Derived.Test.YtkifpligpobiaaaF1
set_option linter.unusedVariables false
set_option linter.unusedSimpArgs false

namespace Go.Proofs.Ytkifpligpobiaaa

open Go.RowKit

theorem log2_shl {m k : Nat} (hm : m ≠ 0) : (m <<< k).log2 = m.log2 + k := by
  have h1 := Nat.log2_self_le hm
  have h2 : m < 2 ^ (m.log2 + 1) := Nat.lt_log2_self
  have hne : m <<< k ≠ 0 := by rw [Nat.shiftLeft_eq]; exact Nat.mul_ne_zero hm (Nat.ne_of_gt (Nat.two_pow_pos _))
  have a : m.log2 + k ≤ (m <<< k).log2 := by
    rw [Nat.le_log2 hne, Nat.shiftLeft_eq, Nat.pow_add]
    exact Nat.mul_le_mul_right _ h1
  have b : (m <<< k).log2 < m.log2 + k + 1 := by
    rw [Nat.log2_lt hne, Nat.shiftLeft_eq]
    have : 2 ^ (m.log2 + k + 1) = 2 ^ (m.log2 + 1) * 2 ^ k := by rw [← Nat.pow_add]; congr 1; omega
    rw [this]
    exact Nat.mul_lt_mul_of_pos_right h2 (Nat.two_pow_pos _)
  omega

theorem cut_shl {neg : Bool} {m k d : Nat} (hm : m ≠ 0) : Ieee.Toward.even.cut neg (m <<< k) (d + k) = Ieee.Toward.even.cut neg m d := by
  unfold Ieee.Toward.cut
  have e : min (d + k) ((m <<< k).log2 + 2) = min d (m.log2 + 2) + k := by rw [log2_shl hm]; omega
  obtain ⟨g, hg⟩ : ∃ g, g = min d (m.log2 + 2) := ⟨_, rfl⟩
  rw [e, ← hg]
  have e1 : 1 <<< (g + k) = (1 <<< g) * 2 ^ k := by simp [Nat.shiftLeft_eq, Nat.pow_add]
  have e2 : m <<< k = m * 2 ^ k := Nat.shiftLeft_eq _ _
  have hp : 0 < 2 ^ k := Nat.two_pow_pos _
  have e3 : m * 2 ^ k / (1 <<< g * 2 ^ k) = m / 1 <<< g := Nat.mul_div_mul_right _ _ hp
  have e4 : m * 2 ^ k % (1 <<< g * 2 ^ k) = m % (1 <<< g) * 2 ^ k := Nat.mul_mod_mul_right _ _ _
  simp only [e1, e2, e3, e4]
  have c1 : decide (1 <<< g * 2 ^ k < 2 * (m % 1 <<< g * 2 ^ k)) = decide (1 <<< g < 2 * (m % 1 <<< g)) := by
    rw [← Nat.mul_assoc]
    exact decide_eq_decide.2 (Nat.mul_lt_mul_right hp)
  have c2 : (1 <<< g * 2 ^ k == 2 * (m % 1 <<< g * 2 ^ k)) = (1 <<< g == 2 * (m % 1 <<< g)) := by
    rw [← Nat.mul_assoc]
    apply Bool.eq_iff_iff.2
    simp only [beq_iff_eq]
    exact Nat.mul_right_cancel_iff hp
  rw [c1, c2]

/-- A number of another writing. -/
theorem nearest_shl (f : Ieee.Format) (neg : Bool) {m k : Nat} (e : Int) (hm : m ≠ 0) : f.nearest neg (m <<< k) (e - k) = f.nearest neg m e := by
  have hne : m <<< k ≠ 0 := by rw [Nat.shiftLeft_eq]; exact Nat.mul_ne_zero hm (Nat.ne_of_gt (Nat.two_pow_pos _))
  unfold Ieee.Format.nearest
  rw [if_neg hne, if_neg hm]
  have hl : max (e - (k : Int) + ((m <<< k).log2 : Int) - f.fractionBits) f.leastPlace = max (e + (m.log2 : Int) - f.fractionBits) f.leastPlace := by
    rw [log2_shl hm]; congr 1; omega
  dsimp only
  rw [hl]
  obtain ⟨L, hL⟩ : ∃ L, L = max (e + (m.log2 : Int) - f.fractionBits) f.leastPlace := ⟨_, rfl⟩
  rw [← hL]
  have key : Ieee.Toward.even.cut neg ((m <<< k) <<< (e - (k : Int) - L).toNat) (L - (e - (k : Int))).toNat = Ieee.Toward.even.cut neg (m <<< (e - L).toNat) (L - e).toNat := by
    by_cases h1 : L ≤ e - k
    · have a1 : (L - (e - (k : Int))).toNat = 0 := by omega
      have a2 : (L - e).toNat = 0 := by omega
      have a3 : (e - L).toNat = k + (e - (k : Int) - L).toNat := by omega
      rw [a1, a2, a3, ← Nat.shiftLeft_add]
    · by_cases h2 : L ≤ e
      · obtain ⟨d, hd⟩ : ∃ d : Nat, (d : Int) = L - (e - (k : Int)) := ⟨(L - (e - (k : Int))).toNat, by omega⟩
        have a1 : (L - (e - (k : Int))).toNat = 0 + d := by omega
        have a2 : (L - e).toNat = 0 := by omega
        have a3 : (e - (k : Int) - L).toNat = 0 := by omega
        have a4 : k = (e - L).toNat + d := by omega
        have a5 : m <<< k = (m <<< (e - L).toNat) <<< d := by rw [← Nat.shiftLeft_add, ← a4]
        have hne' : m <<< (e - L).toNat ≠ 0 := by rw [Nat.shiftLeft_eq]; exact Nat.mul_ne_zero hm (Nat.ne_of_gt (Nat.two_pow_pos _))
        rw [a1, a2, a3, Nat.shiftLeft_zero, a5, cut_shl hne']
      · have a1 : (L - (e - (k : Int))).toNat = (L - e).toNat + k := by omega
        have a2 : (e - (k : Int) - L).toNat = 0 := by omega
        have a3 : (e - L).toNat = 0 := by omega
        rw [a1, a2, a3, Nat.shiftLeft_zero, Nat.shiftLeft_zero, cut_shl hm]
  rw [key]

/-- What a read number is like. -/
theorem read_spec (k : FloatKind) {x : Nat} {s : Bool} {m : Nat} {e : Int} (h : k.format.read x = .number s m e) :
    m < 2 * k.format.binade ∧ k.format.leastPlace ≤ e ∧ s = (x / k.format.signWeight % 2 == 1) ∧ ((e - k.format.leastPlace).toNat * k.format.binade + m = x % k.format.signWeight) ∧ (e = k.format.leastPlace ∨ k.format.binade ≤ m) ∧ x % k.format.signWeight < k.format.infRung := by
  have hb : 0 < k.format.binade := Nat.two_pow_pos _
  have hbi : k.format.binade < k.format.infRung := by cases k <;> decide
  unfold Ieee.Format.read at h
  obtain ⟨R, hR⟩ : ∃ R, R = x % k.format.signWeight := ⟨_, rfl⟩
  simp only [← hR] at h ⊢
  split at h
  · simp only [Ieee.Datum.number.injEq] at h
    obtain ⟨rfl, rfl, rfl⟩ := h
    refine ⟨by omega, by omega, rfl, by simp, .inl rfl, by omega⟩
  · split at h
    · simp only [Ieee.Datum.number.injEq] at h
      obtain ⟨rfl, rfl, rfl⟩ := h
      have h1 := Nat.mod_lt R hb
      have h2 : 1 ≤ R / k.format.binade := (Nat.le_div_iff_mul_le hb).2 (by omega)
      have h3 := Nat.div_add_mod R k.format.binade
      refine ⟨by omega, by omega, rfl, ?_, .inr (by omega), by assumption⟩
      have e1 : (k.format.leastPlace + ((R / k.format.binade - 1 : Nat) : Int) - k.format.leastPlace).toNat = R / k.format.binade - 1 := by omega
      rw [e1]
      obtain ⟨q, hq⟩ : ∃ q, R / k.format.binade = q + 1 := ⟨R / k.format.binade - 1, by omega⟩
      rw [hq] at h3 ⊢
      rw [Nat.mul_succ, Nat.mul_comm] at h3
      rw [Nat.add_sub_cancel]
      omega
    · split at h <;> cases h

theorem log2_lt_of (m b : Nat) (h : m < 2 * 2 ^ b) : m.log2 ≤ b := by
  by_cases hm : m = 0
  · subst hm; simp
  · have : m.log2 < b + 1 := (Nat.log2_lt hm).2 (by rw [Nat.pow_succ]; omega)
    omega

/-- A number that a format has is written without loss, and read as it was. -/
theorem nearest_exact (f : Ieee.Format) {m : Nat} {e : Int} (hm : m ≠ 0) (h1 : m.log2 ≤ f.fractionBits) (h2 : f.leastPlace ≤ e) (h3 : e + (m.log2 : Int) - f.fractionBits - f.leastPlace + 2 < 2 ^ f.exponentBits) (he : 2 ≤ f.exponentBits) :
    ∃ d r : Nat, r < f.infRung ∧ ∀ s, f.nearest s m e = f.word s r ∧ f.read (f.nearest s m e) = .number s (m <<< d) (e - d) := by
  obtain ⟨L, hL⟩ : ∃ L, L = max (e + (m.log2 : Int) - f.fractionBits) f.leastPlace := ⟨_, rfl⟩
  have hd : 0 ≤ e - L := by omega
  refine ⟨(e - L).toNat, (L - f.leastPlace).toNat * f.binade + m <<< (e - L).toNat, ?_⟩
  have e1 : e - ((e - L).toNat : Int) = L := by omega
  rw [e1]
  have hK : m <<< (e - L).toNat < 2 * f.binade := by
    have hlt : (m <<< (e - L).toNat).log2 ≤ f.fractionBits := by rw [log2_shl hm]; omega
    have hne : m <<< (e - L).toNat ≠ 0 := by rw [Nat.shiftLeft_eq]; exact Nat.mul_ne_zero hm (Nat.ne_of_gt (Nat.two_pow_pos _))
    have := (Nat.log2_lt hne).1 (Nat.lt_succ_of_le hlt)
    unfold Ieee.Format.binade
    rw [Nat.pow_succ] at this
    omega
  obtain ⟨K, hKe⟩ : ∃ K, K = m <<< (e - L).toNat := ⟨_, rfl⟩
  have hKL : L = f.leastPlace ∨ f.binade ≤ K := by
    by_cases h : L = f.leastPlace
    · exact .inl h
    · right
      have hne : K ≠ 0 := by rw [hKe, Nat.shiftLeft_eq]; exact Nat.mul_ne_zero hm (Nat.ne_of_gt (Nat.two_pow_pos _))
      have : f.fractionBits ≤ K.log2 := by rw [hKe, log2_shl hm]; omega
      exact (Nat.le_log2 hne).1 this
  have hb : 0 < f.binade := Nat.two_pow_pos _
  obtain ⟨T, hT⟩ : ∃ T, T = (L - f.leastPlace).toNat := ⟨_, rfl⟩
  have hTe : T + 2 < 2 ^ f.exponentBits ∨ T = 0 := by
    by_cases h : L = f.leastPlace
    · right; omega
    · left
      have : ((T + 2 : Nat) : Int) < ((2 ^ f.exponentBits : Nat) : Int) := by
        have e0 : ((2 ^ f.exponentBits : Nat) : Int) = 2 ^ f.exponentBits := by simp
        rw [e0]; omega
      omega
  have hpow : 4 ≤ 2 ^ f.exponentBits := by
    calc 4 = 2 ^ 2 := rfl
      _ ≤ 2 ^ f.exponentBits := Nat.pow_le_pow_right (by omega) he
  rw [← hKe] at hK
  have hrung : T * f.binade + K < f.infRung := by
    unfold Ieee.Format.infRung
    rcases hTe with h | h
    · have : (T + 2) * f.binade ≤ (2 ^ f.exponentBits - 1) * f.binade := Nat.mul_le_mul_right _ (by omega)
      rw [Nat.add_mul] at this
      omega
    · have : 3 * f.binade ≤ (2 ^ f.exponentBits - 1) * f.binade := Nat.mul_le_mul_right _ (by omega)
      rw [h]
      omega
  have hnear : ∀ s, f.nearest s m e = f.word s (T * f.binade + K) := by
    intro s
    unfold Ieee.Format.nearest
    rw [if_neg hm]
    dsimp only
    rw [← hL]
    have d0 : (L - e).toNat = 0 := by omega
    rw [d0, cut_zero, ← hKe, ← hT, Nat.min_eq_left (Nat.le_of_lt hrung)]
  rw [← hKe, ← hT]
  refine ⟨hrung, fun s => ⟨hnear s, ?_⟩⟩
  rw [hnear]
  have hlt := f.infRung_lt
  have hm2 : f.word s (T * f.binade + K) % f.signWeight = T * f.binade + K := by
    unfold Ieee.Format.word
    split
    · rw [Nat.add_mod_left, Nat.mod_eq_of_lt (by omega)]
    · exact Nat.mod_eq_of_lt (by omega)
  have hs2 : (f.word s (T * f.binade + K) / f.signWeight % 2 == 1) = s := by
    unfold Ieee.Format.word
    cases s
    · rw [if_neg (by simp), Nat.div_eq_of_lt (by omega)] <;> rfl
    · rw [if_pos rfl, Nat.add_div_left _ (by omega), Nat.div_eq_of_lt (by omega)]; rfl
  unfold Ieee.Format.read
  simp only [hm2, hs2]
  by_cases hKB : K < f.binade
  · have hLl : L = f.leastPlace := by rcases hKL with h | h <;> omega
    have hT0 : T = 0 := by omega
    rw [hT0, Nat.zero_mul, Nat.zero_add, if_pos hKB, hLl]
  · have h0 : ¬ T * f.binade + K < f.binade := by omega
    rw [if_neg h0, if_pos hrung]
    obtain ⟨r, hr⟩ : ∃ r, K = f.binade + r := ⟨K - f.binade, by omega⟩
    have e2 : T * f.binade + K = (T + 1) * f.binade + r := by rw [hr, Nat.succ_mul]; omega
    have hdv : (T * f.binade + K) / f.binade = T + 1 := by
      rw [e2, Nat.mul_comm, Nat.mul_add_div hb, Nat.div_eq_of_lt (by omega)]
    have hmd : (T * f.binade + K) % f.binade = r := by
      rw [e2, Nat.mul_comm, Nat.mul_add_mod, Nat.mod_eq_of_lt (by omega)]
    rw [hdv, hmd, hr]
    congr 1
    omega

/-- What was read is written as it was. -/
theorem write_read (k : FloatKind) {x : Nat} {s : Bool} {m : Nat} {e : Int} (h : k.format.read x = .number s m e) (t : Bool) : k.format.nearest t m e = k.format.word t (x % k.format.signWeight) := by
  obtain ⟨h1, h2, h3, h4, h5, h6⟩ := read_spec k h
  unfold Ieee.Format.nearest
  by_cases hm : m = 0
  · rw [if_pos hm]
    have : e = k.format.leastPlace := by
      have hb : 0 < k.format.binade := Nat.two_pow_pos _
      omega
    rw [← h4, hm, this]
    simp
  · rw [if_neg hm]
    have hl := log2_lt_of m k.format.fractionBits h1
    have hL : max (e + (m.log2 : Int) - k.format.fractionBits) k.format.leastPlace = e := by
      rcases h5 with h | h
      · omega
      · have := (Nat.le_log2 hm (k := k.format.fractionBits)).2 h
        omega
    dsimp only
    rw [hL]
    have d0 : (e - e).toNat = 0 := by omega
    rw [d0, cut_zero, Nat.shiftLeft_zero, h4, Nat.min_eq_left (Nat.le_of_lt h6)]

theorem read_inf (k : FloatKind) {x : Nat} {s : Bool} (h : k.format.read x = .infinity s) : x % k.format.signWeight = k.format.infRung := by
  unfold Ieee.Format.read at h
  simp only at h
  split at h
  · cases h
  · split at h
    · cases h
    · split at h
      · assumption
      · cases h
theorem word_mod (k : FloatKind) (s : Bool) {r : Nat} (h : r ≤ k.format.infRung) : k.format.word s r % k.format.signWeight = r := by
  have hlt := k.format.infRung_lt
  unfold Ieee.Format.word
  split
  · rw [Nat.add_mod_left, Nat.mod_eq_of_lt (by omega)]
  · exact Nat.mod_eq_of_lt (by omega)
theorem read_infRung (k : FloatKind) (s : Bool) : k.format.read (k.format.word s k.format.infRung) = .infinity s := by
  have hb : ¬ k.format.infRung < k.format.binade := by cases k <;> decide
  have hm := word_mod k s (Nat.le_refl _)
  have hlt := k.format.infRung_lt
  have hs2 : (k.format.word s k.format.infRung / k.format.signWeight % 2 == 1) = s := by
    unfold Ieee.Format.word
    cases s
    · rw [if_neg (by simp), Nat.div_eq_of_lt (by omega)] <;> rfl
    · rw [if_pos rfl, Nat.add_div_left _ (by omega), Nat.div_eq_of_lt (by omega)]; rfl
  unfold Ieee.Format.read
  simp only [hm, hs2]
  rw [if_neg hb, if_neg (by omega), if_pos trivial]

/-- The absolute value of a word of f32. -/
def absW (x : Nat) : Nat := x % 2147483648
/-- A number of f64 among those of f32; of a NaN or of one that is too great: none. -/
def narrow (x : Nat) : Option Nat := floatToFloatBits .f64 x .f32
theorem narrow_num {y : Nat} {s : Bool} {m : Nat} {e : Int} (h : FloatKind.f64.format.read y = .number s m e) (hi : (FloatKind.f32.format.read (FloatKind.f32.format.nearest s m e)).isInfinity = false) : narrow y = some (FloatKind.f32.format.nearest s m e) := by
  unfold narrow floatToFloatBits
  have hdec : FloatKind.f64.decode y = .number s m e := h
  rw [if_neg (by decide), hdec]
  have hdec2 : (FloatKind.f32.decode (FloatKind.f32.encode (.number s m e))).isInfinity = false := hi
  simp only [hdec2]
  rfl
theorem narrow_inf {y : Nat} {s : Bool} (h : FloatKind.f64.format.read y = .infinity s) : narrow y = some (FloatKind.f32.format.word s FloatKind.f32.format.infRung) := by
  unfold narrow floatToFloatBits
  have hdec : FloatKind.f64.decode y = .infinity s := h
  rw [if_neg (by decide), hdec]
  rfl
theorem narrow_nan {y : Nat} (h : cf .f64 y = none) : narrow y = none := by
  obtain ⟨s, t, e⟩ := isNaN_iff.1 (cf_none.1 h)
  unfold narrow floatToFloatBits
  have hdec : FloatKind.f64.decode y = .nan s t := e
  rw [if_neg (by decide), hdec]

/-- A number of f32 is one of f64. -/
theorem wide_exact {x : Nat} {s : Bool} {m : Nat} {e : Int} (h : FloatKind.f32.format.read x = .number s m e) (hm : m ≠ 0) :
    ∃ d r : Nat, r < FloatKind.f64.format.infRung ∧ wide x = some (FloatKind.f64.format.word s r) ∧ ∀ t, FloatKind.f64.format.read (FloatKind.f64.format.word t r) = .number t (m <<< d) (e - d) := by
  obtain ⟨h1, h2, h3⟩ := read32_number h
  have hl : m.log2 ≤ 23 := log2_lt_of m 23 (by simpa using h1)
  obtain ⟨d, r, hr, hs⟩ := nearest_exact FloatKind.f64.format (m := m) (e := e) hm (by have : FloatKind.f64.format.fractionBits = 52 := rfl; omega)
    (by have : FloatKind.f64.format.leastPlace = -1074 := rfl; omega)
    (by have a1 : FloatKind.f64.format.fractionBits = 52 := rfl
        have a2 : FloatKind.f64.format.leastPlace = -1074 := rfl
        have a3 : (2 : Int) ^ FloatKind.f64.format.exponentBits = 2048 := rfl
        rw [a1, a2, a3]; omega) (by decide)
  refine ⟨d, r, hr, ?_, fun t => ?_⟩
  · rw [(wide_num h).1]
    exact congrArg some (hs s).1
  · rw [← (hs t).1]
    exact (hs t).2

theorem abs_path {x : Nat} (h : (FloatKind.f32.format.read x).isNaN = false) : ∃ y, wide x = some y ∧ narrow (y % 9223372036854775808) = some (absW x) := by
  have e1 : FloatKind.f32.format.signWeight = 2147483648 := rfl
  have e2 : FloatKind.f64.format.signWeight = 9223372036854775808 := rfl
  cases hd : FloatKind.f32.format.read x with
  | number s m e =>
    obtain ⟨a1, a2, a3, a4, a5, a6⟩ := read_spec .f32 hd
    by_cases hm : m = 0
    · subst hm
      have he : e = FloatKind.f32.format.leastPlace := by
        have hb : 0 < FloatKind.f32.format.binade := Nat.two_pow_pos _
        omega
      have hx : absW x = 0 := by unfold absW; rw [← e1, ← a4, he]; simp
      refine ⟨_, (wide_num hd).1, ?_⟩
      have : FloatKind.f64.format.write (.number s 0 e) % 9223372036854775808 = 0 := by
        show FloatKind.f64.format.nearest s 0 e % 9223372036854775808 = 0
        unfold Ieee.Format.nearest
        rw [if_pos rfl, ← e2]
        exact word_mod .f64 s (Nat.zero_le _)
      rw [this, hx]
      rfl
    · obtain ⟨d, r, hr, hw, hs⟩ := wide_exact hd hm
      refine ⟨_, hw, ?_⟩
      have hmod : FloatKind.f64.format.word s r % 9223372036854775808 = FloatKind.f64.format.word false r := by
        rw [← e2, word_mod .f64 s (Nat.le_of_lt hr)]; rfl
      have hnn : FloatKind.f32.format.nearest false (m <<< d) (e - d) = absW x := by
        rw [nearest_shl _ _ _ hm, write_read .f32 hd]; rfl
      rw [hmod, narrow_num (hs false) ?_, hnn]
      rw [hnn]
      obtain ⟨s', m', e', hd'⟩ := read_less .f32 false (x % FloatKind.f32.format.signWeight) a6
      have : FloatKind.f32.format.word false (x % FloatKind.f32.format.signWeight) = absW x := rfl
      rw [← this, hd']
      rfl
  | infinity s =>
    refine ⟨_, wide_inf hd, ?_⟩
    have hmod : FloatKind.f64.format.write (.infinity s) % 9223372036854775808 = FloatKind.f64.format.word false FloatKind.f64.format.infRung := by
      show FloatKind.f64.format.word s _ % _ = _
      rw [← e2, word_mod .f64 s (Nat.le_refl _)]; rfl
    rw [hmod, narrow_inf (read_infRung .f64 false)]
    have := read_inf .f32 hd
    unfold absW
    rw [← e1, this]
    rfl
  | nan s t => rw [hd] at h; simp [Ieee.Datum.isNaN] at h

/-! ### Roots -/

theorem rootFrom_spec (n : Nat) : ∀ (todo root : Nat), root * root ≤ n → root ≤ Ieee.Datum.rootFrom n todo root ∧ Ieee.Datum.rootFrom n todo root < root + 2 ^ todo
  | 0, root, _ => by simp [Ieee.Datum.rootFrom]
  | todo + 1, root, h => by
    unfold Ieee.Datum.rootFrom
    have e : 1 <<< todo = 2 ^ todo := by simp [Nat.shiftLeft_eq]
    simp only [e]
    rw [Nat.pow_succ]
    have hp := Nat.two_pow_pos todo
    split
    · rename_i hl
      obtain ⟨a, b⟩ := rootFrom_spec n todo (root + 2 ^ todo) hl
      omega
    · obtain ⟨a, b⟩ := rootFrom_spec n todo root h
      omega
theorem rootFrom_log {n : Nat} (hn : n ≠ 0) : Ieee.Datum.rootFrom n (n.log2 / 2 + 1) 0 ≠ 0 ∧ (Ieee.Datum.rootFrom n (n.log2 / 2 + 1) 0).log2 = n.log2 / 2 := by
  obtain ⟨T, hT⟩ : ∃ T, T = n.log2 / 2 := ⟨_, rfl⟩
  rw [← hT]
  have h1 : 2 ^ T * 2 ^ T ≤ n := by
    have h2 := Nat.log2_self_le hn
    have : 2 ^ T * 2 ^ T ≤ 2 ^ n.log2 := by
      rw [← Nat.pow_add]
      exact Nat.pow_le_pow_right (by omega) (by omega)
    omega
  have hst : Ieee.Datum.rootFrom n (T + 1) 0 = Ieee.Datum.rootFrom n T (2 ^ T) := by
    show (let longer := 0 + 1 <<< T; Ieee.Datum.rootFrom n T (if longer * longer ≤ n then longer else 0)) = _
    have e : 0 + 1 <<< T = 2 ^ T := by simp [Nat.shiftLeft_eq]
    simp only [e]
    rw [if_pos h1]
  obtain ⟨a, b⟩ := rootFrom_spec n T (2 ^ T) h1
  rw [← hst] at a b
  have hp := Nat.two_pow_pos T
  have hne : Ieee.Datum.rootFrom n (T + 1) 0 ≠ 0 := by omega
  refine ⟨hne, ?_⟩
  have c1 := (Nat.le_log2 hne (k := T)).2 a
  have c2 := (Nat.log2_lt hne (k := T + 1)).2 (by rw [Nat.pow_succ]; omega)
  omega
theorem log2_double {w b : Nat} (hw : w ≠ 0) (hb : b ≤ 1) : (2 * w + b).log2 = w.log2 + 1 := by
  have h1 := Nat.log2_self_le hw
  have h2 : w < 2 ^ (w.log2 + 1) := Nat.lt_log2_self
  have hne : 2 * w + b ≠ 0 := by omega
  have a : w.log2 + 1 ≤ (2 * w + b).log2 := (Nat.le_log2 hne).2 (by rw [Nat.pow_succ]; omega)
  have c : (2 * w + b).log2 < w.log2 + 1 + 1 := (Nat.log2_lt hne).2 (by rw [Nat.pow_succ]; omega)
  omega
/-- The size of a root. -/
theorem root_log (digits : Nat) {m : Nat} (e : Int) (hm : m ≠ 0) : ∃ (M : Nat) (P : Int), Ieee.Datum.root digits (.number false m e) = some (.number false M P) ∧ M ≠ 0 ∧ 2 * ((M.log2 : Int) + P) ≤ m.log2 + e ∧ (m.log2 : Int) + e ≤ 2 * ((M.log2 : Int) + P) + 1 := by
  unfold Ieee.Datum.root
  dsimp only
  rw [if_neg hm, if_neg (by simp)]
  obtain ⟨more, hmo⟩ : ∃ more : Nat, more = (2 * digits - m.log2) + ((e - ((2 * digits - m.log2 : Nat) : Int)) % 2).toNat := ⟨_, rfl⟩
  have heven : (e - (more : Int)) % 2 = 0 := by omega
  simp only [← hmo]
  have hne : m <<< more ≠ 0 := by rw [Nat.shiftLeft_eq]; exact Nat.mul_ne_zero hm (Nat.ne_of_gt (Nat.two_pow_pos _))
  obtain ⟨h1, h2⟩ := rootFrom_log hne
  obtain ⟨W, hW⟩ : ∃ W, W = Ieee.Datum.rootFrom (m <<< more) ((m <<< more).log2 / 2 + 1) 0 := ⟨_, rfl⟩
  rw [← hW] at h1 h2 ⊢
  refine ⟨_, _, rfl, by omega, ?_⟩
  have hb : (W * W != m <<< more).toNat ≤ 1 := by cases (W * W != m <<< more) <;> decide
  rw [log2_double h1 hb, h2, log2_shl hm]
  omega

/-- Between what numbers a written number lies. -/
theorem nearest_log (f : Ieee.Format) (s : Bool) {M : Nat} {P : Int} (hM : M ≠ 0) (h1 : f.leastPlace + f.fractionBits ≤ (M.log2 : Int) + P) (h2 : (M.log2 : Int) + P - f.fractionBits - f.leastPlace + 3 < 2 ^ f.exponentBits) :
    ∃ (r m : Nat) (e : Int), f.nearest s M P = f.word s r ∧ r < f.infRung ∧ r ≠ 0 ∧ f.read (f.nearest s M P) = .number s m e ∧ m ≠ 0 ∧ (M.log2 : Int) + P ≤ m.log2 + e ∧ (m.log2 : Int) + e ≤ M.log2 + P + 1 := by
  obtain ⟨L, hL⟩ : ∃ L, L = P + (M.log2 : Int) - f.fractionBits := ⟨_, rfl⟩
  have hmax : max (P + (M.log2 : Int) - f.fractionBits) f.leastPlace = L := by omega
  have hB : f.binade = 2 ^ f.fractionBits := rfl
  have hb : 0 < f.binade := Nat.two_pow_pos _
  obtain ⟨K, hK⟩ : ∃ K, K = Ieee.Toward.even.cut s (M <<< (P - L).toNat) (L - P).toNat := ⟨_, rfl⟩
  have hKb : f.binade ≤ K ∧ K ≤ 2 * f.binade := by
    by_cases hp : L ≤ P
    · have d0 : (L - P).toNat = 0 := by omega
      rw [d0, cut_zero] at hK
      have hne : M <<< (P - L).toNat ≠ 0 := by rw [Nat.shiftLeft_eq]; exact Nat.mul_ne_zero hM (Nat.ne_of_gt (Nat.two_pow_pos _))
      have hlog : K.log2 = f.fractionBits := by rw [hK, log2_shl hM]; omega
      rw [← hK] at hne
      have a := (Nat.le_log2 hne (k := f.fractionBits)).1 (by omega)
      have b := (Nat.log2_lt hne (k := f.fractionBits + 1)).1 (by omega)
      rw [Nat.pow_succ] at b
      omega
    · have d0 : (P - L).toNat = 0 := by omega
      obtain ⟨b, hbb⟩ : ∃ b, b = (L - P).toNat := ⟨_, rfl⟩
      rw [d0, Nat.shiftLeft_zero, ← hbb] at hK
      have hlog : M.log2 = f.fractionBits + b := by omega
      have a1 := Nat.log2_self_le hM
      have a2 : M < 2 ^ (M.log2 + 1) := Nat.lt_log2_self
      rw [hlog] at a1 a2
      have hmin : min b (M.log2 + 2) = b := by omega
      have hp2 := Nat.two_pow_pos b
      have low1 : f.binade ≤ M / 2 ^ b := (Nat.le_div_iff_mul_le hp2).2 (by rw [hB, ← Nat.pow_add]; exact a1)
      have low2 : M / 2 ^ b < 2 * f.binade := (Nat.div_lt_iff_lt_mul hp2).2 (by
        have : 2 * f.binade * 2 ^ b = 2 ^ (f.fractionBits + b + 1) := by rw [hB, Nat.pow_succ, Nat.pow_add]; simp [Nat.mul_comm, Nat.mul_left_comm]
        omega)
      have hcut : ∃ c, c ≤ 1 ∧ K = M / 2 ^ b + c := by
        rw [hK]
        unfold Ieee.Toward.cut
        rw [hmin]
        have e1 : 1 <<< b = 2 ^ b := by simp [Nat.shiftLeft_eq]
        rw [e1]
        refine ⟨_, ?_, rfl⟩
        exact Bool.toNat_le _
      obtain ⟨c, hc, hKc⟩ := hcut
      omega
  obtain ⟨T, hT⟩ : ∃ T, T = (L - f.leastPlace).toNat := ⟨_, rfl⟩
  have hTe : T + 3 < 2 ^ f.exponentBits := by
    have : ((T + 3 : Nat) : Int) < ((2 ^ f.exponentBits : Nat) : Int) := by
      have e0 : ((2 ^ f.exponentBits : Nat) : Int) = 2 ^ f.exponentBits := by simp
      rw [e0]; omega
    omega
  have hrung : T * f.binade + K < f.infRung := by
    unfold Ieee.Format.infRung
    have : (T + 3) * f.binade ≤ (2 ^ f.exponentBits - 1) * f.binade := Nat.mul_le_mul_right _ (by omega)
    rw [Nat.add_mul] at this
    omega
  have hnear : f.nearest s M P = f.word s (T * f.binade + K) := by
    unfold Ieee.Format.nearest
    rw [if_neg hM]
    dsimp only
    rw [hmax, ← hK, ← hT, Nat.min_eq_left (Nat.le_of_lt hrung)]
  have hlt := f.infRung_lt
  have hm2 : f.word s (T * f.binade + K) % f.signWeight = T * f.binade + K := by
    unfold Ieee.Format.word
    split
    · rw [Nat.add_mod_left, Nat.mod_eq_of_lt (by omega)]
    · exact Nat.mod_eq_of_lt (by omega)
  have hs2 : (f.word s (T * f.binade + K) / f.signWeight % 2 == 1) = s := by
    unfold Ieee.Format.word
    cases s
    · rw [if_neg (by simp), Nat.div_eq_of_lt (by omega)] <;> rfl
    · rw [if_pos rfl, Nat.add_div_left _ (by omega), Nat.div_eq_of_lt (by omega)]; rfl
  have hLT : L = f.leastPlace + T := by omega
  have hread : ∀ (q r : Nat), T * f.binade + K = (q + 1) * f.binade + r → r < f.binade → f.read (f.nearest s M P) = .number s (f.binade + r) (f.leastPlace + q) := by
    intro q r e2 hr
    rw [hnear]
    unfold Ieee.Format.read
    simp only [hm2, hs2]
    rw [if_neg (by omega), if_pos hrung]
    have hdv : (T * f.binade + K) / f.binade = q + 1 := by
      rw [e2, Nat.mul_comm, Nat.mul_add_div hb, Nat.div_eq_of_lt (by omega)]
    have hmd : (T * f.binade + K) % f.binade = r := by
      rw [e2, Nat.mul_comm, Nat.mul_add_mod, Nat.mod_eq_of_lt (by omega)]
    rw [hdv, hmd]
    rfl
  have hlogB : ∀ r, r < f.binade → (f.binade + r).log2 = f.fractionBits := by
    intro r hr
    have hne : f.binade + r ≠ 0 := by omega
    have a := (Nat.le_log2 hne (k := f.fractionBits)).2 (by omega)
    have b := (Nat.log2_lt hne (k := f.fractionBits + 1)).2 (by rw [Nat.pow_succ]; omega)
    omega
  by_cases hK2 : K = 2 * f.binade
  · have e3 : (T + 1 + 1) * f.binade = T * f.binade + f.binade + f.binade := by rw [Nat.succ_mul, Nat.succ_mul]
    have hr := hread (T + 1) 0 (by rw [e3]; omega) hb
    refine ⟨_, _, _, hnear, hrung, by omega, hr, by omega, ?_⟩
    rw [hlogB 0 hb]
    omega
  · have e3 : (T + 1) * f.binade = T * f.binade + f.binade := by rw [Nat.succ_mul]
    have hr := hread T (K - f.binade) (by rw [e3]; omega) (by omega)
    refine ⟨_, _, _, hnear, hrung, by omega, hr, by omega, ?_⟩
    rw [hlogB _ (by omega)]
    omega

/-- The root of a number of f32, by way of f64. -/
def rootF (a : Option Nat) : Option Nat := a.bind fun x => (wide x).bind fun y => (FloatKind.f64.format.sqrt y).bind fun z => narrow z
theorem root_pos {x : Nat} {m : Nat} {e : Int} (h : FloatKind.f32.format.read x = .number false m e) (hm : m ≠ 0) : ∃ y z r m' e', wide x = some y ∧ FloatKind.f64.format.sqrt y = some z ∧ narrow z = some r ∧ FloatKind.f32.format.read r = .number false m' e' ∧ m' ≠ 0 := by
  obtain ⟨h1, h2, h3⟩ := read32_number h
  have hl : m.log2 ≤ 23 := log2_lt_of m 23 (by simpa using h1)
  obtain ⟨d, r, hr, hw, hs⟩ := wide_exact h hm
  have hne : m <<< d ≠ 0 := by rw [Nat.shiftLeft_eq]; exact Nat.mul_ne_zero hm (Nat.ne_of_gt (Nat.two_pow_pos _))
  obtain ⟨M, P, hroot, hM, b1, b2⟩ := root_log 54 (e - d) hne
  rw [log2_shl hm] at b1 b2
  have a1 : FloatKind.f64.format.fractionBits = 52 := rfl
  have a2 : FloatKind.f64.format.leastPlace = -1074 := rfl
  have a3 : (2 : Int) ^ FloatKind.f64.format.exponentBits = 2048 := rfl
  obtain ⟨r1, m1, e1, _, _, _, hread, hm1, c1, c2⟩ := nearest_log FloatKind.f64.format false (P := P) hM (by rw [a1, a2]; omega) (by rw [a1, a2, a3]; omega)
  have a4 : FloatKind.f32.format.fractionBits = 23 := rfl
  have a5 : FloatKind.f32.format.leastPlace = -149 := rfl
  have a6 : (2 : Int) ^ FloatKind.f32.format.exponentBits = 256 := rfl
  obtain ⟨r2, m2, e2, _, _, _, hread2, hm2, _, _⟩ := nearest_log FloatKind.f32.format false (M := m1) (P := e1) hm1 (by rw [a4, a5]; omega) (by rw [a4, a5, a6]; omega)
  refine ⟨_, FloatKind.f64.format.nearest false M P, FloatKind.f32.format.nearest false m1 e1, m2, e2, hw, ?_, narrow_num hread (by rw [hread2]; rfl), hread2, hm2⟩
  unfold Ieee.Format.sqrt
  rw [hs false]
  have : FloatKind.f64.format.fractionBits + 2 = 54 := rfl
  rw [this, hroot]
  rfl

end Go.Proofs.Ytkifpligpobiaaa
