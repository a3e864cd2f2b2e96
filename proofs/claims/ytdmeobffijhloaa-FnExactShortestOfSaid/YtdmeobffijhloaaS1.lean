
/- Digits, and the shortest of all sums. Nothing of the program. -/

import Derived.Test.YtdmeobffijhloaaLib
set_option linter.unusedVariables false
set_option linter.unusedSimpArgs false

namespace Go.Proofs.Ytdmeobffijhloaa

open Go.RowKit

/-- The digit of n at the place p. -/
def dgt (b n p : Nat) : Nat := n / b ^ p % b
/-- The last m digits are the greatest ones. -/
def trail (b n m : Nat) : Prop := n % b ^ m + 1 = b ^ m
theorem trail_zero (b n : Nat) : trail b n 0 := by unfold trail; simp [Nat.mod_one]
theorem trail_step {b n m : Nat} (hb : 0 < b) (h : trail b n m) (hd : dgt b n m + 1 = b) : trail b n (m + 1) := by
  unfold trail dgt at *
  rw [Nat.pow_succ, Nat.mod_mul]
  obtain ⟨x, hx⟩ : ∃ x, x = n / b ^ m % b := ⟨_, rfl⟩
  rw [← hx] at hd ⊢
  have e : b ^ m * b = b ^ m * x + b ^ m := by
    have : b ^ m * b = b ^ m * (x + 1) := by rw [hd]
    rw [this, Nat.mul_add, Nat.mul_one]
  rw [e]
  omega
theorem trail_next {b n m : Nat} (h : trail b n m) : n + 1 = b ^ m * (n / b ^ m + 1) := by
  unfold trail at h
  have := Nat.div_add_mod n (b ^ m)
  rw [Nat.mul_add, Nat.mul_one]
  omega
theorem dgt_low {b n m p : Nat} (hb : 0 < b) (h : trail b n m) (hp : p < m) : dgt b (n + 1) p = 0 := by
  unfold dgt
  rw [trail_next h]
  obtain ⟨e, rfl⟩ : ∃ e, m = p + (e + 1) := ⟨m - p - 1, by omega⟩
  rw [Nat.pow_add, Nat.mul_assoc, Nat.mul_div_cancel_left _ (Nat.pow_pos hb), Nat.pow_succ, Nat.mul_comm (b ^ e) b, Nat.mul_assoc]
  exact Nat.mul_mod_right _ _
theorem dgt_at {b n m : Nat} (hb : 0 < b) (h : trail b n m) (hd : dgt b n m + 1 < b) : dgt b (n + 1) m = dgt b n m + 1 := by
  unfold dgt at *
  rw [trail_next h, Nat.mul_div_cancel_left _ (Nat.pow_pos hb), Nat.add_mod]
  have h1 : 1 % b = 1 := Nat.mod_eq_of_lt (by omega)
  rw [h1]
  exact Nat.mod_eq_of_lt hd
theorem dgt_high {b n m p : Nat} (hb : 0 < b) (h : trail b n m) (hd : dgt b n m + 1 < b) (hp : m < p) : dgt b (n + 1) p = dgt b n p := by
  obtain ⟨e, rfl⟩ : ∃ e, p = m + (1 + e) := ⟨p - m - 1, by omega⟩
  have hq : (n / b ^ m + 1) / b = n / b ^ m / b := by
    unfold dgt at hd
    have h1 := Nat.div_add_mod (n / b ^ m) b
    obtain ⟨q, hq⟩ : ∃ q, q = n / b ^ m := ⟨_, rfl⟩
    rw [← hq] at h1 hd ⊢
    rw [show q + 1 = b * (q / b) + (q % b + 1) by omega, Nat.mul_add_div hb, Nat.div_eq_of_lt hd]
    rfl
  unfold dgt
  have e1 : ∀ x, x / b ^ (m + (1 + e)) = x / b ^ m / b / b ^ e := by
    intro x
    rw [Nat.pow_add, Nat.pow_add, Nat.pow_one, ← Nat.div_div_eq_div_mul, ← Nat.div_div_eq_div_mul]
  rw [e1, e1, trail_next h, Nat.mul_div_cancel_left _ (Nat.pow_pos hb), hq]
theorem trail_all {b n r : Nat} (h : trail b n r) (hn : n < b ^ r) : n + 1 = b ^ r := by
  unfold trail at h
  rwa [Nat.mod_eq_of_lt hn] at h
/-- The factor of the row i. -/
def facI (ρ r n i : Nat) : Int := (dgt (2 * ρ + 1) n (r - 1 - i) : Int) - ρ
theorem facI_range (ρ r n i : Nat) : -(ρ : Int) ≤ facI ρ r n i ∧ facI ρ r n i ≤ ρ := by
  unfold facI dgt
  have := Nat.mod_lt (n / (2 * ρ + 1) ^ (r - 1 - i)) (show 0 < 2 * ρ + 1 by omega)
  omega
theorem facI_zero (ρ r i : Nat) : facI ρ r 0 i = -(ρ : Int) := by
  unfold facI dgt
  rw [Nat.zero_div, Nat.zero_mod]
  simp
/-- A sum of g from lo on. -/
def sumI (g : Nat → Int) (lo : Nat) : Nat → Int
  | 0 => 0
  | t + 1 => sumI g lo t + g (lo + t)
theorem sumI_front (g : Nat → Int) (lo : Nat) : ∀ t, sumI g lo (t + 1) = g lo + sumI g (lo + 1) t
  | 0 => by simp [sumI]
  | t + 1 => by
    have ih := sumI_front g lo t
    show sumI g lo (t + 1) + g (lo + (t + 1)) = g lo + (sumI g (lo + 1) t + g (lo + 1 + t))
    rw [ih, show lo + (t + 1) = lo + 1 + t by omega]
    omega
theorem sumI_bound {g : Nat → Int} {B : Int} {lo : Nat} : ∀ {t : Nat}, (∀ i, lo ≤ i → i < lo + t → -B ≤ g i ∧ g i ≤ B) → -B * t ≤ sumI g lo t ∧ sumI g lo t ≤ B * t
  | 0, _ => by simp [sumI]
  | t + 1, h => by
    have ih := sumI_bound (t := t) (fun i h1 h2 => h i h1 (by omega))
    have h1 := h (lo + t) (by omega) (by omega)
    have e : ((t + 1 : Nat) : Int) = (t : Int) + 1 := by omega
    rw [e, Int.mul_add, Int.mul_add, Int.mul_one, Int.mul_one]
    show _ ≤ sumI g lo t + g (lo + t) ∧ sumI g lo t + g (lo + t) ≤ _
    omega
def sqI (g : Nat → Int) : Nat → Int
  | 0 => 0
  | t + 1 => sqI g t + g t * g t
theorem sqI_bound {g : Nat → Int} {B : Int} (hB : 0 ≤ B) : ∀ {t : Nat}, (∀ i, i < t → -B ≤ g i ∧ g i ≤ B) → 0 ≤ sqI g t ∧ sqI g t ≤ B * B * t
  | 0, _ => by simp [sqI]
  | t + 1, h => by
    have ih := sqI_bound hB (t := t) (fun i h1 => h i (by omega))
    obtain ⟨h1, h2⟩ := h t (by omega)
    have hp : 0 ≤ g t * g t := by
      rcases Int.le_total 0 (g t) with h0 | h0
      · exact Int.mul_nonneg h0 h0
      · exact Int.mul_nonneg_of_nonpos_of_nonpos h0 h0
    have hq : g t * g t ≤ B * B := by
      rcases Int.le_total 0 (g t) with h0 | h0
      · exact Int.mul_le_mul h2 h2 h0 hB
      · have : (-g t) * (-g t) ≤ B * B := Int.mul_le_mul (by omega) (by omega) (by omega) hB
        rwa [Int.neg_mul_neg] at this
    have e : ((t + 1 : Nat) : Int) = (t : Int) + 1 := by omega
    rw [e, Int.mul_add, Int.mul_one]
    show _ ≤ sqI g t + g t * g t ∧ sqI g t + g t * g t ≤ _
    omega
/-- The list of what g says. -/
def lstI (n : Nat) (g : Nat → Int) : List Int := (List.range n).map g
theorem lstI_length (n : Nat) (g : Nat → Int) : (lstI n g).length = n := by simp [lstI]
theorem lstI_rd {n : Nat} {g : Nat → Int} {j : Nat} (h : j < n) : rd (lstI n g) j = g j := by simp [rd, lstI, h]
theorem lstI_set {n : Nat} {g g' : Nat → Int} {i : Nat} {v : Int} (hv : g' i = v) (h : ∀ j, j < n → j ≠ i → g' j = g j) : (lstI n g).set i v = lstI n g' := by
  apply List.ext_getElem
  · simp [lstI]
  intro j h1 h2
  rw [List.getElem_set]
  simp only [lstI, List.getElem_map, List.getElem_range]
  have hj : j < n := by simpa [lstI] using h2
  split
  · rename_i e; rw [← e, hv]
  · rename_i e; exact (h j hj (fun e' => e e'.symm)).symm
theorem lstI_congr {n : Nat} {g g' : Nat → Int} (h : ∀ j, j < n → g j = g' j) : lstI n g = lstI n g' := by
  unfold lstI
  apply List.map_congr_left
  intro j hj
  exact h j (by simpa using hj)
theorem lstI_const (n : Nat) (z : Int) : lstI n (fun _ => z) = List.replicate n z := by simp [lstI, List.map_const']

/-- The sums for the factors of number n, their squares, the best so far. -/
def vecN (a : Nat → Nat → Int) (ρ r n k : Nat) : Int := sumI (fun i => facI ρ r n i * a i k) 0 r
def sizN (a : Nat → Nat → Int) (ρ r C n : Nat) : Int := sqI (vecN a ρ r n) C
def bestN (a : Nat → Nat → Int) (ρ r C : Nat) : Nat → Option (Nat × Int)
  | 0 => none
  | n + 1 => if decide (0 < sizN a ρ r C n) && (match bestN a ρ r C n with | none => true | some p => decide (sizN a ρ r C n < p.2)) then some (n, sizN a ρ r C n) else bestN a ρ r C n
theorem bestN_take {a : Nat → Nat → Int} {ρ r C n : Nat} (h0 : 0 < sizN a ρ r C n) (h : ∀ p, bestN a ρ r C n = some p → sizN a ρ r C n < p.2) : bestN a ρ r C (n + 1) = some (n, sizN a ρ r C n) := by
  rw [bestN, if_pos]
  rw [decide_eq_true h0, Bool.true_and]
  cases hb : bestN a ρ r C n with
  | none => rfl
  | some p => exact decide_eq_true (h p hb)
theorem bestN_keep {a : Nat → Nat → Int} {ρ r C n : Nat} (h : ¬ 0 < sizN a ρ r C n ∨ ∃ p, bestN a ρ r C n = some p ∧ ¬ sizN a ρ r C n < p.2) : bestN a ρ r C (n + 1) = bestN a ρ r C n := by
  rw [bestN, if_neg]
  rcases h with h | ⟨p, hp, h⟩
  · rw [decide_eq_false h]; simp
  · rw [hp]; simp [h]
theorem vecN_bound {a : Nat → Nat → Int} {ρ r C n k : Nat} (hρ : ρ ≤ 3) (hr : r ≤ 4) (ha : ∀ i, i < r → -100 ≤ a i k ∧ a i k ≤ 100) (_hk : k < C) : ∀ lo t, lo + t ≤ r → -1200 ≤ sumI (fun i => facI ρ r n i * a i k) lo t ∧ sumI (fun i => facI ρ r n i * a i k) lo t ≤ 1200 := by
  intro lo t ht
  have h := sumI_bound (g := fun i => facI ρ r n i * a i k) (B := 300) (lo := lo) (t := t) (fun i h1 h2 => by
    have h3 := facI_range ρ r n i
    have h4 := ha i (by omega)
    obtain ⟨x, hx⟩ : ∃ x, x = facI ρ r n i := ⟨_, rfl⟩
    obtain ⟨y, hy⟩ : ∃ y, y = a i k := ⟨_, rfl⟩
    show -300 ≤ facI ρ r n i * a i k ∧ facI ρ r n i * a i k ≤ 300
    rw [← hx, ← hy]
    rw [← hx] at h3
    rw [← hy] at h4
    have h5 : -3 ≤ x ∧ x ≤ 3 := by omega
    rcases Int.le_total 0 x with hx0 | hx0
    · have m1 : x * y ≤ 3 * 100 := by
        rcases Int.le_total 0 y with hy0 | hy0
        · exact Int.mul_le_mul h5.2 h4.2 hy0 (by omega)
        · have := Int.mul_nonpos_of_nonneg_of_nonpos hx0 hy0; omega
      have m2 : -(3 * 100) ≤ x * y := by
        rcases Int.le_total 0 y with hy0 | hy0
        · have := Int.mul_nonneg hx0 hy0; omega
        · have : x * (-y) ≤ 3 * 100 := Int.mul_le_mul h5.2 (by omega) (by omega) (by omega)
          rw [Int.mul_neg] at this; omega
      omega
    · have m1 : x * y ≤ 3 * 100 := by
        rcases Int.le_total 0 y with hy0 | hy0
        · have := Int.mul_nonpos_of_nonpos_of_nonneg hx0 hy0; omega
        · have : (-x) * (-y) ≤ 3 * 100 := Int.mul_le_mul (by omega) (by omega) (by omega) (by omega)
          rwa [Int.neg_mul_neg] at this
      have m2 : -(3 * 100) ≤ x * y := by
        rcases Int.le_total 0 y with hy0 | hy0
        · have : (-x) * y ≤ 3 * 100 := Int.mul_le_mul (by omega) h4.2 hy0 (by omega)
          rw [Int.neg_mul] at this; omega
        · have := Int.mul_nonneg_of_nonpos_of_nonpos hx0 hy0; omega
      omega)
  have h2 : (t : Int) ≤ 4 := by omega
  omega

end Go.Proofs.Ytdmeobffijhloaa
