
/- ShortestOf: what is answered. -/

import Derived.Test.YtdmeobffijhloaaE2

import Derived.Test.YtdmeobffijhloaaS1
set_option linter.unusedVariables false
set_option linter.unusedSimpArgs false

namespace Go.Proofs.Ytdmeobffijhloaa

open Go.RowKit

theorem low_nat {r c : Int} {xs : List Int} (h : isWholeB r c xs 100 = true) : ∃ R C : Nat, r = R ∧ c = C ∧ 1 ≤ R ∧ R ≤ 6 ∧ 1 ≤ C ∧ C ≤ 6 ∧ xs.length = R * C ∧ ∀ i k : Nat, i < R → k < C → -100 ≤ atI xs C i k ∧ atI xs C i k ≤ 100 := by
  unfold isWholeB at h
  simp only [Bool.and_eq_true, decide_eq_true_eq] at h
  obtain ⟨⟨⟨h1, h2⟩, h3⟩, h4⟩ := h
  have h1 := inR_iff.1 h1
  have h2 := inR_iff.1 h2
  obtain ⟨R, rfl⟩ : ∃ R : Nat, r = R := ⟨r.toNat, by omega⟩
  obtain ⟨C, rfl⟩ : ∃ C : Nat, c = C := ⟨c.toNat, by omega⟩
  have e : ((R : Int) * (C : Int)) = ((R * C : Nat) : Int) := by simp
  have hl : xs.length = R * C := by omega
  refine ⟨R, C, rfl, rfl, by omega, by omega, by omega, by omega, hl, fun i k hi hk => ?_⟩
  have hlt : i * C + k < xs.length := by
    have : (i + 1) * C ≤ R * C := Nat.mul_le_mul_right _ (by omega)
    rw [Nat.succ_mul] at this
    omega
  have ha : atI xs C i k = xs[i * C + k] := by
    unfold atI
    rw [show (i : Int) * C + k = ((i * C + k : Nat) : Int) from by simp, rd_get hlt]
  rw [ha]
  rw [List.all_eq_true] at h4
  exact inR_iff.1 (h4 _ (List.getElem_mem _))
def allN (ρ R : Nat) : Nat := (2 * ρ + 1) ^ R
def shoV (a : Nat → Nat → Int) (ρ R C : Nat) : List Int × Int × Bool := match bestN a ρ R C (allN ρ R) with
  | none => ([], 0, false)
  | some p => (lstI C (vecN a ρ R p.1), p.2, true)
theorem shoV_none {a : Nat → Nat → Int} {ρ R C : Nat} (h : bestN a ρ R C (allN ρ R) = none) : shoV a ρ R C = ([], 0, false) := by unfold shoV; rw [h]
theorem shoV_some {a : Nat → Nat → Int} {ρ R C : Nat} {p : Nat × Int} (h : bestN a ρ R C (allN ρ R) = some p) : shoV a ρ R C = (lstI C (vecN a ρ R p.1), p.2, true) := by unfold shoV; rw [h]
/-- What ShortestOf answers. -/
def shoD (r c : Int) (xs : List Int) (reach : Int) : List Int × Int × Bool :=
  if isWholeB r c xs 100 && decide (r ≤ 4) && inR 1 reach 3 then shoV (fun i k => atI xs c.toNat i k) reach.toNat r.toNat c.toNat else ([], 0, false)
theorem shoD_1 {r c : Int} {xs : List Int} {reach : Int} (h : isWholeB r c xs 100 = false) : shoD r c xs reach = ([], 0, false) := by unfold shoD; rw [h]; rfl
theorem shoD_2 {r c : Int} {xs : List Int} {reach : Int} (h : ¬ r ≤ 4) : shoD r c xs reach = ([], 0, false) := by unfold shoD; rw [decide_eq_false h, Bool.and_false]; rfl
theorem shoD_3 {r c : Int} {xs : List Int} {reach : Int} (h : inR 1 reach 3 = false) : shoD r c xs reach = ([], 0, false) := by unfold shoD; rw [h, Bool.and_false]; rfl
theorem shoD_ok {R C ρ : Nat} {xs : List Int} (h1 : isWholeB R C xs 100 = true) (h2 : R ≤ 4) (h3 : inR 1 (ρ : Int) 3 = true) : shoD R C xs ρ = shoV (fun i k => atI xs C i k) ρ R C := by
  unfold shoD
  rw [h1, decide_eq_true (by omega : (R : Int) ≤ 4), h3, Int.toNat_natCast, Int.toNat_natCast, Int.toNat_natCast]
  rfl
section

variable {a : Nat → Nat → Int} {ρ R C n k i m : Nat}

/-- The sums, as far as they have been reckoned: the first k whole, the next one up to row i. -/
def psum (a : Nat → Nat → Int) (ρ R n k i : Nat) : Nat → Int := fun j => if j < k then vecN a ρ R n j else if j = k then sumI (fun p => facI ρ R n p * a p k) 0 i else 0
theorem psum_zero (a : Nat → Nat → Int) (ρ R n : Nat) : psum a ρ R n 0 0 = fun _ => 0 := by
  funext j
  unfold psum
  rw [if_neg (by omega)]
  split <;> rfl
theorem psum_row (a : Nat → Nat → Int) (ρ R n k : Nat) : psum a ρ R n k R = psum a ρ R n (k + 1) 0 := by
  funext j
  unfold psum
  by_cases h1 : j < k
  · rw [if_pos h1, if_pos (by omega)]
  · rw [if_neg h1]
    by_cases h2 : j = k
    · subst h2; rw [if_pos rfl, if_pos (by omega)]; rfl
    · rw [if_neg h2, if_neg (by omega)]; split <;> rfl
theorem psum_at (a : Nat → Nat → Int) (ρ R n k i : Nat) : psum a ρ R n k i k = sumI (fun p => facI ρ R n p * a p k) 0 i := by
  unfold psum
  rw [if_neg (by omega), if_pos rfl]
theorem psum_set (a : Nat → Nat → Int) (ρ R C n k i : Nat) : (lstI C (psum a ρ R n k i)).set k (sumI (fun p => facI ρ R n p * a p k) 0 i + facI ρ R n i * a i k) = lstI C (psum a ρ R n k (i + 1)) := by
  refine lstI_set ?_ (fun j _ hj => ?_)
  · rw [psum_at]
    show sumI _ 0 i + facI ρ R n (0 + i) * a (0 + i) k = _
    rw [Nat.zero_add]
  · unfold psum
    by_cases h1 : j < k
    · rw [if_pos h1, if_pos h1]
    · rw [if_neg h1, if_neg h1, if_neg hj, if_neg hj]
theorem psum_end (a : Nat → Nat → Int) (ρ R C n : Nat) : lstI C (psum a ρ R n C 0) = lstI C (vecN a ρ R n) := lstI_congr fun j hj => by unfold psum; rw [if_pos hj]
theorem psum_done (a : Nat → Nat → Int) (ρ R n k : Nat) : psum a ρ R n (k + 1) 0 k = vecN a ρ R n k := by unfold psum; rw [if_pos (by omega)]
/-- The factors, when the last m have been set back. -/
def odo (ρ R n m : Nat) : Nat → Int := fun p => if R ≤ p + m then -(ρ : Int) else facI ρ R n p
theorem odo_zero (ρ R n : Nat) : lstI R (odo ρ R n 0) = lstI R (facI ρ R n) := lstI_congr fun j hj => by unfold odo; rw [if_neg (by omega)]
theorem odo_at (hm : m < R) : odo ρ R n m (R - 1 - m) = facI ρ R n (R - 1 - m) := by unfold odo; rw [if_neg (by omega)]
theorem odo_set (hm : m < R) : (lstI R (odo ρ R n m)).set (R - 1 - m) (-(ρ : Int)) = lstI R (odo ρ R n (m + 1)) := by
  refine lstI_set ?_ (fun j hj hne => ?_)
  · unfold odo; rw [if_pos (by omega)]
  · unfold odo
    by_cases h : R ≤ j + m
    · rw [if_pos h, if_pos (by omega)]
    · rw [if_neg h, if_neg (by omega)]
theorem fac_dgt (hm : m < R) : facI ρ R n (R - 1 - m) = (dgt (2 * ρ + 1) n m : Int) - ρ := by
  unfold facI
  rw [show R - 1 - (R - 1 - m) = m from by omega]
theorem fac_full (hm : m < R) (h : facI ρ R n (R - 1 - m) = ρ) : dgt (2 * ρ + 1) n m + 1 = 2 * ρ + 1 := by rw [fac_dgt hm] at h; omega
theorem fac_less (hm : m < R) (h : facI ρ R n (R - 1 - m) ≠ ρ) : dgt (2 * ρ + 1) n m + 1 < 2 * ρ + 1 := by
  have h2 : dgt (2 * ρ + 1) n m < 2 * ρ + 1 := Nat.mod_lt _ (by omega)
  rw [fac_dgt hm] at h
  omega
theorem odo_inc (hm : m < R) (ht : trail (2 * ρ + 1) n m) (h : dgt (2 * ρ + 1) n m + 1 < 2 * ρ + 1) : (lstI R (odo ρ R n m)).set (R - 1 - m) (facI ρ R n (R - 1 - m) + 1) = lstI R (facI ρ R (n + 1)) := by
  refine lstI_set ?_ (fun j hj hne => ?_)
  · rw [fac_dgt hm, fac_dgt hm, dgt_at (by omega) ht h]
    omega
  · unfold odo
    by_cases h2 : R ≤ j + m
    · rw [if_pos h2]
      unfold facI
      rw [dgt_low (by omega) ht (by omega)]
      simp
    · rw [if_neg h2]
      unfold facI
      rw [dgt_high (by omega) ht h (by omega)]
theorem all_bound (hρ : ρ ≤ 3) (hR : R ≤ 4) : allN ρ R ≤ 2401 := by
  unfold allN
  refine Nat.le_trans (Nat.pow_le_pow_left (show 2 * ρ + 1 ≤ 7 by omega) R) ?_
  exact Nat.le_trans (Nat.pow_le_pow_right (by omega) hR) (by decide)
theorem all_pos (ρ R : Nat) : 0 < allN ρ R := Nat.pow_pos (by omega)
/-- A factor times a number. -/
theorem prod_bound (hρ : ρ ≤ 3) {x : Int} (hx : -100 ≤ x ∧ x ≤ 100) (i : Nat) : -300 ≤ facI ρ R n i * x ∧ facI ρ R n i * x ≤ 300 := by
  have h3 := facI_range ρ R n i
  obtain ⟨f, hf⟩ : ∃ f, f = facI ρ R n i := ⟨_, rfl⟩
  rw [← hf] at h3 ⊢
  have h5 : -3 ≤ f ∧ f ≤ 3 := by omega
  have : f = -3 ∨ f = -2 ∨ f = -1 ∨ f = 0 ∨ f = 1 ∨ f = 2 ∨ f = 3 := by omega
  rcases this with rfl | rfl | rfl | rfl | rfl | rfl | rfl <;> omega
theorem vec_bound (hρ : ρ ≤ 3) (hR : R ≤ 4) (ha : ∀ i k : Nat, i < R → k < C → -100 ≤ a i k ∧ a i k ≤ 100) (hk : k < C) (hi : i ≤ R) : -1200 ≤ sumI (fun p => facI ρ R n p * a p k) 0 i ∧ sumI (fun p => facI ρ R n p * a p k) 0 i ≤ 1200 :=
  vecN_bound hρ hR (fun i hi => ha i k hi hk) hk 0 i (by omega)
theorem sq_bound (hρ : ρ ≤ 3) (hR : R ≤ 4) (hC : C ≤ 6) (ha : ∀ i k : Nat, i < R → k < C → -100 ≤ a i k ∧ a i k ≤ 100) (hk : k ≤ C) : 0 ≤ sqI (vecN a ρ R n) k ∧ sqI (vecN a ρ R n) k ≤ 8640000 := by
  have h := sqI_bound (g := vecN a ρ R n) (B := 1200) (by omega) (t := k) (fun i hi => vec_bound hρ hR ha (by omega) (Nat.le_refl _))
  omega
theorem mul_bound {x : Int} (hx : -1200 ≤ x ∧ x ≤ 1200) : 0 ≤ x * x ∧ x * x ≤ 1440000 := by
  have := sqI_bound (g := fun _ => x) (B := 1200) (by omega) (t := 1) (fun _ _ => hx)
  simp only [sqI, Int.zero_add] at this
  omega
end

/-- A list, a number and whether there is one. -/
def RetSh (w : World) (d : List Int × Int × Bool) (e : Ending) (w' : World) : Prop := ∃ X cX, e = .returned (.tuple #[.slice X d.1.length cX, .int .i64 d.2.1, .bool d.2.2]) ∧ Own w' w.heap.size 2 (.slice X d.1.length cX) (ints d.1) ∧ Ext w w'

end Go.Proofs.Ytdmeobffijhloaa
