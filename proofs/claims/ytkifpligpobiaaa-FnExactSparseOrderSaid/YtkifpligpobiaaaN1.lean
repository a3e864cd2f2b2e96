
/- The root of a square, by rows. Nothing of the program but its float words. -/

import Derived.Test.YtkifpligpobiaaaK7

import Derived.Test.YtkifpligpobiaaaK6

import Derived.Test.YtkifpligpobiaaaQ4

import Derived.Test.YtkifpligpobiaaaQ2

import Derived.Test.YtkifpligpobiaaaSB1
set_option linter.unusedVariables false
set_option linter.unusedSimpArgs false

namespace Go.Proofs.Ytkifpligpobiaaa

open Go.RowKit


def gt0 (a : Option Nat) : Bool := fcmp a (some 0) == some .gt
theorem gt0_c32 (x : Nat) : (FloatKind.f32.format.order x 0 == some .gt) = gt0 (c32 x) := by unfold gt0; rw [← c32_0, fcmp_cf]
/-- A number less the products of the first q of two rows. -/
def sumQ (L : Sqr) (z : Option Nat) (i j : Nat) : Nat → Option Nat
  | 0 => z
  | q + 1 => if (L i q).isSome && (L j q).isSome then fop .sub .f32 (sumQ L z i j q) (fmul ((L i q).getD (some 0)) ((L j q).getD (some 0))) else sumQ L z i j q
def sumM (M L : Sqr) (i j q : Nat) : Option Nat := sumQ L ((M i j).getD (some 0)) i j q
/-- One place. -/
def rtC (T : Nat → Nat → Bool) (M L : Sqr) (i j : Nat) : Option Sqr :=
  if T i j then
    if j < i then some (updM L i j (some (fdiv (sumM M L i j j) ((L j j).getD (some 0)))))
    else if gt0 (sumM M L i j j) then some (updM L i j (some (rootF (sumM M L i j j)))) else none
  else some L
def rtRow (T : Nat → Nat → Bool) (M : Sqr) (i : Nat) : Nat → Option Sqr → Option Sqr
  | 0, o => o
  | j + 1, o => (rtRow T M i j o).bind fun L => rtC T M L i j
def rtAll (T : Nat → Nat → Bool) (M : Sqr) : Nat → Option Sqr
  | 0 => some noneM
  | i + 1 => rtRow T M i (i + 1) (rtAll T M i)
/-- The square that comes out. -/
noncomputable def rtD (n : Nat) (T : Nat → Nat → Bool) (M : Sqr) : SD := match rtAll T M n with
  | some L => giveSp n L
  | none => SD.bad
section

variable {T : Nat → Nat → Bool} {M L L' : Sqr} {i j n : Nat}

theorem rtRow_none : ∀ {j : Nat} {o : Option Sqr}, rtRow T M i j o = none → ∀ k, rtRow T M i (j + k) o = none := by
  intro j o h k
  induction k with
  | zero => exact h
  | succ k ih => show (rtRow T M i (j + k) o).bind _ = none; rw [ih]; rfl
theorem rtRow_of_none : ∀ j : Nat, rtRow T M i j none = none
  | 0 => rfl
  | j + 1 => by show (rtRow T M i j none).bind _ = none; rw [rtRow_of_none j]; rfl
theorem rtAll_none (h : rtAll T M i = none) : ∀ k, rtAll T M (i + k) = none := by
  intro k
  induction k with
  | zero => exact h
  | succ k ih => show rtRow T M (i + k) (i + k + 1) (rtAll T M (i + k)) = none; rw [ih]; exact rtRow_of_none _
theorem rtD_bad (hi : i < n) (hj : j ≤ i) (hL : rtRow T M i j (rtAll T M i) = some L) (h : rtC T M L i j = none) : rtD n T M = SD.bad := by
  have h1 : rtRow T M i (j + 1) (rtAll T M i) = none := by show (rtRow T M i j (rtAll T M i)).bind _ = none; rw [hL]; exact h
  have h2 : rtAll T M (i + 1) = none := by
    show rtRow T M i (i + 1) (rtAll T M i) = none
    have := rtRow_none h1 (i - j)
    rwa [show j + 1 + (i - j) = i + 1 from by omega] at this
  have h3 := rtAll_none h2 (n - (i + 1))
  rw [show i + 1 + (n - (i + 1)) = n from by omega] at h3
  unfold rtD
  rw [h3]
theorem rtD_good (h : rtAll T M n = some L) : rtD n T M = giveSp n L := by unfold rtD; rw [h]
/-- What has been reckoned stands at its places. -/
def RtI (T : Nat → Nat → Bool) (i j : Nat) (L : Sqr) : Prop := ∀ a b, (L a b).isSome = (((decide (a < i) && decide (b ≤ a)) || (decide (a = i) && decide (b < j))) && T a b)
theorem RtI.zero : RtI T 0 0 noneM := by intro a b; simp [noneM]
theorem RtI.next (hj : j ≤ i) (h : RtI T i j L) (hc : rtC T M L i j = some L') : RtI T i (j + 1) L' := by
  intro a b
  unfold rtC at hc
  have key : ∀ v, T i j = true → L' = updM L i j (some v) → (L' a b).isSome = (((decide (a < i) && decide (b ≤ a)) || (decide (a = i) && decide (b < j + 1))) && T a b) := by
    intro v ht e
    subst e
    by_cases e : a = i ∧ b = j
    · obtain ⟨rfl, rfl⟩ := e
      rw [updM_same, ht]
      simp
    · rw [updM_other _ e, h a b]
      have : (decide (a = i) && decide (b < j + 1)) = (decide (a = i) && decide (b < j)) := by
        by_cases e1 : a = i
        · have : b ≠ j := fun e2 => e ⟨e1, e2⟩
          have : (b < j + 1) ↔ (b < j) := by omega
          simp [this]
        · simp [e1]
      rw [this]
  cases ht : T i j with
  | true =>
    rw [ht, if_pos rfl] at hc
    split at hc
    · exact key _ ht (Option.some.inj hc).symm
    · split at hc
      · exact key _ ht (Option.some.inj hc).symm
      · cases hc
  | false =>
    rw [ht, if_neg (by simp)] at hc
    obtain rfl := Option.some.inj hc
    rw [h a b]
    by_cases e : a = i ∧ b = j
    · obtain ⟨rfl, rfl⟩ := e
      rw [ht]
      simp
    · have : (decide (a = i) && decide (b < j + 1)) = (decide (a = i) && decide (b < j)) := by
        by_cases e1 : a = i
        · have : b ≠ j := fun e2 => e ⟨e1, e2⟩
          have : (b < j + 1) ↔ (b < j) := by omega
          simp [this]
        · simp [e1]
      rw [this]
theorem RtI.row (h : RtI T i (i + 1) L) : RtI T (i + 1) 0 L := by
  intro a b
  rw [h a b]
  have : ((decide (a < i) && decide (b ≤ a)) || (decide (a = i) && decide (b < i + 1))) = ((decide (a < i + 1) && decide (b ≤ a)) || (decide (a = i + 1) && decide (b < 0))) := by
    by_cases h1 : a < i
    · have h2 : ¬ a = i := by omega
      have h3 : a < i + 1 := by omega
      simp [h1, h2, h3]
    · by_cases h2 : a = i
      · subst h2
        have : b < a + 1 ↔ b ≤ a := by omega
        simp [this]
      · have h3 : ¬ a < i + 1 := by omega
        simp [h1, h2, h3]
  rw [this]
theorem rtRow_next (h : rtRow T M i j (rtAll T M i) = some L) (hc : rtC T M L i j = some L') : rtRow T M i (j + 1) (rtAll T M i) = some L' := by show (rtRow T M i j (rtAll T M i)).bind _ = _; rw [h]; exact hc
theorem rtRow_end (h : rtRow T M i (i + 1) (rtAll T M i) = some L) : rtRow T M (i + 1) 0 (rtAll T M (i + 1)) = some L := h
/-- Both factors stand: as their marks say. -/
theorem RtI.both (h : RtI T i j L) (hj : j ≤ i) {q : Nat} (hq : q < j) : (L i q).isSome = T i q ∧ (L j q).isSome = T j q := by
  refine ⟨?_, ?_⟩
  · rw [h i q]; simp [hq]
  · rw [h j q]
    by_cases e : j = i
    · subst e; simp [hq]
    · have : j < i := by omega
      have h2 : q ≤ j := by omega
      simp [this, h2]
end

end Go.Proofs.Ytkifpligpobiaaa
