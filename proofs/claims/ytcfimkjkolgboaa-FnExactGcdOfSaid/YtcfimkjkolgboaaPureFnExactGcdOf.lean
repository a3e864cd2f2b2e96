/- The program's GcdOf returns what the reference's GcdOf returns, for every two whole numbers of 64 bits; no condition. -/
import Derived.Test.YtcfimkjkolgboaaPFnExactGcdOfx1
namespace Go.Proofs.Ytcfimkjkolgboaa.Pure
open Go.RowKit Go.Proofs.Ytcfimkjkolgboaa.PFnExactGcdOf Go.Proofs.YtcfimkjkolgboaaW.PrintWords Go.Proofs.YtcfimkjkolgboaaW.PrintLast

theorem gcd_same (d : Nat) : ∀ (k : Nat) (a b : Int), b.natAbs ≤ d → d < k → -1000000 ≤ a → a ≤ 1000000 → -1000000 ≤ b → b ≤ 1000000 → ∃ r, spec_l06Gcd.l0 k a b = some r ∧ impl_gcd.l0 k a b = some r := by
  induction d with
  | zero =>
    intro k a b hb hk h0 h1 _ _
    obtain ⟨k, rfl⟩ : ∃ m, k = m + 1 := ⟨k - 1, by omega⟩
    obtain rfl : b = 0 := by omega
    have hw : wrap64 (-a) = -a := by unfold wrap64; omega
    simp only [spec_l06Gcd.l0, impl_gcd.l0, if_true, hw]
    unfold mx
    by_cases h : a < 0
    · rw [if_pos h, if_pos (by omega)]; exact ⟨_, rfl, rfl⟩
    · rw [if_neg h, if_neg (by omega)]; exact ⟨_, rfl, rfl⟩
  | succ d ih =>
    intro k a b hb hk h0 h1 h2 h3
    obtain ⟨k, rfl⟩ : ∃ m, k = m + 1 := ⟨k - 1, by omega⟩
    by_cases hz : b = 0
    · subst hz
      have hw : wrap64 (-a) = -a := by unfold wrap64; omega
      simp only [spec_l06Gcd.l0, impl_gcd.l0, if_true, hw]
      unfold mx
      by_cases h : a < 0
      · rw [if_pos h, if_pos (by omega)]; exact ⟨_, rfl, rfl⟩
      · rw [if_neg h, if_neg (by omega)]; exact ⟨_, rfl, rfl⟩
    · simp only [spec_l06Gcd.l0, impl_gcd.l0]
      rw [if_neg hz, if_neg hz]
      have hl : (Int.tmod a b).natAbs < b.natAbs := by
        rw [Int.natAbs_tmod]
        exact Nat.mod_lt _ (by omega)
      exact ih k b (Int.tmod a b) (by omega) (by omega) h2 h3 (by omega) (by omega)

theorem FnExactGcdOf : laws_FnExactGcdOf.Pure := by
  intro a b _ _
  refine ⟨b.natAbs + 1, ?_⟩
  simp only [laws_FnExactGcdOf.f, spec_GcdOf.f, impl_GcdOf.f, spec_l00In.f, impl_inRange.f, spec_l06Gcd.f, impl_gcd.f, ge_iff_le]
  by_cases h0 : -1000000 ≤ a
  · by_cases h1 : a ≤ 1000000
    · by_cases h2 : -1000000 ≤ b
      · by_cases h3 : b ≤ 1000000
        · obtain ⟨r, e1, e2⟩ := gcd_same b.natAbs (b.natAbs + 1) a b (Nat.le_refl _) (by omega) h0 h1 h2 h3
          simp [h0, h1, h2, h3, e1, e2]
        · simp [h0, h1, h2, h3]
      · simp [h0, h1, h2]
    · simp [h0, h1]
  · simp [h0]

end Go.Proofs.Ytcfimkjkolgboaa.Pure
