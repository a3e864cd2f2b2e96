/- The program's IsPrime returns what the reference's IsPrime returns, for every whole number of 64 bits; no condition. -/
import Derived.Test.YtcfimkjkolgboaaPFnExactIsPrimex1
namespace Go.Proofs.Ytcfimkjkolgboaa.Pure
open Go.RowKit Go.Proofs.Ytcfimkjkolgboaa.PFnExactIsPrime Go.Proofs.YtcfimkjkolgboaaW.PrintWords Go.Proofs.YtcfimkjkolgboaaW.PrintLast

theorem prime_mid : ∀ n : Fin 996, laws_FnExactIsPrime.f 80 ((n.val : Int) + 2) = some true := by decide +kernel

theorem FnExactIsPrime : laws_FnExactIsPrime.Pure := by
  intro p _
  have w4 : wrap64 (2 * 2) = 4 := by decide +kernel
  by_cases h1 : p < 2
  · refine ⟨2, ?_⟩
    simp only [laws_FnExactIsPrime.f, spec_IsPrime.f, spec_l06Prime.f, spec_l06Prime.l0, impl_IsPrime.f, impl_inRange.f, w4]
    rw [if_neg (by omega), if_neg (by omega)]
    simp only [spec_l06Prime.j1, Bool.false_eq_true, if_false]
    rw [if_neg (by omega)]
    rfl
  · by_cases h2 : p ≤ 997
    · refine ⟨80, ?_⟩
      have := prime_mid ⟨(p - 2).toNat, by omega⟩
      rwa [show (((p - 2).toNat : Nat) : Int) + 2 = p from by omega] at this
    · refine ⟨2, ?_⟩
      simp only [laws_FnExactIsPrime.f, spec_IsPrime.f, spec_l06Prime.f, spec_l06Prime.l0, impl_IsPrime.f, impl_inRange.f, w4]
      rw [if_pos (by omega), if_pos (by omega), decide_eq_false h2]
      simp only [spec_l06Prime.j1, Bool.false_eq_true, if_false]
      rw [if_pos (by omega), decide_eq_false h2]
      rfl

end Go.Proofs.Ytcfimkjkolgboaa.Pure
