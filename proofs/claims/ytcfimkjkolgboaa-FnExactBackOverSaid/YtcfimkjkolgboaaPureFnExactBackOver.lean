/- The program's BackOver returns what the reference's BackOver returns, for every two whole numbers of 64 bits; no condition. -/
import Derived.Test.YtcfimkjkolgboaaPFnExactBackOverx1
namespace Go.Proofs.Ytcfimkjkolgboaa.Pure
open Go.RowKit Go.Proofs.Ytcfimkjkolgboaa.PFnExactBackOver Go.Proofs.YtcfimkjkolgboaaW.PrintWords Go.Proofs.YtcfimkjkolgboaaW.PrintLast

def primeB (p : Nat) : Bool := 2 ≤ p && (List.range 32).all fun d => d < 2 || p < d * d || p % d != 0
def chkA (p : Nat) : Nat → Bool
  | 0 => true
  | a + 1 => (((a + 1) ^ (p - 1)) % p == 1) && chkA p a
def chkP : Nat → Bool
  | 0 => true
  | p + 1 => (!primeB p || chkA p (p - 1)) && chkP p
set_option maxRecDepth 100000 in
theorem chk_all : chkP 998 = true := by decide +kernel
theorem chkA_at (p : Nat) : ∀ n, chkA p n = true → ∀ a, 1 ≤ a → a ≤ n → a ^ (p - 1) % p = 1
  | 0, _, a, h1, h2 => by omega
  | n + 1, h, a, h1, h2 => by
    simp only [chkA, Bool.and_eq_true, beq_iff_eq] at h
    by_cases e : a = n + 1
    · rw [e]; exact h.1
    · exact chkA_at p n h.2 a h1 (by omega)
theorem chkP_at : ∀ n, chkP n = true → ∀ p, p < n → primeB p = true → chkA p (p - 1) = true
  | 0, _, p, h1, _ => by omega
  | n + 1, h, p, h1, hp => by
    simp only [chkP, Bool.and_eq_true, Bool.or_eq_true, Bool.not_eq_true'] at h
    by_cases e : p = n
    · subst e
      rcases h.1 with h | h
      · rw [hp] at h; cases h
      · exact h
    · exact chkP_at n h.2 p (by omega) hp
theorem fermat (p a : Nat) (hp : p < 998) (h : primeB p = true) (h1 : 1 ≤ a) (h2 : a < p) : a ^ (p - 1) % p = 1 :=
  chkA_at p (p - 1) (chkP_at 998 chk_all p hp h) a h1 (by omega)

theorem prime_spec : ∀ n : Fin 996, spec_l06Prime.f 80 ((n.val : Int) + 2) = some (primeB (n.val + 2)) := by decide +kernel
theorem prime_impl : ∀ n : Fin 996, impl_IsPrime.f 80 ((n.val : Int) + 2) = some (primeB (n.val + 2)) := by decide +kernel

theorem w64 (n : Int) (h0 : -9223372036854775808 ≤ n) (h1 : n ≤ 9223372036854775807) : wrap64 n = n := by unfold wrap64; omega

/-- The reference's powers. -/
theorem back_pow (p m : Nat) (hp : 2 ≤ p) (hp2 : p < 998) (hm : m < p) (d : Nat) : ∀ (k out : Nat), d < 998 → out < p → d < k →
    spec_l06Back.l0 k (m : Int) (p : Int) (out : Int) (d : Int) = some ((out * m ^ d % p : Nat) : Int) := by
  induction d with
  | zero =>
    intro k out hd ho hk
    obtain ⟨k, rfl⟩ : ∃ j, k = j + 1 := ⟨k - 1, by omega⟩
    simp only [spec_l06Back.l0]
    rw [if_neg (by omega), Nat.pow_zero, Nat.mul_one, Nat.mod_eq_of_lt ho]
  | succ d ih =>
    intro k out hd ho hk
    obtain ⟨k, rfl⟩ : ∃ j, k = j + 1 := ⟨k - 1, by omega⟩
    simp only [spec_l06Back.l0]
    rw [if_pos (by omega), if_neg (by omega)]
    have hb : out * m ≤ 996004 := Nat.mul_le_mul (show _ ≤ 998 by omega) (show _ ≤ 998 by omega)
    have hb' : (out : Int) * (m : Int) ≤ 996004 := by rw [← Int.natCast_mul]; omega
    have hb0 : 0 ≤ (out : Int) * (m : Int) := by exact Int.mul_nonneg (by omega) (by omega)
    rw [w64 _ (by omega) (by omega), w64 _ (by omega) (by omega)]
    have e1 : Int.tmod ((out : Int) * (m : Int)) (p : Int) = ((out * m % p : Nat) : Int) := by
      rw [Int.tmod_eq_emod_of_nonneg hb0]; simp
    have e2 : ((d + 1 : Nat) : Int) - 1 = (d : Int) := by omega
    rw [e1, e2, ih k (out * m % p) (by omega) (Nat.mod_lt _ (by omega)) (by omega)]
    congr 2
    rw [Nat.mod_mul_mod, Nat.pow_succ, Nat.mul_assoc, Nat.mul_comm m]

/-- Two numbers that lead back are the same one. -/
theorem back_one (p m n r : Nat) (hn : n < p) (hr : r < p) (h1 : m * n % p = 1) (h2 : m * r % p = 1) : n = r := by
  have a : n * (m * r) % p = n := by
    rw [← Nat.mul_mod_mod, h2, Nat.mul_one, Nat.mod_eq_of_lt hn]
  have b : n * (m * r) % p = r := by
    rw [← Nat.mul_assoc, Nat.mul_comm n m, ← Nat.mod_mul_mod, h1, Nat.one_mul, Nat.mod_eq_of_lt hr]
  exact a.symm.trans b

/-- The program's search. -/
theorem back_find (p m r : Nat) (hp2 : p < 998) (hm : m < p) (hr : r < p) (h : m * r % p = 1) (d : Nat) : ∀ (k n : Nat), n + d = r → d < k →
    impl_backOver.l0 k (m : Int) (p : Int) (n : Int) = some (r : Int) := by
  induction d with
  | zero =>
    intro k n hn hk
    obtain ⟨k, rfl⟩ : ∃ j, k = j + 1 := ⟨k - 1, by omega⟩
    obtain rfl : n = r := by omega
    simp only [impl_backOver.l0]
    have hb : m * n ≤ 996004 := Nat.mul_le_mul (show _ ≤ 998 by omega) (show _ ≤ 998 by omega)
    have hb' : (m : Int) * (n : Int) ≤ 996004 := by rw [← Int.natCast_mul]; omega
    have hb0 : 0 ≤ (m : Int) * (n : Int) := by exact Int.mul_nonneg (by omega) (by omega)
    rw [if_neg (by omega), w64 _ (by omega) (by omega), Int.tmod_eq_emod_of_nonneg hb0, if_pos (by exact_mod_cast h)]
  | succ d ih =>
    intro k n hn hk
    obtain ⟨k, rfl⟩ : ∃ j, k = j + 1 := ⟨k - 1, by omega⟩
    simp only [impl_backOver.l0]
    have hb : m * n ≤ 996004 := Nat.mul_le_mul (show _ ≤ 998 by omega) (show _ ≤ 998 by omega)
    have hb' : (m : Int) * (n : Int) ≤ 996004 := by rw [← Int.natCast_mul]; omega
    have hb0 : 0 ≤ (m : Int) * (n : Int) := by exact Int.mul_nonneg (by omega) (by omega)
    have hne : ¬ (m : Int) * (n : Int) % (p : Int) = 1 := fun e => by
      have e' : m * n % p = 1 := by exact_mod_cast e
      have := back_one p m n r (by omega) hr e' h
      omega
    rw [if_neg (by omega), w64 _ (by omega) (by omega), Int.tmod_eq_emod_of_nonneg hb0, if_neg hne, w64 _ (by omega) (by omega)]
    have := ih k (n + 1) (by omega) (by omega)
    simpa using this

theorem FnExactBackOver : laws_FnExactBackOver.Pure := by
  intro a q ha _
  have ha' : -9223372036854775808 ≤ a ∧ a ≤ 9223372036854775807 := by simpa [Lit.wf, IntKind.min, IntKind.max, IntKind.signed, IntKind.bits] using ha
  have w4 : wrap64 (2 * 2) = 4 := by decide +kernel
  by_cases h1 : q < 2
  · refine ⟨3, ?_⟩
    simp only [laws_FnExactBackOver.f, spec_BackOver.f, impl_BackOver.f, spec_l06Prime.f, spec_l06Prime.l0, impl_IsPrime.f, impl_inRange.f, w4]
    rw [if_neg (show ¬ 4 ≤ q by omega), if_neg (show ¬ 2 ≤ q by omega)]
    simp only [spec_l06Prime.j1, Bool.false_eq_true, if_false]
    rw [if_neg (show ¬ q ≥ 2 by omega)]
    simp [spec_BackOver.j0]
  · by_cases h2 : q ≤ 997
    · obtain ⟨p, rfl⟩ := Int.eq_ofNat_of_zero_le (show 0 ≤ q by omega)
      have s1 : spec_l06Prime.f 80 (p : Int) = some (primeB p) := by
        have := prime_spec ⟨p - 2, by omega⟩
        rwa [show (((p - 2 : Nat) : Nat) : Int) + 2 = p from by omega, show p - 2 + 2 = p from by omega] at this
      have s2 : impl_IsPrime.f 80 (p : Int) = some (primeB p) := by
        have := prime_impl ⟨p - 2, by omega⟩
        rwa [show (((p - 2 : Nat) : Nat) : Int) + 2 = p from by omega, show p - 2 + 2 = p from by omega] at this
      have s1' : spec_l06Prime.f 1080 (p : Int) = some (primeB p) := at_rounds (spec_l06Prime.mono _) (by omega) s1
      have s2' : impl_IsPrime.f 1080 (p : Int) = some (primeB p) := at_rounds (impl_IsPrime.mono _) (by omega) s2
      refine ⟨1080, ?_⟩
      simp only [laws_FnExactBackOver.f, spec_BackOver.f, impl_BackOver.f, s1', s2', Option.bind_some]
      cases hp : primeB p with
      | false => simp [spec_BackOver.j0]
      | true =>
        simp only [if_true]
        rw [if_neg (by omega), if_neg (by omega)]
        by_cases hz : Int.tmod a (p : Int) = 0
        · simp [hz, spec_BackOver.j0]
        · rw [if_neg hz, show (Int.tmod a (p : Int) == 0) = false from by simpa using hz]
          -- the remainder
          have hlt : (Int.tmod a (p : Int)).natAbs < p := by rw [Int.natAbs_tmod]; exact Nat.mod_lt _ (by omega)
          obtain ⟨m, hm1, hm2, hms, hmi⟩ : ∃ m : Nat, 1 ≤ m ∧ m < p ∧ spec_l06Mod.f a (p : Int) = some (m : Int) ∧ impl_rest.f a (p : Int) = some (m : Int) := by
            by_cases hneg : Int.tmod a (p : Int) < 0
            · refine ⟨(Int.tmod a (p : Int) + p).toNat, by omega, by omega, ?_, ?_⟩
              · simp only [spec_l06Mod.f]; rw [if_neg (by omega), if_pos hneg, w64 _ (by omega) (by omega)]; congr 1; omega
              · simp only [impl_rest.f]; rw [if_neg (by omega), w64 _ (by omega) (by omega), Int.tmod_eq_of_lt (by omega) (by omega)]; congr 1; omega
            · refine ⟨(Int.tmod a (p : Int)).toNat, by omega, by omega, ?_, ?_⟩
              · simp only [spec_l06Mod.f]; rw [if_neg (by omega), if_neg hneg]; congr 1; omega
              · simp only [impl_rest.f]
                rw [if_neg (by omega), w64 _ (by omega) (by omega), Int.tmod_eq_emod_of_nonneg (by omega), Int.add_emod_right, Int.emod_eq_of_lt (by omega) (by omega)]; congr 1; omega
          have hf := fermat p m (by omega) hp hm1 hm2
          have hr : m * (m ^ (p - 2) % p) % p = 1 := by
            rw [Nat.mul_mod_mod, Nat.mul_comm, ← Nat.pow_succ, show (p - 2).succ = p - 1 from by omega]; exact hf
          have hrl : m ^ (p - 2) % p < p := Nat.mod_lt _ (by omega)
          have hr1 : 1 ≤ m ^ (p - 2) % p := by
            rcases Nat.eq_zero_or_pos (m ^ (p - 2) % p) with e | e
            · rw [e] at hr; simp at hr
            · exact e
          have b1 : spec_l06Back.f 1079 (m : Int) (p : Int) = some ((m ^ (p - 2) % p : Nat) : Int) := by
            have := back_pow p m (by omega) (by omega) hm2 (p - 2) 1079 1 (by omega) (by omega) (by omega)
            rw [Nat.one_mul] at this
            simp only [spec_l06Back.f]
            rw [w64 _ (by omega) (by omega), ← this]
            congr 1
            omega
          have b2 : impl_backOver.l0 1080 (m : Int) (p : Int) 1 = some ((m ^ (p - 2) % p : Nat) : Int) := by
            have := back_find p m (m ^ (p - 2) % p) (by omega) hm2 hrl hr (m ^ (p - 2) % p - 1) 1080 1 (by omega) (by omega)
            simpa using this
          simp only [spec_BackOver.j0, hms, b1, impl_backOver.f, hmi, b2, Option.bind_some, Bool.false_eq_true, if_false, if_true]
          rfl
    · refine ⟨3, ?_⟩
      simp only [laws_FnExactBackOver.f, spec_BackOver.f, impl_BackOver.f, spec_l06Prime.f, spec_l06Prime.l0, impl_IsPrime.f, impl_inRange.f, w4]
      rw [if_pos (show 4 ≤ q by omega), if_pos (show 2 ≤ q by omega), decide_eq_false h2]
      simp only [spec_l06Prime.j1, Bool.false_eq_true, if_false]
      rw [if_pos (show q ≥ 2 by omega), decide_eq_false h2]
      simp [spec_BackOver.j0]

end Go.Proofs.Ytcfimkjkolgboaa.Pure
