
import Derived.Test.YtkifpligpobiaaaK1

import Derived.Maps.OwnSet
set_option linter.unusedVariables false
set_option linter.unusedSimpArgs false

namespace Go.Proofs.Ytkifpligpobiaaa

open Go.RowKit


theorem kp_isKey {i j : Nat} (hi : i < 64) (hj : j < 64) : WideAt.IsKeyLit (kp i j) := by
  have h := kp_key (nat_wf hi) (nat_wf hj)
  obtain ⟨l, hl⟩ : ∃ l, l = kp i j := ⟨_, rfl⟩
  rw [← hl] at h ⊢
  exact place_law.key h
/-- What a map says of a place. -/
def MapAt (D : DataW Unit) (i j : Nat) (o : Option (Option Nat)) : Prop := match o with
  | none => Maps.has D (kp i j) = false
  | some v => Maps.has D (kp i j) = true ∧ ∃ x, (∀ zd, D.atKey (kp i j) zd = .lit (.float .f32 x)) ∧ c32 x = v
/-- A map of the call's own that says what M says. -/
def MapV (w : World) (b cnt n : Nat) (M : Sqr) : Prop := ∃ D : DataW Unit, w.ownsMap Try.prog 95 fltR b cnt D ∧ (∀ i j, i < n → j < n → MapAt D i j (M i j)) ∧ ∀ kl, Maps.has D kl = true → ∃ i j : Nat, i < n ∧ j < n ∧ kl = kp i j
theorem MapV.empty (w : World) (n : Nat) : MapV (w.alloc (.map #[] 0)) w.heap.size 0 n noneM :=
  ⟨.map [], World.ownsMap_made w Try.prog 95 fltR, fun i j _ _ => (Maps.has_eq [] (kp i j)).trans (List.any_nil), fun kl h => by rw [Maps.has_eq] at h; cases h⟩
theorem MapV.put {w' : World} {b cnt n i j : Nat} {M : Sqr} {D : DataW Unit} (hn : n ≤ 32) (hi : i < n) (hj : j < n) (x : Nat) (hm : Maps.IsMap D) (h1 : ∀ i j, i < n → j < n → MapAt D i j (M i j)) (h2 : ∀ kl, Maps.has D kl = true → ∃ i j : Nat, i < n ∧ j < n ∧ kl = kp i j)
    (ho : w'.ownsMap Try.prog 95 fltR b (cnt + 1) (D.put (kp i j) (.lit (.float .f32 x)))) : MapV w' b (cnt + 1) n (updM M i j (some (c32 x))) := by
  have hk := kp_isKey (i := i) (j := j) (by omega) (by omega)
  refine ⟨_, ho, fun a c ha hc => ?_, fun kl h => ?_⟩
  · by_cases e : a = i ∧ c = j
    · obtain ⟨rfl, rfl⟩ := e
      rw [updM_same]
      exact ⟨Maps.has_put_same hm hk _, x, fun zd => Maps.atKey_put_same hm hk _ zd, rfl⟩
    · rw [updM_other _ e]
      have hne : kp a c ≠ kp i j := fun h => e (kp_inj (by omega) (by omega) (by omega) (by omega) h)
      have h := h1 a c ha hc
      unfold MapAt at h ⊢
      cases hM : M a c with
      | none => rw [hM] at h; rw [Maps.has_put_other hne]; exact h
      | some v =>
        rw [hM] at h
        obtain ⟨g1, y, g2, g3⟩ := h
        exact ⟨by rw [Maps.has_put_other hne]; exact g1, y, fun zd => by rw [Maps.atKey_put_other hne]; exact g2 zd, g3⟩
  · by_cases e : kl = kp i j
    · exact ⟨i, j, hi, hj, e⟩
    · rw [Maps.has_put_other e] at h
      exact h2 kl h

end Go.Proofs.Ytkifpligpobiaaa
