
/- Sparse squares: a number at a place; the band. Nothing of the program. -/

import Derived.Test.YtkifpligpobiaaaP2
set_option linter.unusedVariables false
set_option linter.unusedSimpArgs false

namespace Go.Proofs.Ytkifpligpobiaaa

open Go.RowKit

theorem finL_at {va : List Nat} (h : finL va = true) {k : Nat} (hk : k < va.length) : isFin .f32 (rdf va k) = true := by
  unfold finL at h
  rw [List.all_eq_true] at h
  rw [rdf_get hk]
  exact h _ (List.getElem_mem hk)
theorem vw_fin {n : Nat} {st co : List Int} {va : List Nat} (h : IsSp n st co va) (i j : Nat) : ∃ y, (vw st co va co.length i j).getD (some 0) = some y ∧ isFin .f32 y = true := by
  unfold vw
  cases ht : tellK st co co.length i j with
  | none => exact ⟨0, rfl, by decide⟩
  | some k =>
    have h1 := (tellK_some ht).1
    have h2 := finL_at h.s5 (k := k) (by rw [h.s4]; exact h1)
    exact ⟨_, isFin_c32 h2, h2⟩
/-- What SparseAt answers. -/
noncomputable def atD (sd : Int) (st co : List Int) (va : List Nat) (row column : Int) : Nat × Bool :=
  if isSp sd st co va && inR 0 row (sd - 1) && inR 0 column (sd - 1) then (((vw st co va co.length row.toNat column.toNat).getD (some 0)).getD 0, true) else (0, false)
theorem atD_fin (sd : Int) (st co : List Int) (va : List Nat) (row column : Int) : isFin .f32 (atD sd st co va row column).1 = true := by
  unfold atD
  split
  · rename_i h
    rw [Bool.and_eq_true, Bool.and_eq_true] at h
    have hsp := isSp_iff.1 h.1.1
    obtain ⟨N, rfl⟩ : ∃ N : Nat, sd = N := ⟨sd.toNat, by have := hsp.s1; omega⟩
    obtain ⟨y, h1, h2⟩ := vw_fin hsp row.toNat column.toNat
    rw [h1]
    exact h2
  · decide
theorem at_word {n : Nat} {st co : List Int} {va : List Nat} (h : IsSp n st co va) {i j x : Nat} (hx : c32 x = (vw st co va co.length i j).getD (some 0)) : x = ((vw st co va co.length i j).getD (some 0)).getD 0 := by
  obtain ⟨y, h1, _⟩ := vw_fin h i j
  rw [h1] at hx ⊢
  exact (cf_some hx).1

/-- How far a place is from the middle. -/
def dst (i j : Nat) : Nat := (i - j) + (j - i)
structure IsBand (N : Nat) (M : Sqr) (S : Nat → Nat → Bool) (v : Nat) : Prop where
  ge : ∀ i j, i < N → j < N → (M i j).isSome = true → S i j = false → dst i j ≤ v
  at_ : v = 0 ∨ ∃ i j, i < N ∧ j < N ∧ (M i j).isSome = true ∧ dst i j = v
theorem IsBand.step {N : Nat} {M : Sqr} {S S' : Nat → Nat → Bool} {v i j : Nat} (h : IsBand N M S v) (hi : i < N) (hj : j < N) (hm : (M i j).isSome = true) (hS : ∀ a b, a < N → b < N → ¬ (a = i ∧ b = j) → S' a b = false → S a b = false) : IsBand N M S' (max v (dst i j)) := by
  constructor
  · intro a b ha hb h1 h2
    by_cases e : a = i ∧ b = j
    · obtain ⟨rfl, rfl⟩ := e; omega
    · have := h.ge a b ha hb h1 (hS a b ha hb e h2)
      omega
  · by_cases hv : v ≤ dst i j
    · rw [show max v (dst i j) = dst i j by omega]
      exact .inr ⟨i, j, hi, hj, hm, rfl⟩
    · rw [show max v (dst i j) = v by omega]
      exact h.at_
theorem IsBand.unique {N : Nat} {M : Sqr} {S T : Nat → Nat → Bool} {v u : Nat} (h : IsBand N M S v) (k : IsBand N M T u) (hS : ∀ i j, i < N → j < N → (M i j).isSome = true → S i j = false) (hT : ∀ i j, i < N → j < N → (M i j).isSome = true → T i j = false) : v = u := by
  have h1 : v ≤ u := by
    rcases h.at_ with h0 | ⟨i, j, hi, hj, hm, hd⟩
    · omega
    · have := k.ge i j hi hj hm (hT i j hi hj hm)
      omega
  have h2 : u ≤ v := by
    rcases k.at_ with h0 | ⟨i, j, hi, hj, hm, hd⟩
    · omega
    · have := h.ge i j hi hj hm (hS i j hi hj hm)
      omega
  omega
theorem IsBand.start (N : Nat) (M : Sqr) : IsBand N M (fun i j => (M i j).isSome) 0 := ⟨fun i j _ _ h1 h2 => (by rw [h1] at h2; cases h2), .inl rfl⟩
open Classical in

noncomputable def bandV (N : Nat) (M : Sqr) : Nat := if h : ∃ v, IsBand N M (fun _ _ => false) v then h.choose else 0
theorem bandV_of {N : Nat} {M : Sqr} {S : Nat → Nat → Bool} {v : Nat} (h : IsBand N M S v) (hS : ∀ i j, i < N → j < N → (M i j).isSome = true → S i j = false) : v = bandV N M := by
  have h' : IsBand N M (fun _ _ => false) v := ⟨fun i j hi hj h1 _ => h.ge i j hi hj h1 (hS i j hi hj h1), h.at_⟩
  have hex : ∃ v, IsBand N M (fun _ _ => false) v := ⟨v, h'⟩
  unfold bandV
  rw [dif_pos hex]
  exact h'.unique hex.choose_spec (fun _ _ _ _ _ => rfl) (fun _ _ _ _ _ => rfl)
theorem vw_told {st co : List Int} {va : List Nat} {K i j k : Nat} (hk : k < K) (h0 : rd st i ≤ k) (h1 : (k : Int) < rd st (i + 1)) (hj : rd co k = j) : (vw st co va K i j).isSome = true := by
  unfold vw tellK
  cases ht : (List.range K).find? (pkE st co i j) with
  | none => exact absurd (pkE_iff.2 ⟨h0, h1, hj⟩) (List.find?_eq_none.1 ht k (List.mem_range.2 hk))
  | some q => rfl
/-- What SparseBand answers. -/
noncomputable def bandD (sd : Int) (st co : List Int) (va : List Nat) : Int × Bool := if isSp sd st co va then ((bandV sd.toNat (vw st co va co.length) : Nat), true) else (0, false)
theorem dst_lt {N i j : Nat} (hi : i < N) (hj : j < N) : dst i j < N := by unfold dst; omega
theorem IsBand.lt {N : Nat} {M : Sqr} {S : Nat → Nat → Bool} {v : Nat} (h : IsBand N M S v) (hN : 1 ≤ N) : v < N := by
  rcases h.at_ with h0 | ⟨i, j, hi, hj, _, rfl⟩
  · omega
  · exact dst_lt hi hj

end Go.Proofs.Ytkifpligpobiaaa
