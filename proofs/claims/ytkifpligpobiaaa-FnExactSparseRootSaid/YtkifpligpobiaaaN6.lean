
/- A part of a valid square is a valid square. Nothing of the program. -/

import Derived.Test.YtkifpligpobiaaaN3
set_option linter.unusedVariables false
set_option linter.unusedSimpArgs false

namespace Go.Proofs.Ytkifpligpobiaaa

open Go.RowKit


theorem clQ_mem {n : Nat} {M : Sqr} {t q : Nat} : q ∈ clQ n M t ↔ q < t ∧ (M (q / n) (q % n)).isSome = true := by
  unfold clQ
  rw [List.mem_filter, List.mem_range]
theorem clQ_split (n : Nat) (M : Sqr) (t s : Nat) : ∃ R, clQ n M (t + s) = clQ n M t ++ R ∧ ∀ q ∈ R, t ≤ q := by
  refine ⟨((List.range s).map (t + ·)).filter fun q => (M (q / n) (q % n)).isSome, ?_, ?_⟩
  · unfold clQ
    rw [List.range_add, List.filter_append]
  · intro q hq
    rw [List.mem_filter, List.mem_map] at hq
    obtain ⟨⟨x, _, rfl⟩, _⟩ := hq
    omega
theorem clQ_sub {n : Nat} {M : Sqr} {t T : Nat} (h : t ≤ T) : ∃ R, clQ n M T = clQ n M t ++ R ∧ ∀ q ∈ R, t ≤ q := by
  have := clQ_split n M t (T - t)
  rwa [show t + (T - t) = T from by omega] at this
theorem clQ_len_mono {n : Nat} {M : Sqr} {t T : Nat} (h : t ≤ T) : (clQ n M t).length ≤ (clQ n M T).length := by
  obtain ⟨R, e, _⟩ := clQ_sub (n := n) (M := M) h
  rw [e, List.length_append]
  omega
theorem clQ_low {n : Nat} {M : Sqr} {t T k : Nat} (h : t ≤ T) (hk : k < (clQ n M t).length) : (clQ n M T).getD k 0 < t := by
  obtain ⟨R, e, _⟩ := clQ_sub (n := n) (M := M) h
  rw [e, List.getD_eq_getElem?_getD, List.getElem?_append_left hk, List.getElem?_eq_getElem hk, Option.getD_some]
  exact (clQ_mem.1 (List.getElem_mem hk)).1
theorem clQ_high {n : Nat} {M : Sqr} {t T k : Nat} (h : t ≤ T) (hk : (clQ n M t).length ≤ k) (hk2 : k < (clQ n M T).length) : t ≤ (clQ n M T).getD k 0 := by
  obtain ⟨R, e, hR⟩ := clQ_sub (n := n) (M := M) h
  rw [e, List.length_append] at hk2
  have hk3 : k - (clQ n M t).length < R.length := by omega
  rw [e, List.getD_eq_getElem?_getD, List.getElem?_append_right hk, List.getElem?_eq_getElem hk3, Option.getD_some]
  exact hR _ (List.getElem_mem hk3)
theorem clQ_sorted (n : Nat) (M : Sqr) (t : Nat) : (clQ n M t).Pairwise (· < ·) := List.Pairwise.filter _ List.pairwise_lt_range
theorem clQ_inc {n : Nat} {M : Sqr} {t k : Nat} (hk : k + 1 < (clQ n M t).length) : (clQ n M t).getD k 0 < (clQ n M t).getD (k + 1) 0 := by
  have h := List.pairwise_iff_getElem.1 (clQ_sorted n M t) k (k + 1) (by omega) hk (by omega)
  rw [List.getD_eq_getElem?_getD, List.getD_eq_getElem?_getD, List.getElem?_eq_getElem hk, List.getElem?_eq_getElem (by omega)]
  exact h
theorem sorted_len : ∀ (l : List Nat) (lo m : Nat), l.Pairwise (· < ·) → (∀ x ∈ l, lo ≤ x ∧ x < m) → l.length ≤ m - lo
  | [], lo, m, _, _ => Nat.zero_le _
  | x :: l, lo, m, hp, hm => by
    rw [List.pairwise_cons] at hp
    have h1 := hm x List.mem_cons_self
    have := sorted_len l (x + 1) m hp.2 (fun y hy => ⟨hp.1 y hy, (hm y (List.mem_cons_of_mem _ hy)).2⟩)
    rw [List.length_cons]
    omega
/-- The places of a valid square stand in the order of its numbers. -/
theorem tellK_mono {n : Nat} {st co : List Int} {va : List Nat} (h : IsSp n st co va) {q q' k k' : Nat} (hn : 0 < n) (hq' : q' < n * n) (hlt : q < q')
    (h1 : tellK st co co.length (q / n) (q % n) = some k) (h2 : tellK st co co.length (q' / n) (q' % n) = some k') : k < k' := by
  obtain ⟨_, a1, a2, a3⟩ := tellK_some h1
  obtain ⟨_, b1, b2, b3⟩ := tellK_some h2
  have hi' : q' / n < n := Nat.div_lt_of_lt_mul hq'
  have hd := Nat.div_le_div_right (c := n) (Nat.le_of_lt hlt)
  by_cases e : q / n = q' / n
  · have e1 := Nat.div_add_mod q n
    have e2 := Nat.div_add_mod q' n
    rw [e] at e1 a1 a2
    have hm : q % n < q' % n := by omega
    by_cases hk : k < k'
    · exact hk
    · by_cases hk2 : k' = k
      · subst hk2
        omega
      · have := h.col hi' b1 (show k' < k by omega) a2
        omega
  · have hl : q / n + 1 ≤ q' / n := by omega
    have := h.mono hl (by omega)
    have e2 : ((q / n + 1 : Nat) : Int) = ((q / n : Nat) : Int) + 1 := by omega
    rw [e2] at this
    omega
theorem clS_at {n i : Nat} {M : Sqr} (hi : i ≤ n) : rd (clS n M n) (i : Nat) = ((clQ n M (i * n)).length : Int) := by
  unfold rd clS
  rw [Int.toNat_natCast, List.getD_eq_getElem?_getD, List.getElem?_map, List.getElem?_range (by omega)]
  rfl
theorem clC_at {n k : Nat} {M : Sqr} {t : Nat} (hk : k < (clQ n M t).length) : rd (clC n M t) (k : Nat) = (((clQ n M t).getD k 0 % n : Nat) : Int) := by
  unfold rd clC
  rw [Int.toNat_natCast, List.getD_eq_getElem?_getD, List.getElem?_map, List.getD_eq_getElem?_getD, List.getElem?_eq_getElem hk]
  rfl
theorem clQ_ok {n : Nat} {L : Sqr} (hn : 1 ≤ n) (hn2 : n ≤ 32) {ys : List Nat} (hl : (clQ n L (n * n)).length ≤ 512) (hy : cfs ys = clV n L (n * n)) (hf : finL ys = true) : IsSp n (clS n L n) (clC n L (n * n)) ys := by
  have hyl : ys.length = (clQ n L (n * n)).length := by rw [← clV_length, ← hy, cfs_length]
  have hle : ∀ i, i ≤ n → i * n ≤ n * n := fun i h => Nat.mul_le_mul_right _ h
  refine ⟨by omega, by rw [clS_length]; omega, by rw [clC_length]; exact hl, by rw [clC_length]; exact hyl, hf, ?_, ?_, ?_, ?_, ?_⟩
  · have := clS_at (n := n) (M := L) (Nat.zero_le n)
    rw [Nat.zero_mul] at this
    exact this
  · rw [clS_at (Nat.le_refl n), clC_length]
  · intro i hi
    have e : ((i : Int) + 1) = ((i + 1 : Nat) : Int) := by omega
    rw [e, clS_at (by omega), clS_at (by omega)]
    have := clQ_len_mono (n := n) (M := L) (show i * n ≤ (i + 1) * n from Nat.mul_le_mul_right _ (by omega))
    omega
  · intro k hk
    rw [clC_length] at hk
    rw [clC_at hk]
    have := Nat.mod_lt ((clQ n L (n * n)).getD k 0) (show 0 < n by omega)
    omega
  · intro i k hi h1 h2
    have e : ((i : Int) + 1) = ((i + 1 : Nat) : Int) := by omega
    rw [e, clS_at (by omega)] at h2
    rw [clS_at (by omega)] at h1
    have hi2 : i + 1 ≤ n := by omega
    have m1 := clQ_len_mono (n := n) (M := L) (hle (i + 1) hi2)
    have hk1 : k + 1 < (clQ n L (n * n)).length := by omega
    have e2 : ((k : Int) + 1) = ((k + 1 : Nat) : Int) := by omega
    rw [e2, clC_at hk1, clC_at (by omega)]
    have a1 := clQ_high (n := n) (M := L) (hle i (by omega)) (show (clQ n L (i * n)).length ≤ k by omega) (by omega)
    have a2 := clQ_low (n := n) (M := L) (k := k + 1) (hle (i + 1) hi2) (by omega)
    have a3 := clQ_inc hk1
    obtain ⟨x, hx⟩ : ∃ x, x = (clQ n L (n * n)).getD k 0 := ⟨_, rfl⟩
    obtain ⟨y, hy'⟩ : ∃ y, y = (clQ n L (n * n)).getD (k + 1) 0 := ⟨_, rfl⟩
    rw [← hx] at a1 a3 ⊢
    rw [← hy'] at a2 a3 ⊢
    rw [Nat.succ_mul] at a2
    obtain ⟨u, rfl⟩ : ∃ u, x = i * n + u := ⟨x - i * n, by omega⟩
    obtain ⟨v, rfl⟩ : ∃ v, y = i * n + v := ⟨y - i * n, by omega⟩
    rw [(ix_div (i := i) (show u < n by omega)).2, (ix_div (i := i) (show v < n by omega)).2]
    omega
/-- A part of a valid square is valid. -/
theorem sub_good {n : Nat} {st co : List Int} {va : List Nat} (h : IsSp n st co va) {L : Sqr} (hL : ∀ a b, a < n → b < n → L a b = none ∨ L a b = vw st co va co.length a b) :
    ∃ ys, giveSp n L = ⟨n, clS n L n, clC n L (n * n), ys, true⟩ ∧ IsSp n (clS n L n) (clC n L (n * n)) ys := by
  have hn : 1 ≤ n := by have := h.s1; omega
  have hn2 : n ≤ 32 := by have := h.s1; omega
  have hk : ∀ q ∈ clQ n L (n * n), ∃ k, tellK st co co.length (q / n) (q % n) = some k ∧ L (q / n) (q % n) = some (c32 (rdf va k)) := by
    intro q hq
    obtain ⟨h1, h2⟩ := clQ_mem.1 hq
    rcases hL (q / n) (q % n) (Nat.div_lt_of_lt_mul h1) (Nat.mod_lt _ hn) with e | e
    · rw [e] at h2; cases h2
    · rw [e] at h2 ⊢
      unfold vw at h2 ⊢
      cases ht : tellK st co co.length (q / n) (q % n) with
      | none => rw [ht] at h2; cases h2
      | some k => exact ⟨k, rfl, rfl⟩
  have hl : (clQ n L (n * n)).length ≤ co.length := by
    have := sorted_len ((clQ n L (n * n)).map fun q => (tellK st co co.length (q / n) (q % n)).getD 0) 0 co.length
      (List.pairwise_map.2 ((clQ_sorted n L (n * n)).imp_of_mem fun {a b} ha hb hab => by
        obtain ⟨k, e1, _⟩ := hk a ha
        obtain ⟨k', e2, _⟩ := hk b hb
        rw [e1, e2]
        exact tellK_mono h hn (clQ_mem.1 hb).1 hab e1 e2))
      (fun x hx => by
        obtain ⟨q, hq, rfl⟩ := List.mem_map.1 hx
        obtain ⟨k, e1, _⟩ := hk q hq
        rw [e1]
        exact ⟨Nat.zero_le _, (tellK_some e1).1⟩)
    rwa [List.length_map, Nat.sub_zero] at this
  obtain ⟨ys, hys⟩ : ∃ ys, ys = (clQ n L (n * n)).map fun q => rdf va ((tellK st co co.length (q / n) (q % n)).getD 0) := ⟨_, rfl⟩
  have hy : cfs ys = clV n L (n * n) := by
    rw [hys]
    unfold cfs clV
    rw [List.map_map]
    refine List.map_congr_left fun q hq => ?_
    obtain ⟨k, e1, e2⟩ := hk q hq
    show c32 (rdf va ((tellK st co co.length (q / n) (q % n)).getD 0)) = _
    rw [e1, e2]
    rfl
  have hf : finL ys = true := by
    rw [hys]
    unfold finL
    rw [List.all_eq_true]
    intro x hx
    obtain ⟨q, hq, rfl⟩ := List.mem_map.1 hx
    obtain ⟨k, e1, _⟩ := hk q hq
    have hkl : k < va.length := by rw [h.s4]; exact (tellK_some e1).1
    have := h.s5
    unfold finL at this
    rw [List.all_eq_true] at this
    rw [e1]
    refine this _ ?_
    show rdf va (k : Nat) ∈ va
    rw [rdf_get hkl]
    exact List.getElem_mem hkl
  have hsp := clQ_ok hn hn2 (Nat.le_trans hl h.s3) hy hf
  exact ⟨ys, giveSp_good hy (isSp_iff.2 hsp), hsp⟩

end Go.Proofs.Ytkifpligpobiaaa
