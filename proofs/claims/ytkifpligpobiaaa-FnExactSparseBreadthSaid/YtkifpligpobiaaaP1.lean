
/- Sparse squares: what is told where. Nothing of the program. -/

import Derived.Test.YtkifpligpobiaaaT0
set_option linter.unusedVariables false
set_option linter.unusedSimpArgs false

namespace Go.Proofs.Ytkifpligpobiaaa

open Go.RowKit

/-- All numbers are finite. -/
def finL (xs : List Nat) : Bool := xs.all (isFin .f32)
theorem all_cfs (ys : List Nat) : (cfs ys).all finO = finL ys := by
  unfold cfs finL
  rw [List.all_map]
  congr 1
  funext x
  exact finO_cf x
def wordsL (L : List (Option Nat)) : List Nat := L.map (·.getD 0)
theorem wordsL_cfs {ys : List Nat} (h : finL ys = true) : wordsL (cfs ys) = ys := by
  unfold wordsL cfs
  rw [List.map_map]
  conv => rhs; rw [← List.map_id ys]
  apply List.map_congr_left
  intro x hx
  have := List.all_eq_true.1 h x hx
  simp [isFin_c32 this]

/-- The test of a sparse square. -/
structure IsSp (sd : Int) (st co : List Int) (va : List Nat) : Prop where
  s1 : 1 ≤ sd ∧ sd ≤ 32
  s2 : (st.length : Int) = sd + 1
  s3 : co.length ≤ 512
  s4 : va.length = co.length
  s5 : finL va = true
  s6 : rd st 0 = 0
  s7 : rd st sd = co.length
  s8 : ∀ i : Nat, (i : Int) < sd → rd st i ≤ rd st (i + 1)
  s9 : ∀ k : Nat, k < co.length → 0 ≤ rd co k ∧ rd co k < sd
  s10 : ∀ i k : Nat, (i : Int) < sd → rd st i ≤ k → (k : Int) + 1 < rd st (i + 1) → rd co k < rd co (k + 1)
open Classical in

noncomputable def isSp (sd : Int) (st co : List Int) (va : List Nat) : Bool := decide (IsSp sd st co va)
theorem isSp_iff {sd : Int} {st co : List Int} {va : List Nat} : isSp sd st co va = true ↔ IsSp sd st co va := by unfold isSp; simp
theorem isSp_not {sd : Int} {st co : List Int} {va : List Nat} (h : ¬ IsSp sd st co va) : isSp sd st co va = false := by
  cases hc : isSp sd st co va with
  | false => rfl
  | true => exact absurd (isSp_iff.1 hc) h

section

variable {n : Nat} {st co : List Int} {va : List Nat}

theorem IsSp.mono (h : IsSp n st co va) : ∀ {i j : Nat}, i ≤ j → j ≤ n → rd st i ≤ rd st j := by
  intro i j hij hj
  induction j with
  | zero => obtain rfl : i = 0 := by omega
            exact Int.le_refl _
  | succ j ih =>
    by_cases e : i = j + 1
    · subst e; exact Int.le_refl _
    · have h1 := ih (by omega) (by omega)
      have h2 := h.s8 j (by omega)
      have e2 : ((j + 1 : Nat) : Int) = (j : Int) + 1 := by omega
      rw [e2]
      omega
theorem IsSp.range (h : IsSp n st co va) {i : Nat} (hi : i ≤ n) : 0 ≤ rd st i ∧ rd st i ≤ co.length := by
  have h1 := h.mono (Nat.zero_le i) hi
  have h2 := h.mono hi (Nat.le_refl n)
  have h3 := h.s6
  have h4 := h.s7
  have e : ((0 : Nat) : Int) = 0 := rfl
  rw [e] at h1
  omega
theorem IsSp.col (h : IsSp n st co va) {i k k' : Nat} (hi : i < n) (h0 : rd st i ≤ k) (hk : k < k') (h1 : (k' : Int) < rd st (i + 1)) : rd co k < rd co k' := by
  induction k' with
  | zero => omega
  | succ m ih =>
    have hm := h.s10 i m (by omega)
    have e : ((m + 1 : Nat) : Int) = (m : Int) + 1 := by omega
    rw [e] at h1 ⊢
    by_cases hkm : k = m
    · subst hkm; exact hm h0 h1
    · have h2 := ih (by omega) (by omega)
      have h3 := hm (by omega) h1
      omega
/-- The rows do not meet. -/
theorem IsSp.row_eq (h : IsSp n st co va) {i a k : Nat} (hi : i < n) (ha : a < n) (h0 : rd st i ≤ k) (h1 : (k : Int) < rd st (i + 1)) (h2 : rd st a ≤ k) (h3 : (k : Int) < rd st (a + 1)) : a = i := by
  rcases Nat.lt_trichotomy a i with hl | he | hg
  · have := h.mono (show a + 1 ≤ i by omega) (by omega)
    have e : ((a + 1 : Nat) : Int) = (a : Int) + 1 := by omega
    rw [e] at this
    omega
  · exact he
  · have := h.mono (show i + 1 ≤ a by omega) (by omega)
    have e : ((i + 1 : Nat) : Int) = (i : Int) + 1 := by omega
    rw [e] at this
    omega
end

/-- Where the entry of a row and a column stands, among the first K. -/
def pkE (st co : List Int) (i j k : Nat) : Bool := decide (rd st i ≤ (k : Int)) && decide ((k : Int) < rd st (i + 1)) && decide (rd co k = j)
theorem pkE_iff {st co : List Int} {i j k : Nat} : pkE st co i j k = true ↔ rd st i ≤ (k : Int) ∧ (k : Int) < rd st (i + 1) ∧ rd co k = j := by
  unfold pkE
  simp only [Bool.and_eq_true, decide_eq_true_eq, and_assoc]
def tellK (st co : List Int) (K i j : Nat) : Option Nat := (List.range K).find? (pkE st co i j)
/-- What is told, up to what a NaN's bits say: none where nothing is. -/
abbrev Sqr := Nat → Nat → Option (Option Nat)
def vw (st co : List Int) (va : List Nat) (K : Nat) : Sqr := fun i j => (tellK st co K i j).map fun k => c32 (rdf va k)
def updM (M : Sqr) (i j : Nat) (v : Option (Option Nat)) : Sqr := fun a b => if a = i ∧ b = j then v else M a b
theorem updM_same (M : Sqr) (i j : Nat) (v : Option (Option Nat)) : updM M i j v i j = v := if_pos ⟨rfl, rfl⟩
theorem updM_other {M : Sqr} {i j a b : Nat} (v : Option (Option Nat)) (h : ¬ (a = i ∧ b = j)) : updM M i j v a b = M a b := if_neg h
theorem vw_zero (st co : List Int) (va : List Nat) (i j : Nat) : vw st co va 0 i j = none := rfl
theorem tellK_some {st co : List Int} {K i j k : Nat} (h : tellK st co K i j = some k) : k < K ∧ rd st i ≤ k ∧ (k : Int) < rd st (i + 1) ∧ rd co k = j := by
  unfold tellK at h
  have h1 := List.mem_of_find?_eq_some h
  have h2 := pkE_iff.1 (List.find?_some h)
  exact ⟨List.mem_range.1 h1, h2⟩
theorem vw_next {n : Nat} {st co : List Int} {va : List Nat} (h : IsSp n st co va) {i k j : Nat} (hi : i < n) (h0 : rd st i ≤ k) (h1 : (k : Int) < rd st (i + 1)) (hj : rd co k = j) {a b : Nat} (ha : a < n) :
    vw st co va (k + 1) a b = updM (vw st co va k) i j (some (c32 (rdf va k))) a b := by
  unfold vw tellK
  rw [List.range_succ, List.find?_append]
  by_cases e : a = i ∧ b = j
  · obtain ⟨rfl, rfl⟩ := e
    rw [updM_same]
    have hno : (List.range k).find? (pkE st co a b) = none := by
      rw [List.find?_eq_none]
      intro k' hk' hc
      have hc := pkE_iff.1 hc
      have := h.col hi hc.1 (List.mem_range.1 hk') h1
      rw [hc.2.2, hj] at this
      omega
    have hyes : [k].find? (pkE st co a b) = some k := List.find?_cons_of_pos (pkE_iff.2 ⟨h0, h1, hj⟩)
    rw [hno, hyes]
    rfl
  · rw [updM_other _ e]
    have hno : [k].find? (pkE st co a b) = none := by
      rw [List.find?_eq_none]
      intro k' hk' hc
      obtain rfl := List.mem_singleton.1 hk'
      have hc := pkE_iff.1 hc
      have ea := h.row_eq hi ha h0 h1 hc.1 hc.2.1
      apply e
      refine ⟨ea, ?_⟩
      have := hc.2.2
      rw [ea] at hc
      omega
    rw [hno, Option.or_none]
theorem vw_end {n : Nat} {st co : List Int} {va : List Nat} (h : IsSp n st co va) {i j : Nat} {v : Option Nat} (hv : vw st co va co.length i j = some v) (hi : i < n) : j < n := by
  unfold vw at hv
  cases ht : tellK st co co.length i j with
  | none => rw [ht] at hv; cases hv
  | some k =>
    obtain ⟨h1, _, _, h4⟩ := tellK_some ht
    have := h.s9 k h1
    omega

/-! ### The sparse square of what is told -/

def clQ (n : Nat) (M : Sqr) (t : Nat) : List Nat := (List.range t).filter fun q => (M (q / n) (q % n)).isSome
def clC (n : Nat) (M : Sqr) (t : Nat) : List Int := (clQ n M t).map fun q => ((q % n : Nat) : Int)
def clV (n : Nat) (M : Sqr) (t : Nat) : List (Option Nat) := (clQ n M t).map fun q => (M (q / n) (q % n)).getD none
def clS (n : Nat) (M : Sqr) (i : Nat) : List Int := (List.range (i + 1)).map fun a => ((clQ n M (a * n)).length : Int)
theorem ix_div {n i k : Nat} (hk : k < n) : (i * n + k) / n = i ∧ (i * n + k) % n = k := by
  constructor
  · rw [Nat.mul_comm, Nat.mul_add_div (by omega), Nat.div_eq_of_lt hk]; rfl
  · rw [Nat.mul_comm, Nat.mul_add_mod, Nat.mod_eq_of_lt hk]
theorem clQ_yes {n : Nat} {M : Sqr} {i k : Nat} {v : Option Nat} (hk : k < n) (h : M i k = some v) : clQ n M (i * n + (k + 1)) = clQ n M (i * n + k) ++ [i * n + k] := by
  unfold clQ
  rw [show i * n + (k + 1) = (i * n + k) + 1 by omega, List.range_succ, List.filter_append]
  rw [List.filter_cons_of_pos (by rw [(ix_div hk).1, (ix_div hk).2, h]; rfl)]
  rfl
theorem clQ_no {n : Nat} {M : Sqr} {i k : Nat} (hk : k < n) (h : M i k = none) : clQ n M (i * n + (k + 1)) = clQ n M (i * n + k) := by
  unfold clQ
  rw [show i * n + (k + 1) = (i * n + k) + 1 by omega, List.range_succ, List.filter_append]
  rw [List.filter_cons_of_neg (by rw [(ix_div hk).1, (ix_div hk).2, h]; simp)]
  simp
theorem clC_yes {n : Nat} {M : Sqr} {i k : Nat} {v : Option Nat} (hk : k < n) (h : M i k = some v) : clC n M (i * n + (k + 1)) = clC n M (i * n + k) ++ [(k : Int)] := by
  unfold clC
  rw [clQ_yes hk h, List.map_append, List.map_cons, List.map_nil, (ix_div hk).2]
theorem clV_yes {n : Nat} {M : Sqr} {i k : Nat} {v : Option Nat} (hk : k < n) (h : M i k = some v) : clV n M (i * n + (k + 1)) = clV n M (i * n + k) ++ [v] := by
  unfold clV
  rw [clQ_yes hk h, List.map_append]
  simp [(ix_div hk).1, (ix_div hk).2, h]
theorem clC_no {n : Nat} {M : Sqr} {i k : Nat} (hk : k < n) (h : M i k = none) : clC n M (i * n + (k + 1)) = clC n M (i * n + k) := by unfold clC; rw [clQ_no hk h]
theorem clV_no {n : Nat} {M : Sqr} {i k : Nat} (hk : k < n) (h : M i k = none) : clV n M (i * n + (k + 1)) = clV n M (i * n + k) := by unfold clV; rw [clQ_no hk h]
theorem clC_length (n : Nat) (M : Sqr) (t : Nat) : (clC n M t).length = (clQ n M t).length := by simp [clC]
theorem clV_length (n : Nat) (M : Sqr) (t : Nat) : (clV n M t).length = (clQ n M t).length := by simp [clV]
theorem clQ_le (n : Nat) (M : Sqr) (t : Nat) : (clQ n M t).length ≤ t := by
  have := List.length_filter_le (fun q => (M (q / n) (q % n)).isSome) (List.range t)
  simpa [clQ] using this
theorem clS_next (n : Nat) (M : Sqr) (i : Nat) : clS n M (i + 1) = clS n M i ++ [((clQ n M (i * n + n)).length : Int)] := by
  unfold clS
  rw [List.range_succ (n := i + 1), List.map_append]
  simp [Nat.succ_mul]
theorem clS_length (n : Nat) (M : Sqr) (i : Nat) : (clS n M i).length = i + 1 := by simp [clS]
theorem clQ_congr {n : Nat} {M M' : Sqr} (hn : 0 < n) (h : ∀ i j, i < n → j < n → M i j = M' i j) {t : Nat} (ht : t ≤ n * n) : clQ n M t = clQ n M' t := by
  unfold clQ
  apply List.filter_congr
  intro q hq
  rw [List.mem_range] at hq
  rw [h _ _ ((Nat.div_lt_iff_lt_mul hn).2 (by omega)) (Nat.mod_lt _ hn)]

/-- What comes back: a sparse square, or that it fails. -/
structure SD where
  sd : Int
  st : List Int
  co : List Int
  va : List Nat
  ok : Bool
def SD.bad : SD := ⟨0, [], [], [], false⟩
noncomputable def giveSp (n : Nat) (M : Sqr) : SD :=
  if (clV n M (n * n)).all finO && isSp n (clS n M n) (clC n M (n * n)) (wordsL (clV n M (n * n))) then ⟨n, clS n M n, clC n M (n * n), wordsL (clV n M (n * n)), true⟩ else SD.bad
theorem giveSp_congr {n : Nat} {M M' : Sqr} (hn : 0 < n) (h : ∀ i j, i < n → j < n → M i j = M' i j) : giveSp n M = giveSp n M' := by
  have hq := fun t (ht : t ≤ n * n) => clQ_congr hn h ht
  have h1 : clC n M (n * n) = clC n M' (n * n) := by unfold clC; rw [hq _ (Nat.le_refl _)]
  have h2 : clV n M (n * n) = clV n M' (n * n) := by
    unfold clV
    rw [hq _ (Nat.le_refl _)]
    apply List.map_congr_left
    intro q hm
    have hl : q < n * n := by
      unfold clQ at hm
      simpa using (List.mem_filter.1 hm).1
    rw [h _ _ ((Nat.div_lt_iff_lt_mul hn).2 (by omega)) (Nat.mod_lt _ hn)]
  have h3 : clS n M n = clS n M' n := by
    unfold clS
    apply List.map_congr_left
    intro a ha
    rw [List.mem_range] at ha
    rw [hq _ (Nat.mul_le_mul_right _ (by omega))]
  unfold giveSp
  rw [h1, h2, h3]
/-- The answer where the words are at hand. -/
theorem giveSp_of {n : Nat} {M : Sqr} {ys : List Nat} (h : cfs ys = clV n M (n * n)) : giveSp n M = if isSp n (clS n M n) (clC n M (n * n)) ys then ⟨n, clS n M n, clC n M (n * n), ys, true⟩ else SD.bad := by
  unfold giveSp
  rw [← h, all_cfs]
  cases hf : finL ys with
  | true => rw [wordsL_cfs hf, Bool.true_and]
  | false =>
    rw [Bool.false_and, if_neg (by simp), isSp_not (fun hs => by rw [hs.s5] at hf; cases hf), if_neg (by simp)]
theorem giveSp_bad {n : Nat} {M : Sqr} {ys : List Nat} (h : cfs ys = clV n M (n * n)) (hf : isSp n (clS n M n) (clC n M (n * n)) ys = false) : giveSp n M = SD.bad := by rw [giveSp_of h, hf]; rfl
theorem giveSp_good {n : Nat} {M : Sqr} {ys : List Nat} (h : cfs ys = clV n M (n * n)) (hf : isSp n (clS n M n) (clC n M (n * n)) ys = true) : giveSp n M = ⟨n, clS n M n, clC n M (n * n), ys, true⟩ := by rw [giveSp_of h, hf, if_pos rfl]

end Go.Proofs.Ytkifpligpobiaaa
