
/- Graphs: masks of rows, a row taken out. Nothing of the program. -/

import Derived.Laws.BitsLemmas

import Derived.Laws.BitsAllLaws

import Derived.Test.YtkifpligpobiaaaP2
set_option linter.unusedVariables false
set_option linter.unusedSimpArgs false

namespace Go.Proofs.Ytkifpligpobiaaa

open Go.RowKit

/-- The mask of a test of the first n numbers. -/
def msk : Nat → (Nat → Bool) → Nat
  | 0, _ => 0
  | n + 1, f => msk n f ||| (if f n then 2 ^ n else 0)
theorem msk_bit (n : Nat) (f : Nat → Bool) (k : Nat) : (msk n f).testBit k = (decide (k < n) && f k) := by
  induction n with
  | zero => simp [msk]
  | succ n ih =>
    unfold msk
    rw [Nat.testBit_or, ih]
    by_cases h : k < n
    · have h1 : ¬ n = k := by omega
      rw [decide_eq_true h, decide_eq_true (show k < n + 1 by omega)]
      cases hf : f n with
      | true => simp [Nat.testBit_two_pow, h1]
      | false => simp
    · by_cases h2 : k = n
      · subst h2
        rw [decide_eq_false h, decide_eq_true (show k < k + 1 by omega)]
        cases hf : f k <;> simp [Nat.testBit_two_pow]
      · have h1 : ¬ n = k := by omega
        rw [decide_eq_false h, decide_eq_false (show ¬ k < n + 1 by omega)]
        cases hf : f n with
        | true => simp [Nat.testBit_two_pow, h1]
        | false => simp
theorem msk_lt (n : Nat) (f : Nat → Bool) : msk n f < 2 ^ n := by
  apply Nat.lt_pow_two_of_testBit
  intro i hi
  rw [msk_bit, decide_eq_false (by omega), Bool.false_and]
theorem msk_lt32 {n : Nat} (hn : n ≤ 32) (f : Nat → Bool) : msk n f < 4294967296 := Nat.lt_of_lt_of_le (msk_lt n f) (Nat.pow_le_pow_right (by omega) hn)
theorem msk_of {n m : Nat} {f : Nat → Bool} (h : ∀ k, m.testBit k = (decide (k < n) && f k)) : m = msk n f := Nat.eq_of_testBit_eq fun k => by rw [h, msk_bit]
theorem msk_congr {n : Nat} {f g : Nat → Bool} (h : ∀ k, k < n → f k = g k) : msk n f = msk n g := by
  apply msk_of
  intro k
  rw [msk_bit]
  by_cases hk : k < n
  · rw [h k hk]
  · rw [decide_eq_false hk]; rfl
theorem msk_false (n : Nat) : msk n (fun _ => false) = 0 := (msk_of fun k => by simp).symm
theorem msk_zero {n : Nat} {f : Nat → Bool} (h : msk n f = 0) {k : Nat} (hk : k < n) : f k = false := by
  have := msk_bit n f k
  rw [h, decide_eq_true hk] at this
  simpa using this.symm
theorem msk_or (n : Nat) (f g : Nat → Bool) : msk n f ||| msk n g = msk n fun k => f k || g k := by
  apply msk_of
  intro k
  rw [Nat.testBit_or, msk_bit, msk_bit]
  cases decide (k < n) <;> simp
theorem msk_one {n k : Nat} (hk : k < n) : 2 ^ k = msk n fun j => decide (j = k) := by
  apply msk_of
  intro j
  rw [Nat.testBit_two_pow]
  by_cases h : k = j
  · subst h; simp [hk]
  · have h' : ¬ j = k := fun e => h e.symm
    simp [h, h']
theorem msk_all (n : Nat) : 2 ^ n - 1 = msk n fun _ => true := by
  apply msk_of
  intro k
  rw [Nat.testBit_two_pow_sub_one]
  simp
/-- 'a &^ b' of masks. -/
theorem msk_andNot {n : Nat} (hn : n ≤ 32) (f g : Nat → Bool) : msk n f &&& (18446744073709551615 - msk n g) = msk n fun k => f k && !g k := by
  apply msk_of
  intro k
  have hg : msk n g < 18446744073709551616 := Nat.lt_of_lt_of_le (msk_lt32 hn g) (by omega)
  have e : (18446744073709551615 - msk n g : Nat) = 2 ^ 64 - (msk n g + 1) := by omega
  rw [Nat.testBit_and, e, Nat.testBit_two_pow_sub_succ hg, msk_bit, msk_bit]
  by_cases hk : k < n
  · simp [hk, show k < 64 by omega]
  · simp [hk]

theorem u64_or {a b : Nat} (ha : a < 4294967296) (hb : b < 4294967296) : bits .or .u64 (a : Int) (b : Int) = ((a ||| b : Nat) : Int) :=
  (bits_nat .u64 32 (by decide) (fun n h0 h1 => by rw [IntKind.wrap_u64]; omega) a b ha hb).2
theorem u64_one {m : Nat} (hm : m < 4294967296) : bits .and .u64 (m : Int) 1 = ((m % 2 : Nat) : Int) := by
  have h := (bits_nat .u64 32 (by decide) (fun n h0 h1 => by rw [IntKind.wrap_u64]; omega) m 1 hm (by decide)).1
  rw [Nat.and_one_is_mod] at h
  exact h
theorem u64_not {n : Nat} (hn : n ≤ 32) (f g : Nat → Bool) : bits .andNot .u64 (msk n f : Int) (msk n g : Int) = (msk n (fun k => f k && !g k) : Int) := by
  rw [u64_andNot_nat _ _ (Nat.lt_of_lt_of_le (msk_lt32 hn f) (by omega)) (Nat.lt_of_lt_of_le (msk_lt32 hn g) (by omega)), msk_andNot hn]
theorem u64_or_msk {n : Nat} (hn : n ≤ 32) (f g : Nat → Bool) : bits .or .u64 (msk n f : Int) (msk n g : Int) = (msk n (fun k => f k || g k) : Int) := by
  rw [u64_or (msk_lt32 hn f) (msk_lt32 hn g), msk_or]
theorem bit32 {m : Nat} (hm : m < 4294967296) (k : Nat) : (bits .and .u64 ((m : Int) / 2 ^ k) 1 == 1) = m.testBit k := by
  have e : ((m : Int) / 2 ^ k) = ((m / 2 ^ k : Nat) : Int) := by simp
  rw [e, u64_one (Nat.lt_of_le_of_lt (Nat.div_le_self _ _) hm), Nat.testBit_eq_decide_div_mod_eq]
  rw [Bool.eq_iff_iff]
  simp only [beq_iff_eq, decide_eq_true_eq]
  omega

/-- Those of the first k numbers that pass. -/
def lsB (k : Nat) (f : Nat → Bool) : List Nat := (List.range k).filter f
theorem lsB_zero (f : Nat → Bool) : lsB 0 f = [] := rfl
theorem lsB_yes {k : Nat} {f : Nat → Bool} (h : f k = true) : lsB (k + 1) f = lsB k f ++ [k] := by
  unfold lsB
  rw [List.range_succ, List.filter_append, List.filter_cons_of_pos h]
  rfl
theorem lsB_no {k : Nat} {f : Nat → Bool} (h : f k = false) : lsB (k + 1) f = lsB k f := by
  unfold lsB
  rw [List.range_succ, List.filter_append, List.filter_cons_of_neg (by simp [h])]
  simp
theorem lsB_len (k : Nat) (f : Nat → Bool) : (lsB k f).length ≤ k := by
  have := List.length_filter_le f (List.range k)
  simpa [lsB] using this
theorem lsB_mem {k : Nat} {f : Nat → Bool} {x : Nat} : x ∈ lsB k f ↔ x < k ∧ f x = true := by simp [lsB]
theorem lsB_more {n : Nat} {f : Nat → Bool} (h : ∀ k, n ≤ k → f k = false) {m : Nat} (hm : n ≤ m) : lsB m f = lsB n f := by
  obtain ⟨d, rfl⟩ : ∃ d, m = n + d := ⟨m - n, by omega⟩
  induction d with
  | zero => rfl
  | succ d ih => rw [show n + (d + 1) = (n + d) + 1 by omega, lsB_no (h _ (by omega))]; exact ih (by omega)
theorem lsB_congr {k : Nat} {f g : Nat → Bool} (h : ∀ i, i < k → f i = g i) : lsB k f = lsB k g := by
  unfold lsB
  apply List.filter_congr
  intro x hx
  exact h x (List.mem_range.1 hx)
theorem lsB_msk (n : Nat) (f : Nat → Bool) {m : Nat} (hm : n ≤ m) : lsB m (fun k => (msk n f).testBit k) = lsB n f := by
  rw [lsB_more (n := n) (fun k hk => by rw [msk_bit, decide_eq_false (by omega)]; rfl) hm]
  apply lsB_congr
  intro i hi
  rw [msk_bit, decide_eq_true hi, Bool.true_and]
theorem lsB_sorted (k : Nat) (f : Nat → Bool) : (lsB k f).Pairwise (· < ·) := List.Pairwise.filter _ List.pairwise_lt_range
theorem lsB_nodup (k : Nat) (f : Nat → Bool) : (lsB k f).Nodup := (lsB_sorted k f).imp fun h => by omega

/-- Neighbours: who is beside whom. -/
abbrev Grf := Nat → Nat → Bool
/-- Row i is taken out: its neighbours become neighbours of one another. -/
def outB (B : Grf) (i : Nat) : Grf := fun k j => if k = i then false else if B i k then (B k j || B i j) && !decide (j = i) && !decide (j = k) else B k j
/-- The rows before i are taken out. -/
def stB (B : Grf) : Nat → Grf
  | 0 => B
  | i + 1 => outB (stB B i) i
structure SymB (n : Nat) (B : Grf) : Prop where
  sym : ∀ i j, i < n → j < n → B i j = B j i
  irr : ∀ i, i < n → B i i = false
theorem SymB.out {n : Nat} {B : Grf} (h : SymB n B) {i : Nat} (hi : i < n) : SymB n (outB B i) := by
  constructor
  · intro a b ha hb
    unfold outB
    have s1 := h.sym a b ha hb
    have s2 := h.sym i a hi ha
    have s3 := h.sym i b hi hb
    by_cases e1 : a = i
    · subst e1
      rw [if_pos rfl]
      by_cases e2 : b = a
      · rw [if_pos e2]
      · rw [if_neg e2]
        split
        · simp
        · rename_i hn
          rw [← s3]
          simpa using hn
    · rw [if_neg e1]
      by_cases e2 : b = i
      · subst e2
        rw [if_pos rfl]
        split
        · simp
        · rename_i hn
          rw [← s2]
          simpa using hn
      · rw [if_neg e2, ← s1]
        rw [decide_eq_false e1, decide_eq_false e2]
        by_cases e3 : b = a
        · subst e3
          rfl
        · rw [decide_eq_false e3, decide_eq_false (fun h => e3 h.symm)]
          cases B i a <;> cases B i b <;> simp
  · intro a ha
    unfold outB
    by_cases e1 : a = i
    · rw [if_pos e1]
    · rw [if_neg e1]
      split
      · simp
      · exact h.irr a ha
theorem SymB.st {n : Nat} {B : Grf} (h : SymB n B) : ∀ i, i ≤ n → SymB n (stB B i)
  | 0, _ => h
  | i + 1, hi => (h.st i (by omega)).out (by omega)

/-- What the reference keeps: who was ever beside whom, and who is gone. -/
def curB (B : Grf) (gone : Nat → Bool) : Grf := fun a b => B a b && !gone a && !gone b
/-- Row i taken out, as the reference does it. -/
def outS (B : Grf) (gone : Nat → Bool) (n i : Nat) : Grf := fun a b => B a b || (decide (a < n) && decide (b < n) && B i a && !gone a && !decide (a = i) && (B i b && !gone b && !decide (b = i)) && !decide (a = b))
def goneB (gone : Nat → Bool) (i : Nat) : Nat → Bool := fun a => gone a || decide (a = i)
theorem cur_out {n : Nat} {B : Grf} {gone : Nat → Bool} (hs : SymB n B) {i : Nat} (hi : i < n) (hg : gone i = false) {a b : Nat} (ha : a < n) (hb : b < n) :
    curB (outS B gone n i) (goneB gone i) a b = outB (curB B gone) i a b := by
  unfold curB outS goneB outB
  have s1 := hs.sym a b ha hb
  have s2 := hs.sym i a hi ha
  have s3 := hs.sym i b hi hb
  have r1 := hs.irr i hi
  have r2 := hs.irr a ha
  simp only [decide_eq_true ha, decide_eq_true hb, Bool.true_and]
  by_cases e1 : a = i
  · subst e1
    rw [if_pos rfl, decide_eq_true rfl]
    simp
  · rw [if_neg e1, decide_eq_false e1, hg]
    by_cases e2 : b = i
    · subst e2
      rw [decide_eq_true rfl, ← s2]
      cases B b a <;> cases gone a <;> simp
    · rw [decide_eq_false e2]
      by_cases e3 : a = b
      · subst e3
        rw [decide_eq_true rfl, r2]
        cases B i a <;> cases gone a <;> simp
      · rw [decide_eq_false e3, decide_eq_false (fun h => e3 h.symm)]
        cases B i a <;> cases B i b <;> cases gone a <;> cases gone b <;> cases B a b <;> rfl
theorem SymB.outS {n : Nat} {B : Grf} (h : SymB n B) (gone : Nat → Bool) {i : Nat} (hi : i < n) : SymB n (outS B gone n i) := by
  constructor
  · intro a b ha hb
    unfold Go.Proofs.Ytkifpligpobiaaa.outS
    rw [h.sym a b ha hb]
    simp only [decide_eq_true ha, decide_eq_true hb, Bool.true_and]
    congr 1
    by_cases e : a = b
    · subst e; simp
    · have e' : decide (b = a) = false := decide_eq_false (fun h => e h.symm)
      rw [decide_eq_false e, e']
      cases B i a <;> cases B i b <;> cases gone a <;> cases gone b <;> cases decide (a = i) <;> cases decide (b = i) <;> rfl
  · intro a ha
    unfold Go.Proofs.Ytkifpligpobiaaa.outS
    rw [h.irr a ha]
    simp
theorem SymB.congr {n : Nat} {B B' : Grf} (h : SymB n B) (e : ∀ i j, i < n → j < n → B i j = B' i j) : SymB n B' :=
  ⟨fun i j hi hj => by rw [← e i j hi hj, ← e j i hj hi]; exact h.sym i j hi hj, fun i hi => by rw [← e i i hi hi]; exact h.irr i hi⟩

end Go.Proofs.Ytkifpligpobiaaa
