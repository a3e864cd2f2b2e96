
/- The least of a list by a degree; rows taken out by least degree; rows by breadth. Nothing of the program. -/

import Derived.Test.YtkifpligpobiaaaG1
set_option linter.unusedVariables false
set_option linter.unusedSimpArgs false

namespace Go.Proofs.Ytkifpligpobiaaa

open Go.RowKit

theorem snocInd {P : List Nat → Prop} (h0 : P []) (h1 : ∀ l x, P l → P (l ++ [x])) (l : List Nat) : P l := by
  have h : ∀ l : List Nat, P l.reverse := by
    intro l
    induction l with
    | nil => exact h0
    | cons x l ih => rw [List.reverse_cons]; exact h1 _ _ ih
  have := h l.reverse
  rwa [List.reverse_reverse] at this

/-- The better one: less degree; the first of equals. -/
def pick (deg : Nat → Nat) : Option Nat → Nat → Option Nat
  | none, x => some x
  | some m, x => if deg x < deg m then some x else some m
theorem pick_some (deg : Nat → Nat) (m x : Nat) : pick deg (some m) x = if deg x < deg m then some x else some m := rfl
def lowB (deg : Nat → Nat) (l : List Nat) : Option Nat := l.foldl (pick deg) none
theorem lowB_snoc (deg : Nat → Nat) (l : List Nat) (x : Nat) : lowB deg (l ++ [x]) = pick deg (lowB deg l) x := by
  unfold lowB
  rw [List.foldl_append]
  rfl
theorem lowB_nil (deg : Nat → Nat) : lowB deg [] = none := rfl
def leD (deg : Nat → Nat) (a b : Nat) : Bool := decide (deg a < deg b) || (decide (deg a = deg b) && decide (a ≤ b))
theorem leD_iff {deg : Nat → Nat} {a b : Nat} : leD deg a b = true ↔ deg a < deg b ∨ (deg a = deg b ∧ a ≤ b) := by simp [leD]
theorem leD_trans (deg : Nat → Nat) (a b c : Nat) (h : leD deg a b = true) (k : leD deg b c = true) : leD deg a c = true := by
  rw [leD_iff] at *
  omega
theorem leD_total (deg : Nat → Nat) (a b : Nat) : (leD deg a b || leD deg b a) = true := by
  rw [Bool.or_eq_true, leD_iff, leD_iff]
  omega
theorem leD_anti {deg : Nat → Nat} {a b : Nat} (h : leD deg a b = true) (k : leD deg b a = true) : a = b := by
  rw [leD_iff] at *
  omega
/-- What it finds in a rising list. -/
theorem lowB_spec' {deg : Nat → Nat} : ∀ l : List Nat, l.Pairwise (· < ·) → (l = [] ∧ lowB deg l = none) ∨ ∃ r, lowB deg l = some r ∧ r ∈ l ∧ ∀ x ∈ l, leD deg r x = true := by
  apply snocInd
  · exact fun _ => .inl ⟨rfl, rfl⟩
  · intro l x ih hp
    rw [List.pairwise_append] at hp
    obtain ⟨h1, _, h3⟩ := hp
    right
    rw [lowB_snoc]
    rcases ih h1 with ⟨rfl, h⟩ | ⟨r, h, hr, hall⟩
    · rw [h]
      refine ⟨x, rfl, by simp, fun y hy => ?_⟩
      obtain rfl : y = x := by simpa using hy
      rw [leD_iff]; omega
    · rw [h]
      have hrx := h3 r hr x (by simp)
      rw [pick_some]
      split
      · rename_i hd
        refine ⟨x, rfl, by simp, fun y hy => ?_⟩
        rcases List.mem_append.1 hy with hy | hy
        · have := hall y hy
          rw [leD_iff] at *
          omega
        · obtain rfl : y = x := by simpa using hy
          rw [leD_iff]; omega
      · rename_i hd
        refine ⟨r, rfl, by simp [hr], fun y hy => ?_⟩
        rcases List.mem_append.1 hy with hy | hy
        · exact hall y hy
        · obtain rfl : y = x := by simpa using hy
          rw [leD_iff]; omega
theorem lowB_spec {deg : Nat → Nat} {l : List Nat} (h : l.Pairwise (· < ·)) : (l = [] ∧ lowB deg l = none) ∨ ∃ r, lowB deg l = some r ∧ r ∈ l ∧ ∀ x ∈ l, leD deg r x = true := lowB_spec' l h
theorem lowB_eq {deg : Nat → Nat} {l : List Nat} (hp : l.Pairwise (· < ·)) {r : Nat} (hr : r ∈ l) (hall : ∀ x ∈ l, leD deg r x = true) : lowB deg l = some r := by
  rcases lowB_spec (deg := deg) hp with ⟨rfl, _⟩ | ⟨s, h, hs, hall'⟩
  · cases hr
  · rw [h, leD_anti (hall' r hr) (hall s hs)]
theorem lowB_some {deg : Nat → Nat} {l : List Nat} (hp : l.Pairwise (· < ·)) (hne : l ≠ []) : ∃ r, lowB deg l = some r ∧ r ∈ l := by
  rcases lowB_spec (deg := deg) hp with ⟨rfl, _⟩ | ⟨s, h, hs, _⟩
  · exact absurd rfl hne
  · exact ⟨s, h, hs⟩
theorem lowB_congr {deg deg' : Nat → Nat} {l : List Nat} (h : ∀ x ∈ l, deg x = deg' x) : lowB deg l = lowB deg' l := by
  have key : ∀ (l : List Nat), (∀ x ∈ l, deg x = deg' x) → lowB deg l = lowB deg' l ∧ ∀ r, lowB deg l = some r → r ∈ l := by
    apply snocInd
    · exact fun _ => ⟨rfl, fun r h => by cases h⟩
    · intro l x ih h
      obtain ⟨i1, i2⟩ := ih fun y hy => h y (by simp [hy])
      rw [lowB_snoc, lowB_snoc, ← i1]
      cases hl : lowB deg l with
      | none => exact ⟨rfl, fun r hr => by have : x = r := by simpa [pick] using hr
                                           simp [this]⟩
      | some m =>
        have hm := i2 m hl
        have e1 := h m (by simp [hm])
        have e2 := h x (by simp)
        rw [pick_some, pick_some, e1, e2]
        refine ⟨rfl, fun r hr => ?_⟩
        split at hr
        · have : x = r := by simpa using hr
          simp [this]
        · have : m = r := by simpa using hr
          simp [← this, hm]
  exact (key l h).1

/-- How many neighbours a row has. -/
def degB (n : Nat) (B : Grf) (i : Nat) : Nat := (lsB n (B i)).length
theorem degB_le (n : Nat) (B : Grf) (i : Nat) : degB n B i ≤ n := lsB_len n _

/-! ### Least degree first -/

structure LS where
  B : Grf
  S : Nat → Bool
  out : List Nat
def LS.next (n : Nat) (s : LS) : Nat := (lowB (degB n s.B) (lsB n s.S)).getD 0
def LS.step (n : Nat) (s : LS) : LS := ⟨outB s.B (s.next n), fun a => s.S a && !decide (a = s.next n), s.out ++ [s.next n]⟩
def lsSt (n : Nat) (B : Grf) : Nat → LS
  | 0 => ⟨B, fun _ => true, []⟩
  | t + 1 => (lsSt n B t).step n
theorem lsB_true (n : Nat) : lsB n (fun _ => true) = List.range n := by unfold lsB; simp
theorem lsB_strike {n : Nat} {f : Nat → Bool} {r : Nat} (hr : r ∈ lsB n f) : (lsB n fun a => f a && !decide (a = r)).length + 1 = (lsB n f).length := by
  obtain ⟨h1, h2⟩ := lsB_mem.1 hr
  have e : lsB n (fun a => f a && !decide (a = r)) = (lsB n f).erase r := by
    rw [List.Nodup.erase_eq_filter (lsB_nodup n f)]
    unfold lsB
    rw [List.filter_filter]
    apply List.filter_congr
    intro x _
    rw [Bool.and_comm]
    congr 1
  rw [e, List.length_erase_of_mem hr]
  have := List.length_pos_of_mem hr
  omega
theorem lsSt_len (n : Nat) (B : Grf) : ∀ t, t ≤ n → (lsB n (lsSt n B t).S).length = n - t ∧ (lsSt n B t).out.length = t
  | 0, _ => by simp [lsSt, lsB_true]
  | t + 1, h => by
    obtain ⟨h1, h2⟩ := lsSt_len n B t (by omega)
    obtain ⟨r, hr, hm⟩ := lowB_some (deg := degB n (lsSt n B t).B) (lsB_sorted n (lsSt n B t).S) (by intro e; rw [e] at h1; simp at h1; omega)
    have e : (lsSt n B t).next n = r := by unfold LS.next; rw [hr]; rfl
    have := lsB_strike hm
    constructor
    · show (lsB n fun a => (lsSt n B t).S a && !decide (a = (lsSt n B t).next n)).length = _
      rw [e]
      omega
    · show ((lsSt n B t).out ++ [_]).length = _
      simp [h2]
theorem lsSt_next {n : Nat} {B : Grf} {t : Nat} (h : t < n) : lowB (degB n (lsSt n B t).B) (lsB n (lsSt n B t).S) = some ((lsSt n B t).next n) ∧ (lsSt n B t).next n < n ∧ (lsSt n B t).S ((lsSt n B t).next n) = true := by
  obtain ⟨h1, h2⟩ := lsSt_len n B t (by omega)
  obtain ⟨r, hr, hm⟩ := lowB_some (deg := degB n (lsSt n B t).B) (lsB_sorted n (lsSt n B t).S) (by intro e; rw [e] at h1; simp at h1; omega)
  have e : (lsSt n B t).next n = r := by unfold LS.next; rw [hr]; rfl
  rw [e]
  exact ⟨hr, lsB_mem.1 hm⟩

/-! ### By breadth -/

structure BS where
  L : List Nat
  at_ : Nat
def srt (deg : Nat → Nat) (l : List Nat) : List Nat := l.mergeSort (leD deg)
def notIn (L : List Nat) (a : Nat) : Bool := !L.contains a
def BS.more (n : Nat) (B : Grf) (s : BS) : List Nat := if s.at_ = s.L.length then s.L ++ [(lowB (degB n B) (lsB n (notIn s.L))).getD 0] else s.L
def nxt (n : Nat) (B : Grf) (L : List Nat) (row : Nat) : List Nat := lsB n fun k => B row k && notIn L k
def BS.step (n : Nat) (B : Grf) (s : BS) : BS := ⟨s.more n B ++ srt (degB n B) (nxt n B (s.more n B) ((s.more n B).getD s.at_ 0)), s.at_ + 1⟩
def bsSt (n : Nat) (B : Grf) : Nat → BS
  | 0 => ⟨[], 0⟩
  | t + 1 => (bsSt n B t).step n B
theorem srt_perm (deg : Nat → Nat) (l : List Nat) : (srt deg l).Perm l := List.mergeSort_perm _ _
theorem srt_sorted (deg : Nat → Nat) (l : List Nat) : (srt deg l).Pairwise fun a b => leD deg a b = true := List.pairwise_mergeSort (leD_trans deg) (leD_total deg) l
theorem srt_len (deg : Nat → Nat) (l : List Nat) : (srt deg l).length = l.length := (srt_perm deg l).length_eq
theorem srt_unique {deg : Nat → Nat} {l l' : List Nat} (hp : l'.Perm l) (hs : l'.Pairwise fun a b => leD deg a b = true) : l' = srt deg l :=
  List.Perm.eq_of_pairwise (fun a b _ _ h k => leD_anti h k) hs (srt_sorted deg l) (hp.trans (srt_perm deg l).symm)
theorem notIn_append (L K : List Nat) (a : Nat) : notIn (L ++ K) a = (notIn L a && notIn K a) := by
  unfold notIn
  rw [List.contains_eq_mem, List.contains_eq_mem, List.contains_eq_mem]
  by_cases h1 : a ∈ L <;> by_cases h2 : a ∈ K <;> simp [h1, h2]
theorem notIn_iff {L : List Nat} {a : Nat} : notIn L a = true ↔ a ∉ L := by
  unfold notIn
  rw [List.contains_eq_mem]
  simp
/-- The sorted list, picked one behind the other. -/
theorem srt_pick (n : Nat) (f : Nat → Bool) (deg : Nat → Nat) (j : Nat) (hj : j < (srt deg (lsB n f)).length) :
    lowB deg (lsB n fun k => f k && notIn ((srt deg (lsB n f)).take j) k) = some ((srt deg (lsB n f)).getD j 0) := by
  have hn : (srt deg (lsB n f)).Nodup := (srt_perm deg _).nodup_iff.2 (lsB_nodup n f)
  have hs := srt_sorted deg (lsB n f)
  have hm : ∀ x, x ∈ srt deg (lsB n f) ↔ x ∈ lsB n f := fun x => (srt_perm deg _).mem_iff
  obtain ⟨s, es⟩ : ∃ s, s = srt deg (lsB n f) := ⟨_, rfl⟩
  rw [← es] at hn hs hm hj ⊢
  have hg : s.getD j 0 = s[j] := by simp [hj]
  rw [hg]
  have e : s = s.take j ++ s[j] :: s.drop (j + 1) := by rw [List.getElem_cons_drop, List.take_append_drop]
  have hn' := hn
  rw [e, List.nodup_append] at hn'
  have hs' := hs
  rw [e, List.pairwise_append, List.pairwise_cons] at hs'
  apply lowB_eq (lsB_sorted n _)
  · rw [lsB_mem]
    have h1 := lsB_mem.1 ((hm s[j]).1 (List.getElem_mem hj))
    refine ⟨h1.1, ?_⟩
    rw [h1.2, Bool.true_and, notIn_iff]
    intro hx
    exact hn'.2.2 _ hx _ (List.mem_cons_self) rfl
  · intro x hx
    obtain ⟨h1, h2⟩ := lsB_mem.1 hx
    rw [Bool.and_eq_true, notIn_iff] at h2
    have hxs : x ∈ s := (hm x).2 (lsB_mem.2 ⟨h1, h2.1⟩)
    rw [e] at hxs
    rcases List.mem_append.1 hxs with h | h
    · exact absurd h h2.2
    · rcases List.mem_cons.1 h with h | h
      · rw [h, leD_iff]; omega
      · exact hs'.2.1.1 x h
theorem srt_end (n : Nat) (f : Nat → Bool) (deg : Nat → Nat) : lowB deg (lsB n fun k => f k && notIn (srt deg (lsB n f)) k) = none := by
  have e : lsB n (fun k => f k && notIn (srt deg (lsB n f)) k) = [] := by
    rw [List.eq_nil_iff_forall_not_mem]
    intro x hx
    obtain ⟨h1, h2⟩ := lsB_mem.1 hx
    rw [Bool.and_eq_true, notIn_iff] at h2
    exact h2.2 ((srt_perm deg _).mem_iff.2 (lsB_mem.2 ⟨h1, h2.1⟩))
  rw [e]
  rfl
/-- What a state of the search holds. -/
structure BsOk (n : Nat) (s : BS) : Prop where
  nd : s.L.Nodup
  lt : ∀ x ∈ s.L, x < n
  le : s.at_ ≤ s.L.length
theorem notIn_snoc (L : List Nat) (x a : Nat) : notIn (L ++ [x]) a = (notIn L a && !decide (a = x)) := by
  rw [notIn_append]
  congr 1
  unfold notIn
  rw [List.contains_eq_mem]
  simp
/-- How many are left. -/
theorem notIn_len {n : Nat} : ∀ {L : List Nat}, L.Nodup → (∀ x ∈ L, x < n) → (lsB n (notIn L)).length + L.length = n := by
  apply snocInd
  · intro _ _
    have e : notIn [] = fun _ => true := by funext a; rfl
    rw [e, lsB_true]
    simp
  · intro L x ih hn hl
    rw [List.nodup_append] at hn
    have h1 := ih hn.1 fun y hy => hl y (by simp [hy])
    have hx : x ∈ lsB n (notIn L) := lsB_mem.2 ⟨hl x (by simp), notIn_iff.2 fun h => hn.2.2 x h x (by simp) rfl⟩
    have h2 := lsB_strike hx
    have e : notIn (L ++ [x]) = fun a => notIn L a && !decide (a = x) := by funext a; exact notIn_snoc L x a
    rw [e, List.length_append]
    simp only [List.length_cons, List.length_nil]
    omega
theorem BsOk.len {n : Nat} {s : BS} (h : BsOk n s) : s.L.length ≤ n := by
  have := notIn_len h.nd h.lt
  omega
theorem BsOk.more {n : Nat} {B : Grf} {s : BS} (h : BsOk n s) (hlt : s.at_ < n) : (s.more n B).Nodup ∧ (∀ x ∈ s.more n B, x < n) ∧ s.at_ < (s.more n B).length := by
  unfold BS.more
  have hl := notIn_len h.nd h.lt
  split
  · rename_i e
    obtain ⟨r, hr, hm⟩ := lowB_some (deg := degB n B) (lsB_sorted n (notIn s.L)) (by intro e'; rw [e'] at hl; simp at hl; omega)
    rw [hr]
    obtain ⟨m1, m2⟩ := lsB_mem.1 hm
    refine ⟨?_, ?_, by simp; omega⟩
    · rw [List.nodup_append]
      refine ⟨h.nd, by simp, fun a ha b hb => ?_⟩
      obtain rfl : b = r := by simpa using hb
      intro e'
      subst e'
      exact notIn_iff.1 m2 ha
    · intro x hx
      rcases List.mem_append.1 hx with hx | hx
      · exact h.lt x hx
      · obtain rfl : x = r := by simpa using hx
        exact m1
  · rename_i e
    have := h.le
    exact ⟨h.nd, h.lt, by omega⟩
theorem BsOk.step {n : Nat} {B : Grf} {s : BS} (h : BsOk n s) (hlt : s.at_ < n) : BsOk n (s.step n B) := by
  obtain ⟨h1, h2, h3⟩ := h.more (B := B) hlt
  have hm : ∀ x, x ∈ srt (degB n B) (nxt n B (s.more n B) ((s.more n B).getD s.at_ 0)) → x < n ∧ x ∉ s.more n B := by
    intro x hx
    obtain ⟨m1, m2⟩ := lsB_mem.1 ((srt_perm _ _).mem_iff.1 hx)
    rw [Bool.and_eq_true, notIn_iff] at m2
    exact ⟨m1, m2.2⟩
  constructor
  · show (s.more n B ++ srt _ _).Nodup
    rw [List.nodup_append]
    refine ⟨h1, (srt_perm _ _).nodup_iff.2 (lsB_nodup n _), fun a ha b hb e => ?_⟩
    subst e
    exact (hm a hb).2 ha
  · intro x hx
    rcases List.mem_append.1 hx with hx | hx
    · exact h2 x hx
    · exact (hm x hx).1
  · show s.at_ + 1 ≤ (s.more n B ++ srt _ _).length
    rw [List.length_append]
    omega
theorem bsSt_at (n : Nat) (B : Grf) : ∀ t, (bsSt n B t).at_ = t
  | 0 => rfl
  | t + 1 => by show (bsSt n B t).at_ + 1 = t + 1; rw [bsSt_at n B t]
theorem bsSt_ok (n : Nat) (B : Grf) : ∀ t, t ≤ n → BsOk n (bsSt n B t)
  | 0, _ => ⟨List.nodup_nil, fun x hx => (by cases hx), Nat.le_refl _⟩
  | t + 1, h => (bsSt_ok n B t (by omega)).step (by rw [bsSt_at]; omega)
/-- Once all are in, nothing comes behind. -/
theorem bs_full {n : Nat} {B : Grf} {s : BS} (h : BsOk n s) (hf : s.L.length = n) (hlt : s.at_ < n) : (s.step n B).L = s.L := by
  have hl := notIn_len h.nd h.lt
  have e1 : s.more n B = s.L := by unfold BS.more; rw [if_neg (by omega)]
  have e0 : lsB n (notIn s.L) = [] := List.length_eq_zero_iff.1 (by omega)
  have e2 : ∀ row, nxt n B s.L row = [] := by
    intro row
    rw [List.eq_nil_iff_forall_not_mem]
    intro x hx
    obtain ⟨h1, h2⟩ := lsB_mem.1 hx
    rw [Bool.and_eq_true] at h2
    have : x ∈ lsB n (notIn s.L) := lsB_mem.2 ⟨h1, h2.2⟩
    rw [e0] at this
    cases this
  show s.more n B ++ srt _ (nxt n B (s.more n B) _) = s.L
  rw [e1, e2]
  have : srt (degB n B) [] = [] := List.length_eq_zero_iff.1 (srt_len _ _)
  rw [this, List.append_nil]
/-- All rows, by breadth. -/
def bsL (n : Nat) (B : Grf) : List Nat := (bsSt n B n).L
theorem bs_end {n : Nat} {B : Grf} {t : Nat} (ht : t ≤ n) (hf : (bsSt n B t).L.length = n) : (bsSt n B t).L = bsL n B := by
  have key : ∀ d, t + d ≤ n → (bsSt n B (t + d)).L = (bsSt n B t).L := by
    intro d
    induction d with
    | zero => intro _; rfl
    | succ d ih =>
      intro h
      have h1 := ih (by omega)
      have := bs_full (B := B) (bsSt_ok n B (t + d) (by omega)) (by rw [h1]; exact hf) (by rw [bsSt_at]; omega)
      exact this.trans h1
  have := key (n - t) (by omega)
  rw [show t + (n - t) = n by omega] at this
  exact this.symm
theorem bsL_len (n : Nat) (B : Grf) : (bsL n B).length = n := by
  have h := bsSt_ok n B n (Nat.le_refl _)
  have h1 := h.len
  have h2 := h.le
  rw [bsSt_at] at h2
  unfold bsL
  omega
end Go.Proofs.Ytkifpligpobiaaa
