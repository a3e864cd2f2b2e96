
/- Full squares: two lists of n * n things. Nothing of the program. -/

import Derived.Test.YtkifpligpobiaaaP1
set_option linter.unusedVariables false
set_option linter.unusedSimpArgs false

namespace Go.Proofs.Ytkifpligpobiaaa

open Go.RowKit

def bools (ts : List Bool) : List Value := ts.map fun x => .bool x
theorem bools_length (ts : List Bool) : (bools ts).length = ts.length := by simp [bools]
def rdb (ts : List Bool) (i : Int) : Bool := ts.getD i.toNat false
theorem bools_get {ts : List Bool} {j : Nat} (h : j < ts.length) : (bools ts)[j]? = some (.bool (rdb ts j)) := by simp [bools, rdb, h]
theorem bools_set (ts : List Bool) (j : Nat) (x : Bool) : bools (ts.set j x) = (bools ts).set j (.bool x) := by simp [bools, List.map_set]
theorem bools_replicate (n : Nat) (x : Bool) : bools (List.replicate n x) = List.replicate n (.bool x) := by simp [bools]
theorem Rds.blen {w : World} {A : Option Addr} {n : Nat} {ts : List Bool} (h : Rds w A n (bools ts)) : ts.length = n := by have := h.len; rwa [bools_length] at this
theorem tab_get {α : Type} {C m : Nat} {F : Nat → Nat → α} {i k : Nat} (hk : k < C) (h : i * C + k < m) : (tab C F m)[i * C + k]? = some (F i k) := by
  unfold tab
  rw [List.getElem?_map, List.getElem?_range h]
  simp [(ix_div (i := i) hk).1, (ix_div (i := i) hk).2]
def tb (n : Nat) (M : Sqr) : List Bool := tab n (fun i k => (M i k).isSome) (n * n)
def nb (n : Nat) (M : Sqr) : List (Option Nat) := tab n (fun i k => (M i k).getD (some 0)) (n * n)
theorem ix_lt {n i k : Nat} (hi : i < n) (hk : k < n) : i * n + k < n * n := by
  have h : (i + 1) * n ≤ n * n := Nat.mul_le_mul_right _ (by omega)
  rw [Nat.succ_mul] at h
  omega
theorem tb_length (n : Nat) (M : Sqr) : (tb n M).length = n * n := by unfold tb; rw [tab_length]
theorem nb_length (n : Nat) (M : Sqr) : (nb n M).length = n * n := by unfold nb; rw [tab_length]
theorem tb_at {n i k : Nat} (M : Sqr) (hi : i < n) (hk : k < n) : rdb (tb n M) ((i * n + k : Nat) : Int) = (M i k).isSome := by
  unfold rdb tb
  rw [List.getD_eq_getElem?_getD, Int.toNat_natCast, tab_get hk (ix_lt hi hk)]
  rfl
theorem nb_at {n i k : Nat} {M : Sqr} {ys : List Nat} (h : cfs ys = nb n M) (hi : i < n) (hk : k < n) : c32 (rdf ys ((i * n + k : Nat) : Int)) = (M i k).getD (some 0) := by
  have hl : ys.length = n * n := by rw [← cfs_length, h, nb_length]
  have h1 : (cfs ys)[i * n + k]? = some (c32 (rdf ys ((i * n + k : Nat) : Int))) := by
    unfold cfs
    have := ix_lt hi hk
    rw [List.getElem?_map, List.getElem?_eq_getElem (by omega), rdf_get (by omega)]
    rfl
  rw [h] at h1
  unfold nb at h1
  rw [tab_get hk (ix_lt hi hk)] at h1
  exact (Option.some.inj h1).symm
theorem tb_set {n i k : Nat} {M M' : Sqr} {x : Bool} (hi : i < n) (hk : k < n) (hx : (M' i k).isSome = x) (h : ∀ a b, ¬ (a = i ∧ b = k) → (M' a b).isSome = (M a b).isSome) : (tb n M).set (i * n + k) x = tb n M' := by
  unfold tb
  exact tab_set hk (ix_lt hi hk) hx (fun a b _ hab => h a b (by omega))
theorem nb_set {n i k : Nat} {M M' : Sqr} {x : Option Nat} (hi : i < n) (hk : k < n) (hx : (M' i k).getD (some 0) = x) (h : ∀ a b, ¬ (a = i ∧ b = k) → (M' a b).getD (some 0) = (M a b).getD (some 0)) : (nb n M).set (i * n + k) x = nb n M' := by
  unfold nb
  exact tab_set hk (ix_lt hi hk) hx (fun a b _ hab => h a b (by omega))
def noneM : Sqr := fun _ _ => none
theorem tb_none (n : Nat) : tb n noneM = List.replicate (n * n) false := by
  unfold tb
  rw [← tab_const n]
  rfl
theorem nb_none (n : Nat) : nb n noneM = List.replicate (n * n) (some 0) := by
  unfold nb
  rw [← tab_const n]
  rfl
theorem tb_congr {n : Nat} {M M' : Sqr} (h : ∀ i j, i < n → j < n → (M i j).isSome = (M' i j).isSome) : tb n M = tb n M' := tab_congr h
theorem nb_congr {n : Nat} {M M' : Sqr} (h : ∀ i j, i < n → j < n → (M i j).getD (some 0) = (M' i j).getD (some 0)) : nb n M = nb n M' := tab_congr h
/-- The index of a place of a full square. -/
theorem ix32 {n i k : Nat} (hi : i < n) (hk : k < n) (hn : n ≤ 32) : IntKind.i64.wrap ((i : Int) * n) = (i : Int) * n ∧ IntKind.i64.wrap ((i : Int) * n + k) = (i : Int) * n + k ∧ 0 ≤ (i : Int) * n + k ∧ (i : Int) * n + k < ((n * n : Nat) : Int) ∧ ((i : Int) * n + k).toNat = i * n + k ∧ n * n ≤ 1024 := by
  have h1 := ix_lt hi hk
  have h2 : n * n ≤ 32 * 32 := Nat.mul_le_mul hn hn
  have e : (i : Int) * n = ((i * n : Nat) : Int) := by simp
  rw [e]
  refine ⟨IntWalk.i64_in _ (by omega), IntWalk.i64_in _ (by omega), by omega, by omega, by omega, by omega⟩

end Go.Proofs.Ytkifpligpobiaaa
