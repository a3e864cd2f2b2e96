
/- SparseFrom: what is answered. -/

import Derived.Test.YtkifpligpobiaaaEN2

import Derived.Test.YtkifpligpobiaaaK9
set_option linter.unusedVariables false
set_option linter.unusedSimpArgs false

namespace Go.Proofs.Ytkifpligpobiaaa

open Go.RowKit

theorem accE_tb {n : Nat} {M : Sqr} {i j : Nat} {v : Option Nat} (hi : i < n) (hj : j < n) : (tb n M).set (i * n + j) true = tb n (accM M i j v) :=
  tb_set hi hj (by unfold accM; rw [updM_same]; rfl) (fun a b h => by unfold accM; rw [updM_other _ h])
theorem accE_nb {n : Nat} {M : Sqr} {i j : Nat} {v x : Option Nat} (hi : i < n) (hj : j < n) (hx : x = fadd ((M i j).getD (some 0)) v) : (nb n M).set (i * n + j) x = nb n (accM M i j v) :=
  nb_set hi hj (by unfold accM; rw [updM_same, hx]; rfl) (fun a b h => by unfold accM; rw [updM_other _ h])
/-- May an entry be told? -/
def entOk (sd : Int) (e : Ent) : Bool := inR 0 e.1 (sd - 1) && inR 0 e.2.1 (sd - 1) && isFin .f32 e.2.2
/-- The sums of the first entries. -/
def frmM (es : List Ent) : Nat → Sqr
  | 0 => noneM
  | k + 1 => accM (frmM es k) (rdE es k).1.toNat (rdE es k).2.1.toNat (c32 (rdE es k).2.2)
noncomputable def fromD (sd : Int) (es : List Ent) : SD := if inR 1 sd 32 && decide (es.length ≤ 512) && es.all (entOk sd) then giveSp sd.toNat (frmM es es.length) else SD.bad
theorem fromD_side {sd : Int} {es : List Ent} (h : inR 1 sd 32 = false) : fromD sd es = SD.bad := by unfold fromD; rw [h]; rfl
theorem fromD_long {sd : Int} {es : List Ent} (h : ¬ es.length ≤ 512) : fromD sd es = SD.bad := by unfold fromD; rw [decide_eq_false h, Bool.and_false]; rfl
theorem fromD_ent {sd : Int} {es : List Ent} {k : Nat} (hk : k < es.length) (h : entOk sd (rdE es k) = false) : fromD sd es = SD.bad := by
  have ha : es.all (entOk sd) = false := by
    cases e : es.all (entOk sd) with
    | false => rfl
    | true =>
      rw [List.all_eq_true] at e
      have := e (es[k]) (List.getElem_mem _)
      rw [← rdE_get hk, h] at this
      cases this
  unfold fromD
  rw [ha, Bool.and_false]
  rfl
theorem fromD_good {N : Nat} {es : List Ent} (h1 : inR 1 (N : Int) 32 = true) (h2 : es.length ≤ 512) (h3 : ∀ k, k < es.length → entOk N (rdE es k) = true) : fromD N es = giveSp N (frmM es es.length) := by
  have ha : es.all (entOk N) = true := by
    rw [List.all_eq_true]
    intro e he
    obtain ⟨k, hk, rfl⟩ := List.getElem_of_mem he
    rw [← rdE_get hk]
    exact h3 k hk
  unfold fromD
  rw [h1, decide_eq_true h2, ha, Int.toNat_natCast]
  rfl
theorem entOk_1 {sd r c : Int} {x : Nat} (h : inR 0 r (sd - 1) = false) : entOk sd (r, c, x) = false := by unfold entOk; simp only []; rw [h]; rfl
theorem entOk_2 {sd r c : Int} {x : Nat} (h : inR 0 c (sd - 1) = false) : entOk sd (r, c, x) = false := by unfold entOk; simp only []; rw [h, Bool.and_false]; rfl
theorem entOk_3 {sd r c : Int} {x : Nat} (h : isFin .f32 x = false) : entOk sd (r, c, x) = false := by unfold entOk; simp only []; rw [h, Bool.and_false]
theorem entOk_ok {sd r c : Int} {x : Nat} (h1 : inR 0 r (sd - 1) = true) (h2 : inR 0 c (sd - 1) = true) (h3 : isFin .f32 x = true) : entOk sd (r, c, x) = true := by unfold entOk; simp only []; rw [h1, h2, h3]; rfl

end Go.Proofs.Ytkifpligpobiaaa
