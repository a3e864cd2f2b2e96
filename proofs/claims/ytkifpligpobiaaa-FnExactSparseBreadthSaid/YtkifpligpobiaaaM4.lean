
import Derived.Test.YtkifpligpobiaaaM3

import Derived.Test.YtkifpligpobiaaaA1

import Derived.Test.YtkifpligpobiaaaP1
set_option linter.unusedVariables false
set_option linter.unusedSimpArgs false

namespace Go.Proofs.Ytkifpligpobiaaa

open Go.RowKit

set_option maxHeartbeats 400000 in
theorem l00In_any (n lo hi : Int) (w : World) :
    Calls Try.prog 111 #[.int .i64 n, .int .i64 lo, .int .i64 hi] w fun e w' => e = .returned (.bool (inR lo n hi)) ∧ w = w' := by
  by_cases h1 : lo ≤ n
  all_goals
    go_enter Try.func111, Try.ntmps111
    go_wp2
    go_ret
    exact ⟨by simp [inR]; omega, rfl⟩
/-- Where the first one is of which p holds; -1. -/
def idxF (p : Nat → Bool) (xs : List Nat) : Int := match xs.findIdx? p with | some i => i | none => -1
theorem idxF_hit {p : Nat → Bool} {xs : List Nat} {k : Nat} (h : k < xs.length) (hno : ∀ j, j < k → p (rdf xs j) = false) (hk : p (rdf xs k) = true) : idxF p xs = k := by
  unfold idxF
  have : xs.findIdx? p = some k := by
    rw [List.findIdx?_eq_some_iff_getElem]
    refine ⟨h, by rw [← rdf_get h]; exact hk, fun j hj => ?_⟩
    rw [← rdf_get (by omega), hno j hj]; simp
  rw [this]
theorem idxF_none {p : Nat → Bool} {xs : List Nat} (hno : ∀ j, j < xs.length → p (rdf xs j) = false) : idxF p xs = -1 := by
  unfold idxF
  have : xs.findIdx? p = none := by
    rw [List.findIdx?_eq_none_iff]
    intro x hx
    obtain ⟨j, hj, rfl⟩ := List.mem_iff_getElem.1 hx
    rw [← rdf_get hj]; exact hno j hj
  rw [this]
theorem idxF_any (p : Nat → Bool) (xs : List Nat) : decide (0 ≤ idxF p xs) = xs.any p := by
  unfold idxF
  cases h : xs.findIdx? p with
  | none =>
    rw [List.findIdx?_eq_none_iff] at h
    simp only [Int.reduceNeg, Int.reduceLE, decide_false]
    rw [Eq.comm, List.any_eq_false]
    intro x hx; simp [h x hx]
  | some i =>
    rw [List.findIdx?_eq_some_iff_getElem] at h
    obtain ⟨hi, hp, _⟩ := h
    simp only [Int.natCast_nonneg, decide_true]
    rw [Eq.comm, List.any_eq_true]
    exact ⟨_, List.getElem_mem hi, hp⟩

set_option maxHeartbeats 1000000 in
theorem indexFuncF_any (g : Nat) (lb : Array Value) (eg : ∀ args w, (callFunc g args).run Try.prog w = .ok (.enter g args) w) (A : Option Addr) (n cap : Nat) (xs : List Nat) (p : Nat → Bool) (w : World)
    (hp : Hid (∀ (x : Nat) (W : World), Ext w W → Calls Try.prog g (#[.float .f32 x] ++ lb) W fun e w' => e = .returned (.bool (p x)) ∧ Ext W w'))
    (hr : Rds w A n (flts xs)) :
    Calls Try.prog 164 #[.slice A n cap, .func (.func g) #[] lb] w fun e w' => e = .returned (.int .i64 (idxF p xs)) ∧ Ext w w' := by
  have hs := hr.small
  go_enter Try.func164, Try.ntmps164
  go_wp2_with fail
  go_loopw [8] (fun i wr => ∃ k : Nat, k ≤ n ∧ i = .int .i64 k ∧ Hid (∀ j, j < k → p (rdf xs j) = false) ∧ Ext w wr) (fun i _ => n - (intOf i).toNat)
  case atStart => exact ⟨0, Nat.zero_le _, rfl, fun j hj => by omega, Ext.refl _⟩
  case round =>
    obtain ⟨k, hk, rfl, hno, hb⟩ := hrel
    by_cases hlt : k < n
    · obtain ⟨ad, rfl, hc⟩ := (hr.below hb).fltN k hlt
      go_wp2_with fail
      refine (hp.out (rdf xs k) wr hb).mono ?_
      rintro e w1 ⟨rfl, hb1⟩
      by_cases hpk : p (rdf xs k) = true
      · go_wp2_with fail
        go_ret
        exact ⟨ret_int (idxF_hit (by rw [hr.flen]; exact hlt) hno.out hpk).symm, hb.trans hb1⟩
      · go_wp2_with fail
        go_roundw
        case rel => exact ⟨k + 1, by omega, by go_num, fun j hj => if e : j = k then by subst e; simpa using hpk else hno.out j (by omega), hb.trans hb1⟩
        case measure => simp [intOf]; omega
    · go_wp2_with fail
      go_ret
      exact ⟨ret_int (idxF_none fun j hj => hno.out j (by rw [hr.flen] at hj; omega)).symm, hb⟩

set_option maxHeartbeats 1000000 in
theorem containsFuncF_any (g : Nat) (lb : Array Value) (eg : ∀ args w, (callFunc g args).run Try.prog w = .ok (.enter g args) w) (A : Option Addr) (n cap : Nat) (xs : List Nat) (p : Nat → Bool) (w : World)
    (hp : Hid (∀ (x : Nat) (W : World), Ext w W → Calls Try.prog g (#[.float .f32 x] ++ lb) W fun e w' => e = .returned (.bool (p x)) ∧ Ext W w'))
    (hr : Rds w A n (flts xs)) :
    Calls Try.prog 143 #[.slice A n cap, .func (.func g) #[] lb] w fun e w' => e = .returned (.bool (xs.any p)) ∧ Ext w w' := by
  go_enter Try.func143, Try.ntmps143
  go_wp2_with fail
  refine (indexFuncF_any g lb eg A n cap xs p w hp hr).mono ?_
  rintro e w1 ⟨rfl, hb1⟩
  go_wp2_with fail
  go_ret
  exact ⟨ret_bool (idxF_any p xs), hb1⟩

set_option maxHeartbeats 400000 in
theorem areFinite1_any (x : Nat) (w : World) :
    Calls Try.prog 144 #[.float .f32 x] w fun e w' => e = .returned (.bool (!isFin .f32 x)) ∧ Ext w w' := by
  go_enter Try.func144, Try.ntmps144
  go_wp2_with fail
  refine (IsFinite_any x _).mono ?_
  rintro e w1 ⟨rfl, hx⟩
  go_wp2_with fail
  go_ret
  exact ⟨rfl, hx⟩
set_option maxHeartbeats 1000000 in
theorem areFinite_any (A : Option Addr) (n cap : Nat) (xs : List Nat) (w : World) (hr : Rds w A n (flts xs)) :
    Calls Try.prog 110 #[.slice A n cap] w fun e w' => e = .returned (.bool (finL xs)) ∧ Ext w w' := by
  have hall : (!xs.any fun x => !isFin .f32 x) = finL xs := by simp [finL, List.any_eq_not_all_not]
  go_enter Try.func110, Try.ntmps110
  go_wp2_with fail
  refine (containsFuncF_any 144 #[] (enters_of Try.func144 (by kernel_rfl) rfl) A n cap xs (fun x => !isFin .f32 x) _ (fun x W _ => areFinite1_any x W) hr).mono ?_
  rintro e w1 ⟨rfl, hb1⟩
  go_wp2_with fail
  go_ret
  exact ⟨ret_bool (by first | rfl | exact hall), hb1⟩

set_option maxHeartbeats 1000000 in
theorem l02Finite_any (A : Option Addr) (n cap : Nat) (xs : List Nat) (w : World) (hr : Rds w A n (flts xs)) :
    Calls Try.prog 127 #[.slice A n cap] w fun e w' => e = .returned (.bool (finL xs)) ∧ Ext w w' := by
  have hl := hr.flen
  have hs := hr.small
  obtain ⟨res, hres⟩ : ∃ res, res = finL xs := ⟨_, rfl⟩
  rw [← hres]
  have Hres := Lib.hid hres
  clear hres
  go_enter Try.func127, Try.ntmps127
  go_wp2_with fail
  go_loopw [3] (fun i wr => ∃ k : Nat, k ≤ n ∧ i = .int .i64 k ∧ Hid (∀ j, j < k → isFin .f32 (rdf xs j) = true) ∧ Ext w wr) (fun i _ => n - (intOf i).toNat)
  case atStart => exact ⟨0, Nat.zero_le _, rfl, fun j hj => by omega, Ext.refl _⟩
  case round =>
    obtain ⟨k, hk, rfl, hall, hx⟩ := hrel
    by_cases hlt : k < n
    · obtain ⟨ad, rfl, hc⟩ := (hr.below hx).fltN k hlt
      cases hin : isFin .f32 (rdf xs k) with
      | true =>
        go_wp2_with fail
        refine (l01Finite_any _ _).mono ?_
        rintro e w1 ⟨rfl, hx1⟩
        rw [hin]
        go_wp2_with fail
        go_roundw
        case rel => exact ⟨k + 1, by omega, by go_num, fun j hj => if e : j = k then (by subst e; exact hin) else hall.out j (by omega), hx.trans hx1⟩
        case measure => simp [intOf]; omega
      | false =>
        go_wp2_with fail
        refine (l01Finite_any _ _).mono ?_
        rintro e w1 ⟨rfl, hx1⟩
        rw [hin]
        go_wp2_with fail
        go_ret
        refine ⟨ret_bool ?_, hx.trans hx1⟩
        rw [Hres.out, Eq.comm]
        unfold finL
        rw [List.all_eq_false]
        exact ⟨_, List.getElem_mem (show k < xs.length by omega), by rw [← rdf_get, hin]; simp⟩
    · go_wp2_with fail
      go_ret
      refine ⟨ret_bool ?_, hx⟩
      rw [Hres.out, Eq.comm]
      unfold finL
      rw [List.all_eq_true]
      intro x hx'
      obtain ⟨j, hj, rfl⟩ := List.mem_iff_getElem.1 hx'
      have := hall.out j (by omega)
      rwa [rdf_get hj] at this

end Go.Proofs.Ytkifpligpobiaaa
