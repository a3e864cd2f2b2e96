
import Derived.Test.YtkifpligpobiaaaProg

import Derived.Test.YtkifpligpobiaaaLib

import Derived.Deep.QuietTactic

import Derived.BigQuiet

import Derived.Deep.RegionHeld3

import Derived.Deep.DeepCutAuto

import Derived.KernelRfl

import Derived.Shelf.Abstract
set_option linter.unusedVariables false
set_option linter.unusedSimpArgs false

namespace Go.Proofs.Ytkifpligpobiaaa

open Go.RowKit

set_option maxHeartbeats 400000 in
theorem inRange_any (n lo hi : Int) (w : World) :
    Calls Try.prog 107 #[.int .i64 n, .int .i64 lo, .int .i64 hi] w fun e w' => e = .returned (.bool (inR lo n hi)) ∧ w = w' := by
  by_cases h1 : lo ≤ n
  all_goals
    go_enter Try.func107, Try.ntmps107
    go_wp2
    go_ret
    exact ⟨by simp [inR]; omega, rfl⟩

set_option maxHeartbeats 400000 in
theorem allIn1_any (n lo hi : Int) (p q : Addr) (w : World) (hp : w.cell? p = some (.int .i64 lo)) (hq : w.cell? q = some (.int .i64 hi)) :
    Calls Try.prog 142 #[.int .i64 n, .pointer (some p), .pointer (some q)] w fun e w' => e = .returned (.bool (!(inR lo n hi))) ∧ w = w' := by
  go_enter Try.func142, Try.ntmps142
  go_wp2_with (go_at_call 107; refine (inRange_any _ _ _ _).mono ?_; rintro e w' ⟨rfl, rfl⟩)
  go_ret
  exact ⟨rfl, rfl⟩


set_option maxHeartbeats 1000000 in
theorem indexFunc_any (g : Nat) (lb : Array Value) (eg : ∀ args w, (callFunc g args).run Try.prog w = .ok (.enter g args) w) (A : Option Addr) (n cap : Nat) (xs : List Int) (p : Int → Bool) (w : World)
    (hp : Hid (∀ (x : Int) (W : World), Ext w W → Calls Try.prog g (#[.int .i64 x] ++ lb) W fun e w' => e = .returned (.bool (p x)) ∧ Ext W w'))
    (hr : Rds w A n (ints xs)) :
    Calls Try.prog 163 #[.slice A n cap, .func (.func g) #[] lb] w fun e w' => e = .returned (.int .i64 (idxI p xs)) ∧ Ext w w' := by
  have hs := hr.small
  go_enter Try.func163, Try.ntmps163
  go_wp2_with fail
  go_loopw [8] (fun i wr => ∃ k : Nat, k ≤ n ∧ i = .int .i64 k ∧ Hid (∀ j, j < k → p (rd xs j) = false) ∧ Ext w wr) (fun i _ => n - (intOf i).toNat)
  case atStart => exact ⟨0, Nat.zero_le _, rfl, fun j hj => by omega, Ext.refl _⟩
  case round =>
    obtain ⟨k, hk, rfl, hno, hb⟩ := hrel
    by_cases hlt : k < n
    · obtain ⟨ad, rfl, hc⟩ := (hr.below hb).intN k hlt
      go_wp2_with fail
      refine (hp.out (rd xs k) wr hb).mono ?_
      rintro e w1 ⟨rfl, hb1⟩
      by_cases hpk : p (rd xs k) = true
      · go_wp2_with fail
        go_ret
        exact ⟨ret_int (idxI_hit (by rw [hr.ilen]; exact hlt) hno.out hpk).symm, hb.trans hb1⟩
      · go_wp2_with fail
        go_roundw
        case rel => exact ⟨k + 1, by omega, by go_num, fun j hj => if e : j = k then by subst e; simpa using hpk else hno.out j (by omega), hb.trans hb1⟩
        case measure => simp [intOf]; omega
    · go_wp2_with fail
      go_ret
      exact ⟨ret_int (idxI_none fun j hj => hno.out j (by rw [hr.ilen] at hj; omega)).symm, hb⟩

set_option maxHeartbeats 1000000 in
theorem containsFunc_any (g : Nat) (lb : Array Value) (eg : ∀ args w, (callFunc g args).run Try.prog w = .ok (.enter g args) w) (A : Option Addr) (n cap : Nat) (xs : List Int) (p : Int → Bool) (w : World)
    (hp : Hid (∀ (x : Int) (W : World), Ext w W → Calls Try.prog g (#[.int .i64 x] ++ lb) W fun e w' => e = .returned (.bool (p x)) ∧ Ext W w'))
    (hr : Rds w A n (ints xs)) :
    Calls Try.prog 141 #[.slice A n cap, .func (.func g) #[] lb] w fun e w' => e = .returned (.bool (xs.any p)) ∧ Ext w w' := by
  go_enter Try.func141, Try.ntmps141
  go_wp2_with fail
  refine (indexFunc_any g lb eg A n cap xs p w hp hr).mono ?_
  rintro e w1 ⟨rfl, hb1⟩
  go_wp2_with fail
  go_ret
  exact ⟨ret_bool (idxI_any p xs), hb1⟩

set_option maxHeartbeats 1000000 in
theorem allIn_any (A : Option Addr) (n cap : Nat) (xs : List Int) (lo hi : Int) (w : World) (hr : Rds w A n (ints xs)) :
    Calls Try.prog 109 #[.slice A n cap, .int .i64 lo, .int .i64 hi] w fun e w' => e = .returned (.bool (xs.all fun x => inR lo x hi)) ∧ Ext w w' := by
  go_enter Try.func109, Try.ntmps109
  go_wp2_with fail
  have hb0 : Ext w ((w.alloc (.cells #[.int .i64 lo] 2)).alloc (.cells #[.int .i64 hi] 2)) := ((Ext.refl _).alloc _).alloc _
  refine (containsFunc_any 142 _ (enters_of Try.func142 (by kernel_rfl) rfl) A n cap xs (fun x => !(inR lo x hi)) _ (fun x W hW => ?_) (hr.below hb0)).mono ?_
  · have := bcell hW
    refine (allIn1_any x lo hi _ _ W ?_ ?_).mono ?_
    · rw [this.1 _ _ (by simp; omega)]; simp
    · rw [this.1 _ _ (by simp)]; simp
    · rintro e w' ⟨rfl, rfl⟩; exact ⟨rfl, Ext.refl _⟩
  · rintro e w1 ⟨rfl, hb1⟩
    go_wp2_with fail
    go_ret
    exact ⟨ret_bool (by simp [List.any_eq_not_all_not]), hb0.trans hb1⟩

end Go.Proofs.Ytkifpligpobiaaa
