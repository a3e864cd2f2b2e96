
import Derived.Test.YtkifpligpobiaaaM6

import Derived.Test.YtkifpligpobiaaaB1
set_option linter.unusedVariables false
set_option linter.unusedSimpArgs false

namespace Go.Proofs.Ytkifpligpobiaaa

open Go.RowKit

/-- A row of the call's own comes back. -/
def RetFlts (w : World) (n : Nat) (xs : List Nat) (e : Ending) (w' : World) : Prop := ∃ A c, e = .returned (.slice A n c) ∧ Own w' w.heap.size 43 (.slice A n c) (flts xs) ∧ Ext w w'
set_option maxHeartbeats 400000 in
theorem szFloat32S_any (A : Option Addr) (n cap : Nat) (left : Int) (hl : 0 ≤ left ∧ left ≤ 1048576) (hn : n ≤ 9223372036854775807) (w : World) :
    Calls Try.prog 70 #[.slice A n cap, .int .i64 left] w fun e w' => e = .returned (.int .i64 (szL n left)) ∧ w = w' := by
  by_cases h : left - n < 0
  all_goals
    go_enter Try.func70, Try.ntmps70
    go_wp2
    go_ret
    exact ⟨ret_int (by unfold szL; first | rw [if_pos h] | rw [if_neg (by omega)]), rfl⟩

set_option maxHeartbeats 1000000 in
theorem toFloat32S_any (A : Option Addr) (n cap : Nat) (xs : List Nat) (w : World) (hr : Rds w A n (flts xs)) (hn : n ≤ 1048576) :
    Calls Try.prog 77 #[.slice A n cap] w (RetFlts w n xs) := by
  have hl := hr.flen
  have hmk := run_make_row' (P := Try.prog) 23 43 (.float .f32 0) 4 Try.underlying23 info_f32 rfl .i64 .i64 n (by omega) (by omega)
  go_enter Try.func77, Try.ntmps77
  go_wp2_with fail
  clear hmk
  have hx0 : Ext w (w.alloc (.cells (madeCells #[.float .f32 0] n) 43)) := (Ext.refl _).alloc _
  have hown0 := Own.made w 43 (.float .f32 0) n rfl hn
  go_loopw [4] (fun i wr => ∃ k : Nat, k ≤ n ∧ i = .int .i64 k ∧ Own wr w.heap.size 43 (.slice (some ⟨w.heap.size, 0, none⟩) n n) (flts (upto xs k n 0)) ∧ Ext w wr) (fun i _ => n - (intOf i).toNat)
  case atStart => exact ⟨0, Nat.zero_le _, rfl, by rw [upto_zero, flts_replicate]; exact hown0, hx0⟩
  case round =>
    clear hown0 hx0
    obtain ⟨k, hk, rfl, hown, hx⟩ := hrel
    by_cases hlt : k < n
    · obtain ⟨ad, rfl, hc⟩ := (hr.below hx).fltN k hlt
      obtain ⟨hcell, hfr⟩ := hown.at_ k hlt
      rw [flts_get (by rw [upto_length hl hk]; exact hlt)] at hcell
      have hst := store_f32 Try.prog (rdf xs k) hcell hfr
      go_wp2_with fail
      go_roundw
      case rel =>
        obtain ⟨h1, h2⟩ := hown.stored k (.float .f32 (rdf xs k))
        refine ⟨k + 1, by omega, by go_num, ?_, h2.ext hx hown⟩
        rw [← upto_set hl hlt 0 (rdf xs k) (by rw [rdf_get (by omega)]; simp), flts_set]
        exact h1
      case measure => simp [intOf]; omega
    · obtain rfl : k = n := by omega
      go_wp2_with fail
      go_ret
      exact ⟨_, _, rfl, by rwa [upto_all hl] at hown, hx⟩

theorem order64_cf {x y z : Nat} (h : cf .f64 x = cf .f64 y) : FloatKind.f64.format.order x z = FloatKind.f64.format.order y z := by
  cases h1 : cf .f64 x with
  | none => rw [order_nan h1, order_nan (h ▸ h1)]
  | some a =>
    obtain ⟨rfl, _⟩ := cf_some h1
    obtain ⟨rfl, _⟩ := cf_some (h ▸ h1 : cf .f64 y = some x)
    rfl
set_option maxHeartbeats 1000000 in
theorem sameFloat_any (x y : Nat) (h : cf .f64 x = cf .f64 y) (w : World) :
    Calls Try.prog 41 #[.float .f64 x, .float .f64 y] w fun e w' => e = .returned (.bool true) ∧ Ext w w' := by
  have n1 := order_ne .f64 x
  have n2 := order_ne .f64 y
  cases hc : cf .f64 x with
  | none =>
    have hc' := h ▸ hc
    rw [hc] at n1
    rw [hc'] at n2
    clear hc hc' h
    go_enter Try.func41, Try.ntmps41
    go_wp2_with fail
    go_ret
    exact ⟨rfl, Ext.refl _⟩
  | some a =>
    obtain ⟨rfl, hn⟩ := cf_some hc
    obtain ⟨rfl, _⟩ := cf_some (h ▸ hc : cf .f64 y = some x)
    have he := order_self hn
    rw [hc] at n1
    clear n2 hc h
    obtain ⟨r1, w1, hr1, hx1, hc1⟩ := run_fop (P := Try.prog) w .quo (.inr (.inr (.inr rfl))) 47 .f64 4607182418800017408 y
    obtain ⟨r2, w2, hr2, hx2, hc2⟩ := run_fop (P := Try.prog) w1 .quo (.inr (.inr (.inr rfl))) 47 .f64 4607182418800017408 y
    have hoo := order64_cf (z := 0) (hc1.trans hc2.symm)
    clear hc1 hc2
    have hbb : ((FloatKind.f64.format.order r2 0 == some .gt) == (FloatKind.f64.format.order r2 0 == some .gt)) = true := beq_self_eq_true _
    cases hz : (FloatKind.f64.format.order y 0 == some .eq) with
    | true =>
      go_enter Try.func41, Try.ntmps41
      go_wp2_with (first | simp only [hr1] | simp only [hr2])
      go_ret
      exact ⟨ret_bool (by first | rfl | exact hbb), hx1.trans hx2⟩
    | false =>
      clear hr1 hr2 hoo hbb
      go_enter Try.func41, Try.ntmps41
      go_wp2_with fail
      go_ret
      exact ⟨ret_bool (by first | rfl | (rw [he]; rfl)), Ext.refl _⟩

end Go.Proofs.Ytkifpligpobiaaa
