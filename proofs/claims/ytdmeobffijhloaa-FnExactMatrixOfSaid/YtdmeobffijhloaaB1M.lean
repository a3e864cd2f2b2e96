
import Derived.Test.YtdmeobffijhloaaM6
set_option linter.unusedVariables false
set_option linter.unusedSimpArgs false

namespace Go.Proofs.Ytdmeobffijhloaa

open Go.RowKit

/-- A row of the call's own comes back. -/
def RetFlts (w : World) (n : Nat) (xs : List Nat) (e : Ending) (w' : World) : Prop := ∃ A c, e = .returned (.slice A n c) ∧ Own w' w.heap.size 46 (.slice A n c) (flts xs) ∧ Ext w w'
theorem order64_cf {x y z : Nat} (h : cf .f64 x = cf .f64 y) : FloatKind.f64.format.order x z = FloatKind.f64.format.order y z := by
  cases h1 : cf .f64 x with
  | none => rw [order_nan h1, order_nan (h ▸ h1)]
  | some a =>
    obtain ⟨rfl, _⟩ := cf_some h1
    obtain ⟨rfl, _⟩ := cf_some (h ▸ h1 : cf .f64 y = some x)
    rfl
set_option maxHeartbeats 1000000 in
theorem sameFloat_any (x y : Nat) (h : cf .f64 x = cf .f64 y) (w : World) :
    Calls Try.prog 40 #[.float .f64 x, .float .f64 y] w fun e w' => e = .returned (.bool true) ∧ Ext w w' := by
  have n1 := order_ne .f64 x
  have n2 := order_ne .f64 y
  cases hc : cf .f64 x with
  | none =>
    have hc' := h ▸ hc
    rw [hc] at n1
    rw [hc'] at n2
    clear hc hc' h
    go_enter Try.func40, Try.ntmps40
    go_wp2_with fail
    go_ret
    exact ⟨rfl, Ext.refl _⟩
  | some a =>
    obtain ⟨rfl, hn⟩ := cf_some hc
    obtain ⟨rfl, _⟩ := cf_some (h ▸ hc : cf .f64 y = some x)
    have he := order_self hn
    rw [hc] at n1
    clear n2 hc h
    obtain ⟨r1, w1, hr1, hx1, hc1⟩ := run_fop (P := Try.prog) w .quo (.inr (.inr (.inr rfl))) 62 .f64 4607182418800017408 y
    obtain ⟨r2, w2, hr2, hx2, hc2⟩ := run_fop (P := Try.prog) w1 .quo (.inr (.inr (.inr rfl))) 62 .f64 4607182418800017408 y
    have hoo := order64_cf (z := 0) (hc1.trans hc2.symm)
    clear hc1 hc2
    have hbb : ((FloatKind.f64.format.order r2 0 == some .gt) == (FloatKind.f64.format.order r2 0 == some .gt)) = true := beq_self_eq_true _
    cases hz : (FloatKind.f64.format.order y 0 == some .eq) with
    | true =>
      go_enter Try.func40, Try.ntmps40
      go_wp2_with (first | simp only [hr1] | simp only [hr2])
      go_ret
      exact ⟨ret_bool (by first | rfl | exact hbb), hx1.trans hx2⟩
    | false =>
      clear hr1 hr2 hoo hbb
      go_enter Try.func40, Try.ntmps40
      go_wp2_with fail
      go_ret
      exact ⟨ret_bool (by first | rfl | (rw [he]; rfl)), Ext.refl _⟩

end Go.Proofs.Ytdmeobffijhloaa
