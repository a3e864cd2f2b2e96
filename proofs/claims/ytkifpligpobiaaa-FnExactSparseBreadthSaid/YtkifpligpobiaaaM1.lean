
import Derived.Test.YtkifpligpobiaaaProg

import Derived.Test.YtkifpligpobiaaaF0

import Derived.Deep.QuietTactic

import Derived.BigQuiet

import Derived.Deep.RegionHeld3

import Derived.Deep.DeepCutAuto

import Derived.KernelRfl

import Derived.Shelf.Abstract
set_option linter.unusedVariables false
set_option linter.unusedSimpArgs false

namespace Go.Proofs.Ytkifpligpobiaaa

open Go.RowKit

set_option maxHeartbeats 1000000 in
theorem l01Finite_any (x : Nat) (w : World) :
    Calls Try.prog 116 #[.float .f32 x] w fun e w' => e = .returned (.bool (isFin .f32 x)) ∧ Ext w w' := by
  go_enter Try.func116, Try.ntmps116
  go_wp2_with ((with_reducible refine at_dst (N := 5) rfl ?_); go_loud (refine wpList_fop rfl BinOp.sub (Or.inr (Or.inl rfl)) 43 43 _ _ rfl FloatKind.f32 x x rfl rfl ?_); intro r w1 hx1 hc; replace hc := fin_sub hc)
  go_ret
  exact ⟨rfl, hx1⟩

end Go.Proofs.Ytkifpligpobiaaa
