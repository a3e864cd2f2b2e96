
import Derived.Test.YtkifpligpobiaaaM1

import Derived.Test.YtkifpligpobiaaaF1
set_option linter.unusedVariables false
set_option linter.unusedSimpArgs false

namespace Go.Proofs.Ytkifpligpobiaaa

open Go.RowKit

set_option maxHeartbeats 1000000 in
theorem mathIsNaN_any (x : Nat) (w : World) :
    Calls Try.prog 165 #[.float .f64 x] w fun e w' => e = .returned (.bool (cf .f64 x).isNone) ∧ w = w' := by
  have hn := order_ne .f64 x
  go_enter Try.func165, Try.ntmps165
  go_wp2_with fail
  go_ret
  exact ⟨ret_bool (by first | rfl | exact hn), rfl⟩

/-- A function of the library without a body that answers at once. -/
theorem run_extern {P : Program} {f : FuncId} {fn : Func} {e : Array Value → Sem Value} (hf : P.funcs[f]? = some fn) (hname : (fn.name == "runtime.NumGoroutine") = false) (hb : fn.body.isNone = true) (hn : Extern.findNext fn = none) (he : Extern.find fn = some e)
    (args : Array Value) (w w' : World) (v : Value) (hv : (e args).run P w = .ok v w') : (callFunc f args).run P w = .ok (.value v) w' := by
  have h1 : ¬ fn.name = "runtime.NumGoroutine" := by simpa using hname
  have h2 : fn.body = none := by simpa using hb
  unfold callFunc
  simp [Sem.run_bind, hf, h1, h2, hn, he, hv]

theorem bits64_run (x : Nat) (w : World) : (callFunc 171 #[.float .f64 x]).run Try.prog w = .ok (.value (.int .u64 x)) w :=
  run_extern Try.func171 (by kernel_rfl) (by kernel_rfl) (by kernel_rfl) (e := Extern.MathFloatBits.float64bits) (by kernel_rfl) _ w w _ rfl
theorem frombits64_run (n : Int) (w : World) : (callFunc 187 #[.int .u64 n]).run Try.prog w = .ok (.value (.float .f64 n.toNat)) w :=
  run_extern Try.func187 (by kernel_rfl) (by kernel_rfl) (by kernel_rfl) (e := Extern.MathFloatBits.float64frombits) (by kernel_rfl) _ w w _ rfl

end Go.Proofs.Ytkifpligpobiaaa
