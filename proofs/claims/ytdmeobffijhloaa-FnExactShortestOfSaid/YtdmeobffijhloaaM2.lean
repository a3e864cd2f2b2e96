
import Derived.Test.YtdmeobffijhloaaM1

import Derived.Test.YtdmeobffijhloaaF1
set_option linter.unusedVariables false
set_option linter.unusedSimpArgs false

namespace Go.Proofs.Ytdmeobffijhloaa

open Go.RowKit

/-- A function of the library without a body that answers at once. -/
theorem run_extern {P : Program} {f : FuncId} {fn : Func} {e : Array Value → Sem Value} (hf : P.funcs[f]? = some fn) (hname : (fn.name == "runtime.NumGoroutine") = false) (hb : fn.body.isNone = true) (hn : Extern.findNext fn = none) (he : Extern.find fn = some e)
    (args : Array Value) (w w' : World) (v : Value) (hv : (e args).run P w = .ok v w') : (callFunc f args).run P w = .ok (.value v) w' := by
  have h1 : ¬ fn.name = "runtime.NumGoroutine" := by simpa using hname
  have h2 : fn.body = none := by simpa using hb
  unfold callFunc
  simp [Sem.run_bind, hf, h1, h2, hn, he, hv]

end Go.Proofs.Ytdmeobffijhloaa
