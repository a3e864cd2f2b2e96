
/- Conversions as operations of a region that draws. Nothing of the program. -/

import Derived.Test.YtkifpligpobiaaaT0
set_option linter.unusedVariables false
set_option linter.unusedSimpArgs false

namespace Go.Proofs.Ytkifpligpobiaaa

open Go.RowKit

theorem gives_widen {P : Program} {w : World} {R : Value → World → Prop} {o : Oper} {ev : Operand → Value} (src dst : TypeId) (s : Operand) (ho : o.op = .convert src dst s) (x : Nat) (hs : ev s = .float .f32 x)
    (h1 : P.underlying src = some (.float .f32)) (h2 : P.underlying dst = some (.float .f64)) (h : ∀ r w', Ext w w' → cf .f64 r = wide x → R (.float .f64 r) w') : Gives P R ((execOp ev o).run P w) := by
  obtain ⟨r, w', hr, hx, hc, hlt⟩ := run_widen (P := P) src dst x w (by rw [h1]; rfl) h2
  have e : (execOp ev o).run P w = .ok (.value (.float .f64 r)) w' := by
    unfold execOp
    simp only [ho]
    rw [hs]
    simp only [Sem.run_bind, hr, Result.andThen_ok, Sem.run_pure]
  exact gives_value' e (h r w' hx hc)
theorem ex_wide (x : Nat) : ∃ r, cf .f64 r = wide x := by
  cases h : wide x with
  | none => exact ⟨_, cf_nan .f64 0 0 0⟩
  | some y => exact ⟨y, (wide_cf h).1⟩
/-- A float operation of a region that draws. -/
theorem gives_f {P : Program} {w : World} {R : Value → World → Prop} {o : Oper} {ev : Operand → Value} (op : BinOp) (hop : op = .add ∨ op = .sub ∨ op = .mul ∨ op = .quo) (t u : TypeId) (s x : Operand)
    (ho : o.op = .binOp op t s x u) (b c : Nat) (hs : ev s = .float .f32 b) (hx : ev x = .float .f32 c) (d : Option Nat) (hd : fop op .f32 (c32 b) (c32 c) = d)
    (h : ∀ r w', Ext w w' → c32 r = d → R (.float .f32 r) w') : Gives P R ((execOp ev o).run P w) :=
  gives_fop op hop t u s x ho .f32 b c hs hx (fun r w' h1 h2 => h r w' h1 (h2.trans hd))
theorem ex_d (op : BinOp) {a b d : Option Nat} (hd : fop op .f32 a b = d) : ∃ r, c32 r = d := by rw [← hd]; exact ex_fop op a b

/-- The one cell of a block, a float that is told up to a NaN's bits. -/
def OneF (w : World) (v : Value) (d : Option Nat) (e : TypeId) : Prop := ∃ r, c32 r = d ∧ One w v (.float .f32 r) e
theorem OneF.ext {w w' : World} {v : Value} {d : Option Nat} {e : TypeId} (h : OneF w v d e) (hx : Ext w w') : OneF w' v d e := let ⟨r, hr, ho⟩ := h; ⟨r, hr, ho.ext hx⟩

end Go.Proofs.Ytkifpligpobiaaa
