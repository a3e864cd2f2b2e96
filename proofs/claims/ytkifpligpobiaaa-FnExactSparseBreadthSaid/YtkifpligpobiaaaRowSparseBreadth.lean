
/- The program's SparseBreadth returns what the reference's SparseBreadth returns, for every argument; no condition. -/
import Derived.Test.YtkifpligpobiaaaRows
import Derived.Test.YtkifpligpobiaaaMk
import Derived.Test.YtkifpligpobiaaaCSparseBreadth
import Derived.Test.YtkifpligpobiaaaRowLibS
set_option linter.unusedVariables false
set_option linter.unusedSimpArgs false
namespace Go.Proofs.Ytkifpligpobiaaa.fnExactSparseBreadth
open Go.ChangeShapes Go.WideShapes Go.ChangeAt Go.RowKit Go.Joins
theorem own : ownKnob Try.prog.godebug = none := by kernel_rfl
theorem laid : laidOutB Try.prog = true := by kernel_rfl
set_option maxRecDepth 100000 in
theorem lifted (os : Os) (started : os.Started) (H : Type) (enc : TypeId × Value → H) :
    ReturnsInHanded {} Try.checked os 6 .any (Rows.fnExactSparseBreadthSpec.pre6 enc Try.prog Try.f6 Rows.fnExactSparseBreadthRow.domain false) (Rows.fnExactSparseBreadthSpec.post enc Try.prog Try.f6 false true false false) := by
  refine returnsInHanded_of_change (C := Try.checked) own started (by kernel_rfl) Try.func6
    (ChangeSpec.witness6 (enc := enc) (C := Try.checked) false ⟨#[], #[.agg #[.int .i64 0, .slice none 0 0, .slice none 0 0, .slice none 0 0]], []⟩ 8 (by kernel_rfl) (by kernel_rfl) (by kernel_rfl) (by kernel_rfl)) ?_
  intro W base args ds gs before hval0 hW hcnd _
  have hval : ∀ (j : Nat) t v, Try.f6.params[j]? = some t → args[j]? = some v → Value.okWide Try.prog W .any base t v := hval0
  have hW' := hW
  obtain ⟨p, q, hA0, hV, rfl, hfz, hnd⟩ := hW
  have hA : DataW.TrodAll enc Try.prog W 0 (fun _ => true) true Try.f6.params.toList args.toList ds p := hA0
  rw [Try.params6] at hA hval
  obtain ⟨v0, vs0, d0, ds0, p0, q0, hargs, rfl, rfl, h0, r0⟩ := trodAll_cons hA
  obtain ⟨rfl, rfl, rfl⟩ := trodAll_nil r0
  obtain rfl : args = #[v0] := by cases args; simp_all
  obtain ⟨rfl, rfl⟩ := trodVars_none hV
  have k0 := h0
  obtain ⟨c0_0, c0_1, c0_2, c0_3, y0_0, y0_1, y0_2, y0_3, m0, rfl, -, -, hy0_0, hy0_1, hy0_2, hy0_3⟩ := open_agg4 Try.underlying25 (by kernel_rfl) (by kernel_rfl) (hval 0 25 v0 rfl rfl) h0
  obtain ⟨x0_0, e0_0, -, -⟩ := DataW.trod_int Try.underlying2 hy0_0
  obtain rfl : c0_0 = _ := by simpa using e0_0
  obtain ⟨A0_1, n0_1, cap0_1, xs0_1, rfl, hr0_1⟩ := open_int_slice Try.underlying22 Try.underlying2 (by kernel_rfl) hy0_1
  obtain ⟨A0_2, n0_2, cap0_2, xs0_2, rfl, hr0_2⟩ := open_int_slice Try.underlying22 Try.underlying2 (by kernel_rfl) hy0_2
  obtain ⟨A0_3, n0_3, cap0_3, xs0_3, rfl, hr0_3, wf0_3⟩ := open_flt_slice Try.underlying23 Try.underlying43 (by kernel_rfl) hy0_3
  refine (law_SparseBreadth x0_0 A0_1 n0_1 cap0_1 xs0_1 A0_2 n0_2 cap0_2 xs0_2 A0_3 n0_3 cap0_3 xs0_3 W hr0_1 hr0_2 hr0_3).mono fun e W' ⟨he, bel⟩ => ?_
  subst he
  exact ⟨_, rfl, _, _, _, [], _, [], hW', trodAll_mk1 (shut_bool Try.underlying4 _), (trodAll_cons_mk (Below.trod laid (by kernel_rfl) (of_decide_eq_true (by kernel_rfl)) k0 bel fun x hx => by have hx' := hW'.lt x (by simp [hx]); simpa using hx') trodAll_mk0), rfl, bel.frame _, fun h => by cases h⟩
theorem and2 {a b : Bool} (h : a = true) (k : b = true) : (a && b) = true := by rw [h, k]; rfl
theorem lf : (Rows.fnExactSparseBreadthRow.lifted == Try.pinned.checked.prog.liftsFinal) = true := by
  have h : Try.pinned.checked.prog.liftsFinal = false := lifts
  rw [h]
  rfl
theorem mk : (Try.pinned.checked.prog.make == some Rows.fnExactSparseBreadthRow.make) = true := by
  have h : Try.pinned.checked.prog.make = some .cut := make_
  rw [h]
  rfl
theorem closed : joinedFacts Try.pinned.checked.prog 6 Try.f6 Rows.fnExactSparseBreadthSpec Rows.fnExactSparseBreadthRow = true :=
  (and2 (and2 (and2 (and2 (and2 (and2 (and2 (and2 (and2 (and2 (and2 (and2 (and2 (and2 (and2 (and2 (and2 (and2 (and2 (and2 (and2 (and2 (and2 (and2 (and2 (and2 (and2 (and2 (and2 (and2 (and2 (by kernel_rfl) g1) g2) (by kernel_rfl)) (by kernel_rfl)) (by kernel_rfl)) g3) (by kernel_rfl)) g4) (by kernel_rfl)) (by kernel_rfl)) (by kernel_rfl)) (by kernel_rfl)) (by kernel_rfl)) (by kernel_rfl)) (by kernel_rfl)) (by kernel_rfl)) (by kernel_rfl)) (by kernel_rfl)) (by kernel_rfl)) (by kernel_rfl)) (by kernel_rfl)) (by kernel_rfl)) (by kernel_rfl)) g5) may) lf) mk) (by kernel_rfl)) (by kernel_rfl)) (by kernel_rfl)) (by kernel_rfl))
theorem named_ : Try.pinned.checked.prog.funcNamed Rows.fnExactSparseBreadthRow.func = some 6 := by kernel_rfl
theorem over : Rows.fnExactSparseBreadthRow.holds Try.pinned (OpenSpec.ofChange Rows.fnExactSparseBreadthSpec) :=
  OpenClaim.holds_of_wide 6 Try.f6 rfl rfl rfl rfl rfl rfl rfl ⟨rfl, rfl, rfl, rfl, rfl⟩ rfl rfl rfl rfl rfl named_ Try.func6 closed
    (of_decide_eq_true (by kernel_rfl)) (by unfold Func.isWrapper; first | (rw [if_pos (by decide +kernel)]; kernel_rfl) | (rw [if_neg (by decide +kernel)]; exact ⟨rfl, rfl⟩))
    (fun os started H enc _ => lifted os started H enc)
end Go.Proofs.Ytkifpligpobiaaa.fnExactSparseBreadth
namespace Go.Proofs.Ytkifpligpobiaaa
theorem fnExactSparseBreadth_holds : Rows.FnExactSparseBreadthSaid := fnExactSparseBreadth.over
#print axioms fnExactSparseBreadth_holds
end Go.Proofs.Ytkifpligpobiaaa

