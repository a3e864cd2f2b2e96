/- The program's SolveChain returns what the reference's SolveChain returns, for every argument; no condition. -/
import Derived.Test.YtgjfdfmbknmpaaaRows
import Derived.Test.YtgjfdfmbknmpaaaMk
import Derived.Test.YtgjfdfmbknmpaaaCSolveChain
import Derived.Test.YtgjfdfmbknmpaaaRowLibM
set_option linter.unusedVariables false
set_option linter.unusedSimpArgs false
namespace Go.Proofs.Ytgjfdfmbknmpaaa.fnExactSolveChain
open Go.ChangeShapes Go.WideShapes Go.ChangeAt Go.RowKit Go.Joins
theorem own : ownKnob Try.prog.godebug = none := by kernel_rfl
theorem laid : laidOutB Try.prog = true := by kernel_rfl
set_option maxRecDepth 100000 in
theorem lifted (os : Os) (started : os.Started) (H : Type) (enc : TypeId × Value → H) :
    ReturnsInHanded {} Try.checked os 17 .any (Rows.fnExactSolveChainSpec.pre6 enc Try.prog Try.f17 Rows.fnExactSolveChainRow.domain false) (Rows.fnExactSolveChainSpec.post enc Try.prog Try.f17 false true false false) := by
  refine returnsInHanded_of_change (C := Try.checked) own started (by kernel_rfl) Try.func17
    (ChangeSpec.witness6 (enc := enc) (C := Try.checked) false ⟨#[], #[.agg #[.slice none 0 0, .slice none 0 0], .slice none 0 0], []⟩ 8 (by kernel_rfl) (by kernel_rfl) (by kernel_rfl) (by kernel_rfl)) ?_
  intro W base args ds gs before hval0 hW hcnd _
  have hval : ∀ (j : Nat) t v, Try.f17.params[j]? = some t → args[j]? = some v → Value.okWide Try.prog W .any base t v := hval0
  have hW' := hW
  obtain ⟨p, q, hA0, hV, rfl, hfz, hnd⟩ := hW
  have hA : DataW.TrodAll enc Try.prog W 0 (fun _ => true) true Try.f17.params.toList args.toList ds p := hA0
  rw [Try.params17] at hA hval
  obtain ⟨v0, vs0, d0, ds0, p0, q0, hargs, rfl, rfl, h0, r0⟩ := trodAll_cons hA
  obtain ⟨v1, vs1, d1, ds1, p1, q1, rfl, rfl, rfl, h1, r1⟩ := trodAll_cons r0
  obtain ⟨rfl, rfl, rfl⟩ := trodAll_nil r1
  obtain rfl : args = #[v0, v1] := by cases args; simp_all
  obtain ⟨rfl, rfl⟩ := trodVars_none hV
  have k0 := h0
  have k1 := h1
  obtain ⟨c0_0, c0_1, y0_0, y0_1, m0, rfl, -, -, hy0_0, hy0_1⟩ := open_agg2 Try.underlying24 (by kernel_rfl) (by kernel_rfl) (hval 0 24 v0 rfl rfl) h0
  obtain ⟨A0_0, n0_0, cap0_0, xs0_0, rfl, hr0_0, wf0_0⟩ := open_flt_slice Try.underlying22 Try.underlying39 (by kernel_rfl) hy0_0
  obtain ⟨A0_1, n0_1, cap0_1, xs0_1, rfl, hr0_1, wf0_1⟩ := open_flt_slice Try.underlying22 Try.underlying39 (by kernel_rfl) hy0_1
  obtain ⟨fu1, hf1⟩ := h1
  obtain ⟨a1, l1, c1, rfl⟩ := okWide_slice Try.underlying22 (hval 1 22 v1 rfl rfl)
  obtain ⟨A1, n1, cap1, xs1, es1, hr1, wf1⟩ := open_flt_slice Try.underlying22 Try.underlying39 (by kernel_rfl) hf1
  simp only [Value.slice.injEq] at es1
  obtain ⟨rfl, rfl, rfl⟩ := es1
  refine (law_SolveChain A0_0 n0_0 cap0_0 xs0_0 A0_1 n0_1 cap0_1 xs0_1 _ _ _ xs1 W hr0_0 hr0_1 hr1).mono fun e W' ⟨he, bel⟩ => ?_
  subst he
  exact ⟨_, rfl, _, _, _, [], _, [], hW', trodAll_mk1 (shut_bool Try.underlying4 _), (trodAll_cons_mk (Below.trod laid (by kernel_rfl) (of_decide_eq_true (by kernel_rfl)) k0 bel fun x hx => by have hx' := hW'.lt x (by simp [hx]); simpa using hx') (trodAll_cons_mk (Below.trod laid (by kernel_rfl) (of_decide_eq_true (by kernel_rfl)) k1 bel fun x hx => by have hx' := hW'.lt x (by simp [hx]); simpa using hx') trodAll_mk0)), rfl, bel.frame _, fun h => by cases h⟩
theorem and2 {a b : Bool} (h : a = true) (k : b = true) : (a && b) = true := by rw [h, k]; rfl
theorem lf : (Rows.fnExactSolveChainRow.lifted == Try.pinned.checked.prog.liftsFinal) = true := by
  have h : Try.pinned.checked.prog.liftsFinal = false := lifts
  rw [h]
  rfl
theorem mk : (Try.pinned.checked.prog.make == some Rows.fnExactSolveChainRow.make) = true := by
  have h : Try.pinned.checked.prog.make = some .cut := make_
  rw [h]
  rfl
theorem closed : joinedFacts Try.pinned.checked.prog 17 Try.f17 Rows.fnExactSolveChainSpec Rows.fnExactSolveChainRow = true :=
  (and2 (and2 (and2 (and2 (and2 (and2 (and2 (and2 (and2 (and2 (and2 (and2 (and2 (and2 (and2 (and2 (and2 (and2 (and2 (and2 (and2 (and2 (and2 (and2 (and2 (and2 (and2 (and2 (and2 (and2 (and2 (by kernel_rfl) g1) g2) (by kernel_rfl)) (by kernel_rfl)) (by kernel_rfl)) g3) (by kernel_rfl)) g4) (by kernel_rfl)) (by kernel_rfl)) (by kernel_rfl)) (by kernel_rfl)) (by kernel_rfl)) (by kernel_rfl)) (by kernel_rfl)) (by kernel_rfl)) (by kernel_rfl)) (by kernel_rfl)) (by kernel_rfl)) (by kernel_rfl)) (by kernel_rfl)) (by kernel_rfl)) (by kernel_rfl)) g5) may) lf) mk) (by kernel_rfl)) (by kernel_rfl)) (by kernel_rfl)) (by kernel_rfl))
theorem named_ : Try.pinned.checked.prog.funcNamed Rows.fnExactSolveChainRow.func = some 17 := by kernel_rfl
theorem over : Rows.fnExactSolveChainRow.holds Try.pinned (OpenSpec.ofChange Rows.fnExactSolveChainSpec) :=
  OpenClaim.holds_of_wide 17 Try.f17 rfl rfl rfl rfl rfl rfl rfl ⟨rfl, rfl, rfl, rfl, rfl⟩ rfl rfl rfl rfl rfl named_ Try.func17 closed
    (of_decide_eq_true (by kernel_rfl)) (by unfold Func.isWrapper; first | (rw [if_pos (by decide +kernel)]; kernel_rfl) | (rw [if_neg (by decide +kernel)]; exact ⟨rfl, rfl⟩))
    (fun os started H enc _ => lifted os started H enc)
end Go.Proofs.Ytgjfdfmbknmpaaa.fnExactSolveChain
namespace Go.Proofs.Ytgjfdfmbknmpaaa
theorem fnExactSolveChain_holds : Rows.FnExactSolveChainSaid := fnExactSolveChain.over
#print axioms fnExactSolveChain_holds
end Go.Proofs.Ytgjfdfmbknmpaaa

