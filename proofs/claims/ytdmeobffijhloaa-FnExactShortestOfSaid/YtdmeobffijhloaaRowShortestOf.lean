
/- The program's ShortestOf returns what the reference's ShortestOf returns, for every argument; no condition. -/
import Derived.Test.YtdmeobffijhloaaRows
import Derived.Test.YtdmeobffijhloaaMk
import Derived.Test.YtdmeobffijhloaaCShortestOf
import Derived.Test.YtdmeobffijhloaaRowLib
set_option linter.unusedVariables false
set_option linter.unusedSimpArgs false
namespace Go.Proofs.Ytdmeobffijhloaa.fnExactShortestOf
open Go.ChangeShapes Go.WideShapes Go.ChangeAt Go.RowKit Go.Joins
theorem own : ownKnob Try.prog.godebug = none := by kernel_rfl
theorem laid : laidOutB Try.prog = true := by kernel_rfl
set_option maxRecDepth 100000 in
theorem lifted (os : Os) (started : os.Started) (H : Type) (enc : TypeId × Value → H) :
    ReturnsInHanded {} Try.checked os 4 .any (Rows.fnExactShortestOfSpec.pre6 enc Try.prog Try.f4 Rows.fnExactShortestOfRow.domain false) (Rows.fnExactShortestOfSpec.post enc Try.prog Try.f4 false true false false) := by
  refine returnsInHanded_of_change (C := Try.checked) own started (by kernel_rfl) Try.func4
    (ChangeSpec.witness6 (enc := enc) (C := Try.checked) false ⟨#[], #[.agg #[.int .i64 0, .int .i64 0, .slice none 0 0], .int .i64 0], []⟩ 8 (by kernel_rfl) (by kernel_rfl) (by kernel_rfl) (by kernel_rfl)) ?_
  intro W base args ds gs before hval0 hW hcnd _
  have hval : ∀ (j : Nat) t v, Try.f4.params[j]? = some t → args[j]? = some v → Value.okWide Try.prog W .any base t v := hval0
  have hW' := hW
  obtain ⟨p, q, hA0, hV, rfl, hfz, hnd⟩ := hW
  have hA : DataW.TrodAll enc Try.prog W 0 (fun _ => true) true Try.f4.params.toList args.toList ds p := hA0
  rw [Try.params4] at hA hval
  obtain ⟨v0, vs0, d0, ds0, p0, q0, hargs, rfl, rfl, h0, r0⟩ := trodAll_cons hA
  obtain ⟨v1, vs1, d1, ds1, p1, q1, rfl, rfl, rfl, h1, r1⟩ := trodAll_cons r0
  obtain ⟨rfl, rfl, rfl⟩ := trodAll_nil r1
  obtain rfl : args = #[v0, v1] := by cases args; simp_all
  obtain ⟨rfl, rfl⟩ := trodVars_none hV
  have k0 := h0
  have k1 := h1
  obtain ⟨c0_0, c0_1, c0_2, y0_0, y0_1, y0_2, m0, rfl, -, -, hy0_0, hy0_1, hy0_2⟩ := open_agg3 Try.underlying24 (by kernel_rfl) (by kernel_rfl) (hval 0 24 v0 rfl rfl) h0
  obtain ⟨x0_0, e0_0, -, -⟩ := DataW.trod_int Try.underlying2 hy0_0
  obtain rfl : c0_0 = _ := by simpa using e0_0
  obtain ⟨x0_1, e0_1, -, -⟩ := DataW.trod_int Try.underlying2 hy0_1
  obtain rfl : c0_1 = _ := by simpa using e0_1
  obtain ⟨A0_2, n0_2, cap0_2, xs0_2, rfl, hr0_2⟩ := open_int_slice Try.underlying22 Try.underlying2 (by kernel_rfl) hy0_2
  obtain ⟨x1, rfl, -, -, w1⟩ := open_int Try.underlying2 (hval 1 2 v1 rfl rfl) h1
  refine (law_ShortestOf x0_0 x0_1 A0_2 n0_2 cap0_2 xs0_2 x1 W hr0_2).mono fun e W' ⟨he, bel⟩ => ?_
  subst he
  exact ⟨_, rfl, _, _, _, [], _, [], hW', trodAll_mk1 (shut_bool Try.underlying4 _), (trodAll_cons_mk (Below.trod laid (by kernel_rfl) (of_decide_eq_true (by kernel_rfl)) k0 bel fun x hx => by have hx' := hW'.lt x (by simp [hx]); simpa using hx') (trodAll_cons_mk (Below.trod laid (by kernel_rfl) (of_decide_eq_true (by kernel_rfl)) k1 bel fun x hx => by have hx' := hW'.lt x (by simp [hx]); simpa using hx') trodAll_mk0)), rfl, bel.frame _, fun h => by cases h⟩
theorem and2 {a b : Bool} (h : a = true) (k : b = true) : (a && b) = true := by rw [h, k]; rfl
theorem lf : (Rows.fnExactShortestOfRow.lifted == Try.pinned.checked.prog.liftsFinal) = true := by
  have h : Try.pinned.checked.prog.liftsFinal = false := lifts
  rw [h]
  rfl
theorem mk : (Try.pinned.checked.prog.make == some Rows.fnExactShortestOfRow.make) = true := by
  have h : Try.pinned.checked.prog.make = some .cut := make_
  rw [h]
  rfl
theorem closed : joinedFacts Try.pinned.checked.prog 4 Try.f4 Rows.fnExactShortestOfSpec Rows.fnExactShortestOfRow = true :=
  (and2 (and2 (and2 (and2 (and2 (and2 (and2 (and2 (and2 (and2 (and2 (and2 (and2 (and2 (and2 (and2 (and2 (and2 (and2 (and2 (and2 (and2 (and2 (and2 (and2 (and2 (and2 (and2 (and2 (and2 (and2 (by kernel_rfl) g1) g2) (by kernel_rfl)) (by kernel_rfl)) (by kernel_rfl)) g3) (by kernel_rfl)) g4) (by kernel_rfl)) (by kernel_rfl)) (by kernel_rfl)) (by kernel_rfl)) (by kernel_rfl)) (by kernel_rfl)) (by kernel_rfl)) (by kernel_rfl)) (by kernel_rfl)) (by kernel_rfl)) (by kernel_rfl)) (by kernel_rfl)) (by kernel_rfl)) (by kernel_rfl)) (by kernel_rfl)) g5) may) lf) mk) (by kernel_rfl)) (by kernel_rfl)) (by kernel_rfl)) (by kernel_rfl))
theorem named_ : Try.pinned.checked.prog.funcNamed Rows.fnExactShortestOfRow.func = some 4 := by kernel_rfl
theorem over : Rows.fnExactShortestOfRow.holds Try.pinned (OpenSpec.ofChange Rows.fnExactShortestOfSpec) :=
  OpenClaim.holds_of_wide 4 Try.f4 rfl rfl rfl rfl rfl rfl rfl ⟨rfl, rfl, rfl, rfl, rfl⟩ rfl rfl rfl rfl rfl named_ Try.func4 closed
    (of_decide_eq_true (by kernel_rfl)) (by unfold Func.isWrapper; first | (rw [if_pos (by decide +kernel)]; kernel_rfl) | (rw [if_neg (by decide +kernel)]; exact ⟨rfl, rfl⟩))
    (fun os started H enc _ => lifted os started H enc)
end Go.Proofs.Ytdmeobffijhloaa.fnExactShortestOf
namespace Go.Proofs.Ytdmeobffijhloaa
theorem fnExactShortestOf_holds : Rows.FnExactShortestOfSaid := fnExactShortestOf.over
#print axioms fnExactShortestOf_holds
end Go.Proofs.Ytdmeobffijhloaa

