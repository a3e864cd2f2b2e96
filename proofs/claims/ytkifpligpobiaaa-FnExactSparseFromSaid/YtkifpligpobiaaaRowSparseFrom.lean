
/- The program's SparseFrom returns what the reference's SparseFrom returns, for every argument; no condition. -/
import Derived.Test.YtkifpligpobiaaaRows
import Derived.Test.YtkifpligpobiaaaMk
import Derived.Test.YtkifpligpobiaaaCSparseFrom
import Derived.Test.YtkifpligpobiaaaRowLibE
set_option linter.unusedVariables false
set_option linter.unusedSimpArgs false
namespace Go.Proofs.Ytkifpligpobiaaa.fnExactSparseFrom
open Go.ChangeShapes Go.WideShapes Go.ChangeAt Go.RowKit Go.Joins
theorem own : ownKnob Try.prog.godebug = none := by kernel_rfl
theorem laid : laidOutB Try.prog = true := by kernel_rfl
set_option maxRecDepth 100000 in
theorem lifted (os : Os) (started : os.Started) (H : Type) (enc : TypeId × Value → H) :
    ReturnsInHanded {} Try.checked os 12 .any (Rows.fnExactSparseFromSpec.pre6 enc Try.prog Try.f12 Rows.fnExactSparseFromRow.domain false) (Rows.fnExactSparseFromSpec.post enc Try.prog Try.f12 false true false false) := by
  refine returnsInHanded_of_change (C := Try.checked) own started (by kernel_rfl) Try.func12
    (ChangeSpec.witness6 (enc := enc) (C := Try.checked) false ⟨#[], #[.int .i64 0, .slice none 0 0], []⟩ 8 (by kernel_rfl) (by kernel_rfl) (by kernel_rfl) (by kernel_rfl)) ?_
  intro W base args ds gs before hval0 hW hcnd _
  have hval : ∀ (j : Nat) t v, Try.f12.params[j]? = some t → args[j]? = some v → Value.okWide Try.prog W .any base t v := hval0
  have hW' := hW
  obtain ⟨p, q, hA0, hV, rfl, hfz, hnd⟩ := hW
  have hA : DataW.TrodAll enc Try.prog W 0 (fun _ => true) true Try.f12.params.toList args.toList ds p := hA0
  rw [Try.params12] at hA hval
  obtain ⟨v0, vs0, d0, ds0, p0, q0, hargs, rfl, rfl, h0, r0⟩ := trodAll_cons hA
  obtain ⟨v1, vs1, d1, ds1, p1, q1, rfl, rfl, rfl, h1, r1⟩ := trodAll_cons r0
  obtain ⟨rfl, rfl, rfl⟩ := trodAll_nil r1
  obtain rfl : args = #[v0, v1] := by cases args; simp_all
  obtain ⟨rfl, rfl⟩ := trodVars_none hV
  have k0 := h0
  have k1 := h1
  obtain ⟨x0, rfl, -, -, w0⟩ := open_int Try.underlying2 (hval 0 2 v0 rfl rfl) h0
  obtain ⟨fu1, hf1⟩ := h1
  obtain ⟨a1, l1, c1, rfl⟩ := okWide_slice Try.underlying56 (hval 1 56 v1 rfl rfl)
  obtain ⟨A1, n1, cap1, xs1, es1, hr1⟩ := open_ent_slice Try.underlying56 Try.underlying120 (by kernel_rfl) (by kernel_rfl) Try.underlying2 Try.underlying2 Try.underlying43 hf1
  simp only [Value.slice.injEq] at es1
  obtain ⟨rfl, rfl, rfl⟩ := es1
  refine (law_SparseFrom x0 _ _ _ xs1 W hr1).mono fun e W' ⟨he, bel⟩ => ?_
  subst he
  exact ⟨_, rfl, _, _, _, [], _, [], hW', trodAll_mk1 (shut_bool Try.underlying4 _), (trodAll_cons_mk (Below.trod laid (by kernel_rfl) (of_decide_eq_true (by kernel_rfl)) k0 bel fun x hx => by have hx' := hW'.lt x (by simp [hx]); simpa using hx') (trodAll_cons_mk (Below.trod laid (by kernel_rfl) (of_decide_eq_true (by kernel_rfl)) k1 bel fun x hx => by have hx' := hW'.lt x (by simp [hx]); simpa using hx') trodAll_mk0)), rfl, bel.frame _, fun h => by cases h⟩
theorem and2 {a b : Bool} (h : a = true) (k : b = true) : (a && b) = true := by rw [h, k]; rfl
theorem lf : (Rows.fnExactSparseFromRow.lifted == Try.pinned.checked.prog.liftsFinal) = true := by
  have h : Try.pinned.checked.prog.liftsFinal = false := lifts
  rw [h]
  rfl
theorem mk : (Try.pinned.checked.prog.make == some Rows.fnExactSparseFromRow.make) = true := by
  have h : Try.pinned.checked.prog.make = some .cut := make_
  rw [h]
  rfl
theorem closed : joinedFacts Try.pinned.checked.prog 12 Try.f12 Rows.fnExactSparseFromSpec Rows.fnExactSparseFromRow = true :=
  (and2 (and2 (and2 (and2 (and2 (and2 (and2 (and2 (and2 (and2 (and2 (and2 (and2 (and2 (and2 (and2 (and2 (and2 (and2 (and2 (and2 (and2 (and2 (and2 (and2 (and2 (and2 (and2 (and2 (and2 (and2 (by kernel_rfl) g1) g2) (by kernel_rfl)) (by kernel_rfl)) (by kernel_rfl)) g3) (by kernel_rfl)) g4) (by kernel_rfl)) (by kernel_rfl)) (by kernel_rfl)) (by kernel_rfl)) (by kernel_rfl)) (by kernel_rfl)) (by kernel_rfl)) (by kernel_rfl)) (by kernel_rfl)) (by kernel_rfl)) (by kernel_rfl)) (by kernel_rfl)) (by kernel_rfl)) (by kernel_rfl)) (by kernel_rfl)) g5) may) lf) mk) (by kernel_rfl)) (by kernel_rfl)) (by kernel_rfl)) (by kernel_rfl))
theorem named_ : Try.pinned.checked.prog.funcNamed Rows.fnExactSparseFromRow.func = some 12 := by kernel_rfl
theorem over : Rows.fnExactSparseFromRow.holds Try.pinned (OpenSpec.ofChange Rows.fnExactSparseFromSpec) :=
  OpenClaim.holds_of_wide 12 Try.f12 rfl rfl rfl rfl rfl rfl rfl ⟨rfl, rfl, rfl, rfl, rfl⟩ rfl rfl rfl rfl rfl named_ Try.func12 closed
    (of_decide_eq_true (by kernel_rfl)) (by unfold Func.isWrapper; first | (rw [if_pos (by decide +kernel)]; kernel_rfl) | (rw [if_neg (by decide +kernel)]; exact ⟨rfl, rfl⟩))
    (fun os started H enc _ => lifted os started H enc)
end Go.Proofs.Ytkifpligpobiaaa.fnExactSparseFrom
namespace Go.Proofs.Ytkifpligpobiaaa
theorem fnExactSparseFrom_holds : Rows.FnExactSparseFromSaid := fnExactSparseFrom.over
#print axioms fnExactSparseFrom_holds
end Go.Proofs.Ytkifpligpobiaaa

