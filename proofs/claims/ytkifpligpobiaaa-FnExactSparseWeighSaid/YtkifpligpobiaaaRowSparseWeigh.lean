
/- The program's SparseWeigh returns what the reference's SparseWeigh returns, for every argument; no condition. -/
import Derived.Test.YtkifpligpobiaaaRows
import Derived.Test.YtkifpligpobiaaaMk
import Derived.Test.YtkifpligpobiaaaCSparseWeigh
import Derived.Test.YtkifpligpobiaaaRowLibS
set_option linter.unusedVariables false
set_option linter.unusedSimpArgs false
namespace Go.Proofs.Ytkifpligpobiaaa.fnExactSparseWeigh
open Go.ChangeShapes Go.WideShapes Go.ChangeAt Go.RowKit Go.Joins
theorem own : ownKnob Try.prog.godebug = none := by kernel_rfl
theorem laid : laidOutB Try.prog = true := by kernel_rfl
set_option maxRecDepth 100000 in
theorem lifted (os : Os) (started : os.Started) (H : Type) (enc : TypeId × Value → H) :
    ReturnsInHanded {} Try.checked os 15 .any (Rows.fnExactSparseWeighSpec.pre6 enc Try.prog Try.f15 Rows.fnExactSparseWeighRow.domain false) (Rows.fnExactSparseWeighSpec.post enc Try.prog Try.f15 false true false false) := by
  refine returnsInHanded_of_change (C := Try.checked) own started (by kernel_rfl) Try.func15
    (ChangeSpec.witness6 (enc := enc) (C := Try.checked) false ⟨#[], #[.agg #[.int .i64 0, .slice none 0 0, .slice none 0 0, .slice none 0 0], .agg #[.int .i64 0, .slice none 0 0, .slice none 0 0, .slice none 0 0], .float .f32 0, .float .f32 0], []⟩ 8 (by kernel_rfl) (by kernel_rfl) (by kernel_rfl) (by kernel_rfl)) ?_
  intro W base args ds gs before hval0 hW hcnd _
  have hval : ∀ (j : Nat) t v, Try.f15.params[j]? = some t → args[j]? = some v → Value.okWide Try.prog W .any base t v := hval0
  have hW' := hW
  obtain ⟨p, q, hA0, hV, rfl, hfz, hnd⟩ := hW
  have hA : DataW.TrodAll enc Try.prog W 0 (fun _ => true) true Try.f15.params.toList args.toList ds p := hA0
  rw [Try.params15] at hA hval
  obtain ⟨v0, vs0, d0, ds0, p0, q0, hargs, rfl, rfl, h0, r0⟩ := trodAll_cons hA
  obtain ⟨v1, vs1, d1, ds1, p1, q1, rfl, rfl, rfl, h1, r1⟩ := trodAll_cons r0
  obtain ⟨v2, vs2, d2, ds2, p2, q2, rfl, rfl, rfl, h2, r2⟩ := trodAll_cons r1
  obtain ⟨v3, vs3, d3, ds3, p3, q3, rfl, rfl, rfl, h3, r3⟩ := trodAll_cons r2
  obtain ⟨rfl, rfl, rfl⟩ := trodAll_nil r3
  obtain rfl : args = #[v0, v1, v2, v3] := by cases args; simp_all
  obtain ⟨rfl, rfl⟩ := trodVars_none hV
  have k0 := h0
  have k1 := h1
  have k2 := h2
  have k3 := h3
  obtain ⟨c0_0, c0_1, c0_2, c0_3, y0_0, y0_1, y0_2, y0_3, m0, rfl, -, -, hy0_0, hy0_1, hy0_2, hy0_3⟩ := open_agg4 Try.underlying25 (by kernel_rfl) (by kernel_rfl) (hval 0 25 v0 rfl rfl) h0
  obtain ⟨x0_0, e0_0, -, -⟩ := DataW.trod_int Try.underlying2 hy0_0
  obtain rfl : c0_0 = _ := by simpa using e0_0
  obtain ⟨A0_1, n0_1, cap0_1, xs0_1, rfl, hr0_1⟩ := open_int_slice Try.underlying22 Try.underlying2 (by kernel_rfl) hy0_1
  obtain ⟨A0_2, n0_2, cap0_2, xs0_2, rfl, hr0_2⟩ := open_int_slice Try.underlying22 Try.underlying2 (by kernel_rfl) hy0_2
  obtain ⟨A0_3, n0_3, cap0_3, xs0_3, rfl, hr0_3, wf0_3⟩ := open_flt_slice Try.underlying23 Try.underlying43 (by kernel_rfl) hy0_3
  obtain ⟨c1_0, c1_1, c1_2, c1_3, y1_0, y1_1, y1_2, y1_3, m1, rfl, -, -, hy1_0, hy1_1, hy1_2, hy1_3⟩ := open_agg4 Try.underlying25 (by kernel_rfl) (by kernel_rfl) (hval 1 25 v1 rfl rfl) h1
  obtain ⟨x1_0, e1_0, -, -⟩ := DataW.trod_int Try.underlying2 hy1_0
  obtain rfl : c1_0 = _ := by simpa using e1_0
  obtain ⟨A1_1, n1_1, cap1_1, xs1_1, rfl, hr1_1⟩ := open_int_slice Try.underlying22 Try.underlying2 (by kernel_rfl) hy1_1
  obtain ⟨A1_2, n1_2, cap1_2, xs1_2, rfl, hr1_2⟩ := open_int_slice Try.underlying22 Try.underlying2 (by kernel_rfl) hy1_2
  obtain ⟨A1_3, n1_3, cap1_3, xs1_3, rfl, hr1_3, wf1_3⟩ := open_flt_slice Try.underlying23 Try.underlying43 (by kernel_rfl) hy1_3
  obtain ⟨x2, rfl, -, -, w2⟩ := open_float Try.underlying43 (hval 2 43 v2 rfl rfl) h2
  obtain ⟨x3, rfl, -, -, w3⟩ := open_float Try.underlying43 (hval 3 43 v3 rfl rfl) h3
  refine (law_SparseWeigh x0_0 A0_1 n0_1 cap0_1 xs0_1 A0_2 n0_2 cap0_2 xs0_2 A0_3 n0_3 cap0_3 xs0_3 x1_0 A1_1 n1_1 cap1_1 xs1_1 A1_2 n1_2 cap1_2 xs1_2 A1_3 n1_3 cap1_3 xs1_3 x2 x3 W hr0_1 hr0_2 hr0_3 hr1_1 hr1_2 hr1_3).mono fun e W' ⟨he, bel⟩ => ?_
  subst he
  exact ⟨_, rfl, _, _, _, [], _, [], hW', trodAll_mk1 (shut_bool Try.underlying4 _), (trodAll_cons_mk (Below.trod laid (by kernel_rfl) (of_decide_eq_true (by kernel_rfl)) k0 bel fun x hx => by have hx' := hW'.lt x (by simp [hx]); simpa using hx') (trodAll_cons_mk (Below.trod laid (by kernel_rfl) (of_decide_eq_true (by kernel_rfl)) k1 bel fun x hx => by have hx' := hW'.lt x (by simp [hx]); simpa using hx') (trodAll_cons_mk (Below.trod laid (by kernel_rfl) (of_decide_eq_true (by kernel_rfl)) k2 bel fun x hx => by have hx' := hW'.lt x (by simp [hx]); simpa using hx') (trodAll_cons_mk (Below.trod laid (by kernel_rfl) (of_decide_eq_true (by kernel_rfl)) k3 bel fun x hx => by have hx' := hW'.lt x (by simp [hx]); simpa using hx') trodAll_mk0)))), rfl, bel.frame _, fun h => by cases h⟩
theorem and2 {a b : Bool} (h : a = true) (k : b = true) : (a && b) = true := by rw [h, k]; rfl
theorem lf : (Rows.fnExactSparseWeighRow.lifted == Try.pinned.checked.prog.liftsFinal) = true := by
  have h : Try.pinned.checked.prog.liftsFinal = false := lifts
  rw [h]
  rfl
theorem mk : (Try.pinned.checked.prog.make == some Rows.fnExactSparseWeighRow.make) = true := by
  have h : Try.pinned.checked.prog.make = some .cut := make_
  rw [h]
  rfl
theorem closed : joinedFacts Try.pinned.checked.prog 15 Try.f15 Rows.fnExactSparseWeighSpec Rows.fnExactSparseWeighRow = true :=
  (and2 (and2 (and2 (and2 (and2 (and2 (and2 (and2 (and2 (and2 (and2 (and2 (and2 (and2 (and2 (and2 (and2 (and2 (and2 (and2 (and2 (and2 (and2 (and2 (and2 (and2 (and2 (and2 (and2 (and2 (and2 (by kernel_rfl) g1) g2) (by kernel_rfl)) (by kernel_rfl)) (by kernel_rfl)) g3) (by kernel_rfl)) g4) (by kernel_rfl)) (by kernel_rfl)) (by kernel_rfl)) (by kernel_rfl)) (by kernel_rfl)) (by kernel_rfl)) (by kernel_rfl)) (by kernel_rfl)) (by kernel_rfl)) (by kernel_rfl)) (by kernel_rfl)) (by kernel_rfl)) (by kernel_rfl)) (by kernel_rfl)) (by kernel_rfl)) g5) may) lf) mk) (by kernel_rfl)) (by kernel_rfl)) (by kernel_rfl)) (by kernel_rfl))
theorem named_ : Try.pinned.checked.prog.funcNamed Rows.fnExactSparseWeighRow.func = some 15 := by kernel_rfl
theorem over : Rows.fnExactSparseWeighRow.holds Try.pinned (OpenSpec.ofChange Rows.fnExactSparseWeighSpec) :=
  OpenClaim.holds_of_wide 15 Try.f15 rfl rfl rfl rfl rfl rfl rfl ⟨rfl, rfl, rfl, rfl, rfl⟩ rfl rfl rfl rfl rfl named_ Try.func15 closed
    (of_decide_eq_true (by kernel_rfl)) (by unfold Func.isWrapper; first | (rw [if_pos (by decide +kernel)]; kernel_rfl) | (rw [if_neg (by decide +kernel)]; exact ⟨rfl, rfl⟩))
    (fun os started H enc _ => lifted os started H enc)
end Go.Proofs.Ytkifpligpobiaaa.fnExactSparseWeigh
namespace Go.Proofs.Ytkifpligpobiaaa
theorem fnExactSparseWeigh_holds : Rows.FnExactSparseWeighSaid := fnExactSparseWeigh.over
#print axioms fnExactSparseWeigh_holds
end Go.Proofs.Ytkifpligpobiaaa

