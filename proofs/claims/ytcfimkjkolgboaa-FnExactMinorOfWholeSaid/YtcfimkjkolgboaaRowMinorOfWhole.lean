/- The program's MinorOfWhole returns what the reference's MinorOfWhole returns, for every argument; no condition. -/
import Derived.Test.YtcfimkjkolgboaaRows
import Derived.Test.YtcfimkjkolgboaaCMinorOfWhole
import Derived.Test.YtcfimkjkolgboaaRowLib
set_option linter.unusedVariables false
set_option linter.unusedSimpArgs false
namespace Go.Proofs.Ytcfimkjkolgboaa.fnExactMinorOfWhole
open Go.ChangeShapes Go.WideShapes Go.ChangeAt Go.RowKit Go.Joins
theorem own : ownKnob Try.prog.godebug = none := by kernel_rfl
theorem laid : laidOutB Try.prog = true := by kernel_rfl
set_option maxRecDepth 100000 in
theorem lifted (os : Os) (started : os.Started) (H : Type) (enc : TypeId × Value → H) :
    ReturnsInHanded {} Try.checked os 12 .any (Rows.fnExactMinorOfWholeSpec.pre6 enc Try.prog Try.f12 Rows.fnExactMinorOfWholeRow.domain false) (Rows.fnExactMinorOfWholeSpec.post enc Try.prog Try.f12 false true false false) := by
  refine returnsInHanded_of_change (C := Try.checked) own started (by kernel_rfl) Try.func12
    (ChangeSpec.witness6 (enc := enc) (C := Try.checked) false ⟨#[], #[.agg #[.int .i64 0, .int .i64 0, .slice none 0 0], .slice none 0 0, .slice none 0 0], []⟩ 8 (by kernel_rfl) (by kernel_rfl) (by kernel_rfl) (by kernel_rfl)) ?_
  intro W base args ds gs before hval0 hW hcnd _
  have hval : ∀ (j : Nat) t v, Try.f12.params[j]? = some t → args[j]? = some v → Value.okWide Try.prog W .any base t v := hval0
  have hW' := hW
  obtain ⟨p, q, hA0, hV, rfl, hfz, hnd⟩ := hW
  have hA : DataW.TrodAll enc Try.prog W 0 (fun _ => true) true Try.f12.params.toList args.toList ds p := hA0
  rw [Try.params12] at hA hval
  obtain ⟨v0, vs0, d0, ds0, p0, q0, hargs, rfl, rfl, h0, r0⟩ := trodAll_cons hA
  obtain ⟨v1, vs1, d1, ds1, p1, q1, rfl, rfl, rfl, h1, r1⟩ := trodAll_cons r0
  obtain ⟨v2, vs2, d2, ds2, p2, q2, rfl, rfl, rfl, h2, r2⟩ := trodAll_cons r1
  obtain ⟨rfl, rfl, rfl⟩ := trodAll_nil r2
  obtain rfl : args = #[v0, v1, v2] := by cases args; simp_all
  obtain ⟨rfl, rfl⟩ := trodVars_none hV
  have k0 := h0
  have k1 := h1
  have k2 := h2
  obtain ⟨c0_0, c0_1, c0_2, y0_0, y0_1, y0_2, m0, rfl, -, -, hy0_0, hy0_1, hy0_2⟩ := open_agg3 Try.underlying28 (by kernel_rfl) (by kernel_rfl) (hval 0 28 v0 rfl rfl) h0
  obtain ⟨x0_0, e0_0, -, -⟩ := DataW.trod_int Try.underlying2 hy0_0
  obtain rfl : c0_0 = _ := by simpa using e0_0
  obtain ⟨x0_1, e0_1, -, -⟩ := DataW.trod_int Try.underlying2 hy0_1
  obtain rfl : c0_1 = _ := by simpa using e0_1
  obtain ⟨A0_2, n0_2, cap0_2, xs0_2, rfl, hr0_2⟩ := open_int_slice Try.underlying26 Try.underlying2 (by kernel_rfl) hy0_2
  obtain ⟨fu1, hf1⟩ := h1
  obtain ⟨a1, l1, c1, rfl⟩ := okWide_slice Try.underlying26 (hval 1 26 v1 rfl rfl)
  obtain ⟨A1, n1, cap1, xs1, es1, hr1⟩ := open_int_slice Try.underlying26 Try.underlying2 (by kernel_rfl) hf1
  simp only [Value.slice.injEq] at es1
  obtain ⟨rfl, rfl, rfl⟩ := es1
  obtain ⟨fu2, hf2⟩ := h2
  obtain ⟨a2, l2, c2, rfl⟩ := okWide_slice Try.underlying26 (hval 2 26 v2 rfl rfl)
  obtain ⟨A2, n2, cap2, xs2, es2, hr2⟩ := open_int_slice Try.underlying26 Try.underlying2 (by kernel_rfl) hf2
  simp only [Value.slice.injEq] at es2
  obtain ⟨rfl, rfl, rfl⟩ := es2
  refine (law_MinorOfWhole x0_0 x0_1 A0_2 n0_2 cap0_2 xs0_2 _ _ _ xs1 _ _ _ xs2 W hr0_2 hr1 hr2).mono fun e W' ⟨he, bel⟩ => ?_
  subst he
  exact ⟨_, rfl, _, _, _, [], _, [], hW', trodAll_mk1 (shut_bool Try.underlying4 _), (trodAll_cons_mk (Below.trod laid (by kernel_rfl) (of_decide_eq_true (by kernel_rfl)) k0 bel fun x hx => by have hx' := hW'.lt x (by simp [hx]); simpa using hx') (trodAll_cons_mk (Below.trod laid (by kernel_rfl) (of_decide_eq_true (by kernel_rfl)) k1 bel fun x hx => by have hx' := hW'.lt x (by simp [hx]); simpa using hx') (trodAll_cons_mk (Below.trod laid (by kernel_rfl) (of_decide_eq_true (by kernel_rfl)) k2 bel fun x hx => by have hx' := hW'.lt x (by simp [hx]); simpa using hx') trodAll_mk0))), rfl, bel.frame _, fun h => by cases h⟩
theorem over : Rows.fnExactMinorOfWholeRow.holds Try.pinned (OpenSpec.ofChange Rows.fnExactMinorOfWholeSpec) :=
  OpenClaim.holds_of_wide 12 Try.f12 rfl rfl rfl rfl rfl rfl rfl ⟨rfl, rfl, rfl, rfl, rfl⟩ rfl rfl rfl rfl rfl (by kernel_rfl) Try.func12 (by kernel_rfl)
    (of_decide_eq_true (by kernel_rfl)) (by unfold Func.isWrapper; first | (rw [if_pos (by decide +kernel)]; kernel_rfl) | (rw [if_neg (by decide +kernel)]; exact ⟨rfl, rfl⟩))
    (fun os started H enc _ => lifted os started H enc)
end Go.Proofs.Ytcfimkjkolgboaa.fnExactMinorOfWhole
namespace Go.Proofs.Ytcfimkjkolgboaa
theorem fnExactMinorOfWhole_holds : Rows.FnExactMinorOfWholeSaid := fnExactMinorOfWhole.over
#print axioms fnExactMinorOfWhole_holds
end Go.Proofs.Ytcfimkjkolgboaa

