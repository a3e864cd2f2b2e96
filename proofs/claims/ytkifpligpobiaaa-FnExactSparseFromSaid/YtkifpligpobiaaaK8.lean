
/- Maps from places to numbers: what is added to an entry. -/

import Derived.Test.YtkifpligpobiaaaK4

import Derived.WideKeyEntry
set_option linter.unusedVariables false
set_option linter.unusedSimpArgs false

namespace Go.Proofs.Ytkifpligpobiaaa

open Go.RowKit Go.WideElems Go.WideShapes Go.MapKept Go.ChangeMaps


theorem place_klaw : Go.WideMaps.KeyLaw Try.prog 95 := deep_law_laid laid_out (m := 2) (by omega) place_row (by kernel_rfl) (by rw [Try.underlying95])
theorem MapV.of_block {w w' : World} {b cnt n : Nat} {M : Sqr} (h : MapV w b cnt n M) (hb : w'.heap[b]? = w.heap[b]?) : MapV w' b cnt n M := by
  obtain ⟨D, ⟨es, clock, h0, h1⟩, h2⟩ := h
  exact ⟨D, ⟨es, clock, hb.trans h0, h1⟩, h2⟩
theorem setBlock_grown {w : World} {b : Nat} {es : Array MapEntry} {clock : Nat} {o' : Obj} (hb : w.heap[b]? = some (.map es clock)) : w.grownBy (setBlock w b o') (some b) :=
  ⟨rfl, rfl, rfl, by simp [setBlock], fun i _ hi => heap_setBlock_other hb _ (fun e => hi (by rw [e]))⟩
theorem setBlock_same {w : World} {b : Nat} {es : Array MapEntry} {clock : Nat} (hb : w.heap[b]? = some (.map es clock)) : setBlock w b (.map es clock) = w := by
  have e : w.heap.setIfInBounds b (.map es clock) = w.heap := by
    apply Array.ext_getElem?
    intro i
    by_cases hi : i = b
    · subst hi
      exact (heap_setBlock_same hb _).trans hb.symm
    · exact heap_setBlock_other hb _ hi
  unfold setBlock
  rw [e]
/-- 'm[k] += v', in its two steps. -/
theorem MapV.entry {w : World} {b cnt n : Nat} {M : Sqr} (h : MapV w b cnt n M) (hn : n ≤ 32) {i j : Nat} (hi : i < n) (hj : j < n) :
    ∃ v0 st w1, (Instr.mapEntry 92 (.map (some b)) (placeV i j)).run Try.prog w = .ok (.tuple #[v0, goInt st]) w1 ∧ w.grownBy w1 (some b) ∧ w1.heap.size = w.heap.size ∧ (∃ Mx, MapV w1 b (n * n) n Mx ∧ (Mx i j).getD (some 0) = (M i j).getD (some 0)) ∧
      ∀ w2 x, w2.heap[b]? = w1.heap[b]? → ∃ w3, (Instr.entryStore 92 (.map (some b)) (goInt st) (.float .f32 x)).run Try.prog w2 = .ok () w3 ∧ w2.grownBy w3 (some b) ∧ MapV w3 b (n * n) n (updM M i j (some (c32 x))) := by
  have ht := h.tight
  have ht' := ht
  obtain ⟨D, ⟨es, clock, hb, F, hs, hD⟩, h1, h2⟩ := ht'
  have hkey := kp_key (nat_wf (i := i) (by omega)) (nat_wf (i := j) (by omega))
  obtain ⟨v0, st, es1, clock1, hrun, hv, hst⟩ := entry_then_store place_klaw Try.underlying92 zero_f32 hb F hkey
  have hb1 : (setBlock w b (.map es1 clock1)).heap[b]? = some (.map es1 clock1) := heap_setBlock_same hb _
  refine ⟨v0, st, _, hrun, setBlock_grown hb, by simp [setBlock], ?_, fun w2 x hw2 => ?_⟩
  · rcases place_klaw.find w hkey es.toList F.keys with ⟨f1, f2⟩ | ⟨q, e0, f1, f2, f3⟩
    · -- a new entry
      have hr2 : (Instr.mapEntry 92 (.map (some b)) (placeV i j)).run Try.prog w = .ok (.tuple #[.float .f32 0, goInt clock]) (setBlock w b (.map (es.push ⟨placeV i j, .float .f32 0, clock⟩) (clock + 1))) := by
        simp [Instr.mapEntry, run_underlying Try.underlying92, MapKept.run_getObj_map hb, place_klaw.check w false hkey, f1, zero_f32, MapKept.run_setObj_map _ hb, Result.andThen, setBlock]
      have hr3 : (Instr.mapUpdate 92 (.map (some b)) (placeV i j) (.float .f32 0)).run Try.prog w = .ok () (setBlock w b (.map (es.push ⟨placeV i j, .float .f32 0, clock⟩) (clock + 1))) := by
        simp [Instr.mapUpdate, run_underlying Try.underlying92, MapKept.run_getObj_map hb, place_klaw.check w false hkey, f1, MapKept.run_setObj_map _ hb, Result.andThen, setBlock]
      obtain ⟨w', hu, hm, _⟩ := ht.update hn hi hj 0
      rw [hr3] at hu
      simp only [Result.ok.injEq, true_and] at hu
      rw [hr2] at hrun
      simp only [Result.ok.injEq] at hrun
      rw [← hrun.2, hu]
      refine ⟨_, hm, ?_⟩
      rw [updM_same, c32_0]
      have hno : M i j = none := by
        rcases Maps.fit_look false place_law Try.underlying92 (zero_f32 w) hb F hkey with ⟨_, _, hat⟩ | ⟨e0, y, hm0, hk0, _⟩
        · have hm := h1 i j hi hj
          unfold MapAt at hm
          cases hM : M i j with
          | none => rfl
          | some u =>
            rw [hM, hD] at hm
            rw [Maps.has_false_of_atKey hat] at hm
            cases hm.1
        · exact absurd hk0 (f2 e0 hm0)
      rw [hno]
      rfl
    · have hq : es[q]? = some e0 := by simpa using f2
      have hsame : es.modify q (fun e => { e with key := placeV i j }) = es := by
        apply Array.ext'
        rw [Array.toList_modify, modify_eq_set _ _ _ _ f2]
        have : ({ e0 with key := placeV i j } : MapEntry) = e0 := by rw [← f3]
        rw [this]
        exact set_self _ _ _ f2
      have hr2 : (Instr.mapEntry 92 (.map (some b)) (placeV i j)).run Try.prog w = .ok (.tuple #[e0.val, goInt e0.born]) (setBlock w b (.map es clock)) := by
        simp [Instr.mapEntry, run_underlying Try.underlying92, MapKept.run_getObj_map hb, place_klaw.check w false hkey, f1, hq, f3, place_klaw.stays w hkey, hsame, MapKept.run_setObj_map _ hb, Result.andThen, setBlock]
      rw [hr2] at hrun
      simp only [Result.ok.injEq] at hrun
      rw [← hrun.2, setBlock_same hb]
      exact ⟨M, ht, rfl⟩
  · rw [hb1] at hw2
    obtain ⟨es', clock', hr2, hr3⟩ := hst w2 (.float .f32 x) hw2
    obtain ⟨w', hu, hm, _⟩ := ht.update hn hi hj x
    rw [hr3] at hu
    simp only [Result.ok.injEq, true_and] at hu
    refine ⟨_, hr2, setBlock_grown hw2, ?_⟩
    rw [← hu] at hm
    exact hm.of_block ((heap_setBlock_same hw2 _).trans (heap_setBlock_same hb _).symm)

end Go.Proofs.Ytkifpligpobiaaa
