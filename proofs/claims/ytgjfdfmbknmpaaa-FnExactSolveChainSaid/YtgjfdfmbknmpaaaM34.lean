import Derived.Test.YtgjfdfmbknmpaaaM22
set_option linter.unusedVariables false
set_option linter.unusedSimpArgs false
namespace Go.Proofs.Ytgjfdfmbknmpaaa
open Go.RowKit

/-- A number without a sign. -/
def Nn (x : Nat) : Prop := x ≤ 2139095040
theorem read_nn {x : Nat} (h : Nn x) : (∃ m e, FloatKind.f32.format.read x = .number false m e) ∨ FloatKind.f32.format.read x = .infinity false := by
  unfold Nn at h
  have e1 : FloatKind.f32.format.signWeight = 2147483648 := rfl
  have e2 : FloatKind.f32.format.infRung = 2139095040 := rfl
  have h1 : x / 2147483648 = 0 := Nat.div_eq_of_lt (by omega)
  have h2 : x % 2147483648 = x := Nat.mod_eq_of_lt (by omega)
  unfold Ieee.Format.read
  simp only [e1, e2, h1, h2]
  split
  · exact .inl ⟨_, _, rfl⟩
  · split
    · exact .inl ⟨_, _, rfl⟩
    · rw [if_pos (by omega)]
      exact .inr rfl
theorem nn_nearest (m : Nat) (e : Int) : Nn (FloatKind.f32.format.nearest false m e) := by
  have e2 : FloatKind.f32.format.infRung = 2139095040 := rfl
  unfold Nn Ieee.Format.nearest Ieee.Format.word
  simp only [Bool.false_eq_true, if_false]
  split
  · omega
  · rw [← e2]; exact Nat.min_le_right _ _
theorem nn_abs {x : Nat} (h : isFin .f32 x = true) : Nn (absW x) := by
  obtain ⟨s, m, e, hd⟩ : ∃ s m e, FloatKind.f32.format.read x = .number s m e := by
    unfold isFin at h
    split at h
    · exact ⟨_, _, _, by assumption⟩
    · cases h
  obtain ⟨_, _, _, _, _, a6⟩ := read_spec .f32 hd
  exact Nat.le_of_lt a6
theorem nn_c32 {x : Nat} (h : Nn x) : c32 x = some x := by
  rcases read_nn h with ⟨m, e, hd⟩ | hd
  · exact c32_num hd
  · exact c32_of_inf hd
theorem nn_add {x y : Nat} (hx : Nn x) (hy : Nn y) : ∃ r, fop .add .f32 (some x) (some y) = some r ∧ Nn r := by
  have key : ∃ r, FloatKind.f32.format.add x y = some r ∧ Nn r := by
    unfold Ieee.Format.add
    rcases read_nn hx with ⟨m, e, h1⟩ | h1 <;> rcases read_nn hy with ⟨m', e', h2⟩ | h2 <;> rw [h1, h2]
    · refine ⟨_, rfl, ?_⟩
      have gz : ∀ a b : Nat, ¬ ((a : Int) + (b : Int) < 0) := by intro a b; omega
      have hs : ∀ m k, Ieee.signed false m k = ((m <<< k : Nat) : Int) := signed_false
      show Nn (FloatKind.f32.format.nearest _ _ _)
      rw [hs, hs]
      have : (if (((m <<< (e - min e e').toNat : Nat) : Int) + ((m' <<< (e' - min e e').toNat : Nat) : Int)) = 0 then false && false else decide ((((m <<< (e - min e e').toNat : Nat) : Int) + ((m' <<< (e' - min e e').toNat : Nat) : Int)) < 0)) = false := by
        split
        · rfl
        · exact decide_eq_false (gz _ _)
      rw [this]
      exact nn_nearest _ _
    · exact ⟨_, rfl, by unfold Nn; decide⟩
    · exact ⟨_, rfl, by unfold Nn; decide⟩
    · exact ⟨_, rfl, by unfold Nn; decide⟩
  obtain ⟨r, h, hr⟩ := key
  refine ⟨r, ?_, hr⟩
  rw [← nn_c32 hx, ← nn_c32 hy]
  show fop .add .f32 (cf .f32 x) (cf .f32 y) = _
  rw [fop_cf]
  exact h
theorem nn_order {x y : Nat} (hx : Nn x) (hy : Nn y) : ∃ o, FloatKind.f32.format.order x y = some o := by
  unfold Ieee.Format.order
  rcases read_nn hx with ⟨m, e, h1⟩ | h1 <;> rcases read_nn hy with ⟨m', e', h2⟩ | h2 <;> rw [h1, h2] <;> exact ⟨_, rfl⟩

end Go.Proofs.Ytgjfdfmbknmpaaa
