
/- What the row's form asks of the program alone. -/

import Derived.Test.YtkifpligpobiaaaRows

import Derived.KernelRfl

import Derived.JoinedOf
set_option linter.unusedVariables false
set_option linter.unusedSimpArgs false

namespace Go.Proofs.Ytkifpligpobiaaa

def w1 : List Nat := [104, 97, 114, 110, 101, 115, 115]
def w2 : List Nat := [50, 57, 57, 49, 54, 57, 55, 52, 50, 98, 49, 55, 100, 97, 48, 50, 102, 97, 56, 52, 50, 51, 57, 57, 55, 101, 52, 54, 50, 101, 54, 51, 50, 53, 53, 53, 102, 48, 49, 57, 54, 52, 57, 54, 102, 56, 98, 48, 53, 98, 51, 102, 55, 56, 97, 102, 98, 56, 102, 56, 50, 56, 54, 52]
def w3 : List Nat := [99, 117, 116]
def tailN : List Nat := [97, 116, 32, 108, 111, 111, 112, 46, 101, 120, 97, 109, 112, 108, 101, 47, 103, 48, 49, 51, 50, 55, 47, 108, 97, 119, 115, 46, 70, 110, 69, 120, 97, 99, 116, 83, 112, 97, 114, 115, 101, 82, 111, 111, 116, 32, 108, 111, 111, 112, 46, 101, 120, 97, 109, 112, 108, 101, 47, 103, 48, 49, 51, 50, 55, 47, 108, 97, 119, 115, 46, 70, 110, 69, 120, 97, 99, 116, 83, 112, 97, 114, 115, 101, 79, 114, 100, 101, 114, 32, 108, 111, 111, 112, 46, 101, 120, 97, 109, 112, 108, 101, 47, 103, 48, 49, 51, 50, 55, 47, 108, 97, 119, 115, 46, 70, 110, 69, 120, 97, 99, 116, 83, 97, 109, 101, 83, 112, 97, 114, 115, 101, 32, 108, 111, 111, 112, 46, 101, 120, 97, 109, 112, 108, 101, 47, 103, 48, 49, 51, 50, 55, 47, 108, 97, 119, 115, 46, 70, 110, 69, 120, 97, 99, 116, 83, 112, 97, 114, 115, 101, 66, 114, 101, 97, 100, 116, 104, 32, 108, 111, 111, 112, 46, 101, 120, 97, 109, 112, 108, 101, 47, 103, 48, 49, 51, 50, 55, 47, 108, 97, 119, 115, 46, 70, 110, 69, 120, 97, 99, 116, 86, 97, 108, 105, 100, 83, 112, 97, 114, 115, 101, 32, 108, 111, 111, 112, 46, 101, 120, 97, 109, 112, 108, 101, 47, 103, 48, 49, 51, 50, 55, 47, 108, 97, 119, 115, 46, 70, 110, 69, 120, 97, 99, 116, 83, 112, 97, 114, 115, 101, 65, 116, 32, 108, 111, 111, 112, 46, 101, 120, 97, 109, 112, 108, 101, 47, 103, 48, 49, 51, 50, 55, 47, 108, 97, 119, 115, 46, 70, 110, 69, 120, 97, 99, 116, 83, 112, 97, 114, 115, 101, 66, 97, 110, 100, 32, 108, 111, 111, 112, 46, 101, 120, 97, 109, 112, 108, 101, 47, 103, 48, 49, 51, 50, 55, 47, 108, 97, 119, 115, 46, 70, 110, 69, 120, 97, 99, 116, 69, 110, 116, 114, 105, 101, 115, 79, 102, 32, 108, 111, 111, 112, 46, 101, 120, 97, 109, 112, 108, 101, 47, 103, 48, 49, 51, 50, 55, 47, 108, 97, 119, 115, 46, 70, 110, 69, 120, 97, 99, 116, 83, 112, 97, 114, 115, 101, 68, 101, 103, 114, 101, 101, 115, 32, 108, 111, 111, 112, 46, 101, 120, 97, 109, 112, 108, 101, 47, 103, 48, 49, 51, 50, 55, 47, 108, 97, 119, 115, 46, 70, 110, 69, 120, 97, 99, 116, 83, 112, 97, 114, 115, 101, 70, 114, 111, 109, 32, 108, 111, 111, 112, 46, 101, 120, 97, 109, 112, 108, 101, 47, 103, 48, 49, 51, 50, 55, 47, 108, 97, 119, 115, 46, 70, 110, 69, 120, 97, 99, 116, 83, 112, 97, 114, 115, 101, 77, 117, 108, 32, 108, 111, 111, 112, 46, 101, 120, 97, 109, 112, 108, 101, 47, 103, 48, 49, 51, 50, 55, 47, 108, 97, 119, 115, 46, 70, 110, 69, 120, 97, 99, 116, 83, 112, 97, 114, 115, 101, 70, 108, 105, 112, 32, 108, 111, 111, 112, 46, 101, 120, 97, 109, 112, 108, 101, 47, 103, 48, 49, 51, 50, 55, 47, 108, 97, 119, 115, 46, 70, 110, 69, 120, 97, 99, 116, 83, 112, 97, 114, 115, 101, 87, 101, 105, 103, 104, 32, 108, 111, 111, 112, 46, 101, 120, 97, 109, 112, 108, 101, 47, 103, 48, 49, 51, 50, 55, 47, 108, 97, 119, 115, 46, 70, 110, 69, 120, 97, 99, 116, 83, 112, 97, 114, 115, 101, 70, 105, 108, 108, 32, 108, 111, 111, 112, 46, 101, 120, 97, 109, 112, 108, 101, 47, 103, 48, 49, 51, 50, 55, 47, 108, 97, 119, 115, 46, 70, 110, 69, 120, 97, 99, 116, 83, 112, 97, 114, 115, 101, 84, 114, 101, 101, 32, 108, 111, 111, 112, 46, 101, 120, 97, 109, 112, 108, 101, 47, 103, 48, 49, 51, 50, 55, 47, 108, 97, 119, 115, 46, 70, 110, 69, 120, 97, 99, 116, 83, 112, 97, 114, 115, 101, 76, 101, 97, 115, 116, 32, 108, 111, 111, 112, 46, 101, 120, 97, 109, 112, 108, 101, 47, 103, 48, 49, 51, 50, 55, 47, 108, 97, 119, 115, 46, 70, 110, 69, 120, 97, 99, 116, 83, 112, 97, 114, 115, 101, 68, 114, 111, 112]
def nums : List Char := w1.map Char.ofNat ++ Char.ofNat 32 :: (w2.map Char.ofNat ++ Char.ofNat 32 :: w3.map Char.ofNat)

theorem io1 : Try.prog.initOrder = String.ofList (nums ++ Char.ofNat 32 :: tailN.map Char.ofNat) := by kernel_rfl
theorem io2 : Try.prog.initOrder.toList = nums ++ Char.ofNat 32 :: tailN.map Char.ofNat := by rw [io1, String.toList_ofList]
theorem wordsSigns_app : ∀ (p r : List Char), wordsSigns (p ++ Char.ofNat 32 :: r) = wordsSigns p ++ wordsSigns r
  | [], r => rfl
  | c :: p, r => by
    have ih := wordsSigns_app p r
    have key : ∀ (c : Char) (l : List Char), wordsSigns (c :: l) = if c = Char.ofNat 32 then [] :: wordsSigns l else match wordsSigns l with | w :: ws => (c :: w) :: ws | [] => [[c]] := by
      intro c l
      by_cases h : c = Char.ofNat 32
      · rw [if_pos h, h]; rfl
      · rw [if_neg h]
        conv => lhs; unfold wordsSigns
        split
        · rename_i h2; cases h2
        · rename_i h2; simp only [List.cons.injEq] at h2; exact absurd h2.1 h
        · rename_i h1 h2; simp only [List.cons.injEq] at h2; obtain ⟨rfl, rfl⟩ := h2; rfl
    have hne : wordsSigns p ≠ [] := by
      cases p with
      | nil => simp [wordsSigns]
      | cons a p => rw [key]; split; simp; split <;> simp
    rw [List.cons_append, key, key, ih]
    split
    · rfl
    · cases hp : wordsSigns p with
      | nil => exact absurd hp hne
      | cons a b => rfl
theorem wordsSigns_cons (c : Char) (l : List Char) (h : (c == Char.ofNat 32) = false) : wordsSigns (c :: l) = match wordsSigns l with | w :: ws => (c :: w) :: ws | [] => [[c]] := by
  have h' : c ≠ Char.ofNat 32 := by intro e; rw [e] at h; cases h
  conv => lhs; unfold wordsSigns
  split
  · rename_i h2; cases h2
  · rename_i h2; simp only [List.cons.injEq] at h2; exact absurd h2.1 h'
  · rename_i h1 h2; simp only [List.cons.injEq] at h2; obtain ⟨rfl, rfl⟩ := h2; rfl
theorem wordsSigns_word : ∀ p : List Char, (p.all fun c => !(c == Char.ofNat 32)) = true → wordsSigns p = [p]
  | [], _ => rfl
  | c :: p, h => by
    simp only [List.all_cons, Bool.and_eq_true, Bool.not_eq_true'] at h
    rw [wordsSigns_cons c p h.1, wordsSigns_word p h.2]
theorem behind (a b : List Char) (r : List (List Char)) (h : ((a == "harness".toList || a == "ownmain".toList) && isSumSigns b) = true) : behindMainWord (a :: b :: r) = r := by
  unfold behindMainWord
  simp only [h, if_true]
theorem no_lift : ∀ (os : List String) (w : List Char) (ws : List (List Char)), (os.all fun o => !(w == o.toList)) = true → stripLifts os (w :: ws) = ([], w :: ws)
  | [], _, _, _ => rfl
  | o :: os, w, ws, h => by
    simp only [List.all_cons, Bool.and_eq_true, Bool.not_eq_true'] at h
    unfold stripLifts
    rw [if_neg (by rw [h.1]; simp)]
    exact no_lift os w ws h.2
/-- The word behind the sum. -/
def cutC : List Char := w3.map Char.ofNat
theorem io3 : ∃ rest, behindMainWord (wordsSigns Try.prog.initOrder.toList) = cutC :: rest := by
  rw [io2]
  unfold nums
  rw [List.append_assoc, List.cons_append, List.append_assoc, List.cons_append]
  rw [wordsSigns_app, wordsSigns_app, wordsSigns_app, wordsSigns_word (w1.map Char.ofNat) (by kernel_rfl), wordsSigns_word (w2.map Char.ofNat) (by kernel_rfl), wordsSigns_word (w3.map Char.ofNat) (by kernel_rfl)]
  generalize wordsSigns (tailN.map Char.ofNat) = rest
  exact ⟨rest, behind _ _ _ (by kernel_rfl)⟩
theorem io4 (rest : List (List Char)) : stripLifts liftWords (cutC :: rest) = ([], cutC :: rest) := no_lift _ _ _ (by kernel_rfl)
theorem a1 : (cutC == "gc".toList) = false := by kernel_rfl
theorem a2 : (cutC == "spec".toList) = false := by kernel_rfl
theorem a3 : (cutC == "carried".toList) = false := by kernel_rfl
theorem a4 : (cutC == "cut".toList) = true := by kernel_rfl
theorem a8 : (some cutC == some "cut".toList) = true := by kernel_rfl
theorem a9 : (some cutC == some "carried".toList) = false := by kernel_rfl
theorem a5 : Try.prog.laysLater = false := by kernel_rfl
theorem a6 : Try.prog.bearsReflect = false := by kernel_rfl
theorem a7 : Try.prog.doorFits [] = true := by kernel_rfl
theorem may_of (P : Program) (c : List Char) (rest : List (List Char)) (h : behindMainWord (wordsSigns P.initOrder.toList) = c :: rest) (h4 : stripLifts liftWords (c :: rest) = ([], c :: rest)) (h8 : (some c == some "cut".toList) = true)
    (h5 : P.laysLater = false) (h6 : P.bearsReflect = false) (h7 : P.doorFits [] = true) : P.mayEnter = true := by
  unfold Program.mayEnter
  rw [h]
  simp only [h4, h5, h6, h7, h8, List.head?_cons, Bool.not_false, Bool.or_true, Bool.true_and, Bool.and_true, List.contains_nil]
theorem may : Try.prog.mayEnter = true := by
  obtain ⟨rest, h⟩ := io3
  exact may_of _ _ _ h (io4 rest) a8 a5 a6 a7
theorem lifts : Try.prog.liftsFinal = false := by
  obtain ⟨rest, h⟩ := io3
  unfold Program.liftsFinal Program.headLifts
  rw [h]
  simp only [io4, a8, a9, List.head?_cons, Bool.false_and, Bool.false_or, if_true, List.contains_nil]
theorem make_of (P : Program) (c : List Char) (rest : List (List Char)) (h : behindMainWord (wordsSigns P.initOrder.toList) = c :: rest) (h1 : (c == "gc".toList) = false) (h2 : (c == "spec".toList) = false) (h4 : (c == "cut".toList) = true) : P.make = some .cut := by
  unfold Program.make
  rw [h]
  simp only [h1, h2, h4, Bool.false_or, Bool.true_or, if_true]
  rfl
theorem make_ : Try.prog.make = some .cut := by
  obtain ⟨rest, h⟩ := io3
  exact make_of _ _ _ h a1 a2 a4
theorem g1 : laidOutB Try.prog = true := by kernel_rfl
theorem g2 : mapsRowed Try.prog = true := by kernel_rfl
theorem g3 : (Try.prog.stops == []) = true := by kernel_rfl
theorem g4 : (Try.prog.stopKnobs == []) = true := by kernel_rfl
theorem g5 : Try.prog.stopsHeard = true := by kernel_rfl
end Go.Proofs.Ytkifpligpobiaaa
