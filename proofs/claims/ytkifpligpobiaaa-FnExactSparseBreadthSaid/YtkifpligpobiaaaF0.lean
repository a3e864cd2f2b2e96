
/- Floats up to what a NaN's bits say. Nothing of the program. -/

import Derived.Test.YtkifpligpobiaaaLib

import Derived.Laws.FloatArith

import Derived.Laws.Cover2

import Derived.Tactics
set_option linter.unusedVariables false
set_option linter.unusedSimpArgs false

namespace Go.Proofs.Ytkifpligpobiaaa

open Go.RowKit

/-- The bits; of a NaN: none. -/
def cf (k : FloatKind) (x : Nat) : Option Nat := if (k.format.read x).isNaN then none else some x
theorem cf_some {k : FloatKind} {x y : Nat} (h : cf k x = some y) : x = y ∧ (k.format.read x).isNaN = false := by
  unfold cf at h
  split at h
  · cases h
  · rename_i hn
    simp only [Option.some.injEq] at h
    exact ⟨h, by simpa using hn⟩
theorem cf_none {k : FloatKind} {x : Nat} : cf k x = none ↔ (k.format.read x).isNaN = true := by
  unfold cf
  split <;> simp_all
theorem isNaN_iff {d : Ieee.Datum} : d.isNaN = true ↔ ∃ s t, d = .nan s t := by
  cases d <;> simp [Ieee.Datum.isNaN]

/-- An operation on numbers that may be none. -/
def fop (op : BinOp) (k : FloatKind) (a b : Option Nat) : Option Nat := a.bind fun x => b.bind fun y => floatBits op k x y
theorem fop_cf (op : BinOp) (k : FloatKind) (x y : Nat) : fop op k (cf k x) (cf k y) = floatBits op k x y := by
  have hx : cf k x = none → floatBits op k x y = none := by
    intro h
    obtain ⟨s, t, e⟩ := isNaN_iff.1 (cf_none.1 h)
    unfold floatBits Ieee.Format.add Ieee.Format.sub Ieee.Format.mul Ieee.Format.div
    rw [e]
    cases op <;> simp [Ieee.Datum.sum, Ieee.Datum.product, Ieee.Datum.quotient]
  have hy : cf k y = none → floatBits op k x y = none := by
    intro h
    obtain ⟨s, t, e⟩ := isNaN_iff.1 (cf_none.1 h)
    unfold floatBits Ieee.Format.add Ieee.Format.sub Ieee.Format.mul Ieee.Format.div
    rw [e]
    cases hd : k.format.read x <;> cases op <;> simp [Ieee.Datum.sum, Ieee.Datum.product, Ieee.Datum.quotient, Ieee.Datum.opposite]
  unfold fop
  cases h1 : cf k x with
  | none => rw [hx h1]; rfl
  | some a =>
    obtain ⟨rfl, _⟩ := cf_some h1
    cases h2 : cf k y with
    | none => rw [hy h2]; rfl
    | some b =>
      obtain ⟨rfl, _⟩ := cf_some h2
      rfl

theorem read_word (k : FloatKind) (neg : Bool) (rung : Nat) (h : rung ≤ k.format.infRung) : (k.format.read (k.format.word neg rung)).isNaN = false := by
  have hlt := k.format.infRung_lt
  have hm : k.format.word neg rung % k.format.signWeight = rung := by
    unfold Ieee.Format.word
    split
    · rw [Nat.add_mod_left, Nat.mod_eq_of_lt (by omega)]
    · exact Nat.mod_eq_of_lt (by omega)
  unfold Ieee.Format.read
  simp only [hm]
  split
  · rfl
  · split
    · rfl
    · rw [if_pos (by omega)]
      rfl
theorem read_write (k : FloatKind) (d : Ieee.Datum) (hd : d.isNaN = false) : (k.format.read (k.format.write d)).isNaN = false := by
  cases d with
  | number s m i =>
    show (k.format.read (k.format.nearest s m i)).isNaN = false
    unfold Ieee.Format.nearest
    split
    · exact read_word k s 0 (Nat.zero_le _)
    · exact read_word k s _ (Nat.min_le_right _ _)
  | infinity s => exact read_word k s _ (Nat.le_refl _)
  | nan s t => simp [Ieee.Datum.isNaN] at hd

theorem fop_num {op : BinOp} {k : FloatKind} {x y r : Nat} (h : floatBits op k x y = some r) : cf k r = some r := by
  have key : ∀ o : Option Ieee.Datum, o.map k.format.write = some r → (∀ d, o = some d → d.isNaN = false) → cf k r = some r := by
    intro o ho hd
    cases o with
    | none => cases ho
    | some d =>
      simp only [Option.map_some, Option.some.injEq] at ho
      unfold cf
      rw [← ho, read_write k d (hd d rfl)]
      rfl
  have hs : ∀ a b d, Ieee.Datum.sum a b = some d → d.isNaN = false := by
    intro a b d h
    cases a <;> cases b <;> simp only [Ieee.Datum.sum] at h <;> first | (cases h; rfl) | (cases h) | (split at h <;> cases h; rfl)
  have hp : ∀ a b d, Ieee.Datum.product a b = some d → d.isNaN = false := by
    intro a b d h
    cases a <;> cases b <;> simp only [Ieee.Datum.product] at h <;> first | (cases h; rfl) | (cases h) | (split at h <;> cases h; rfl)
  have hq : ∀ g a b d, Ieee.Datum.quotient g a b = some d → d.isNaN = false := by
    intro g a b d h
    cases a <;> cases b <;> simp only [Ieee.Datum.quotient] at h <;> first | (cases h; rfl) | (cases h) | (split at h <;> first | (cases h; rfl) | (split at h <;> cases h; rfl))
  unfold floatBits at h
  cases op <;> simp only at h <;> first | (cases h; done) | skip
  · exact key _ h (hs _ _)
  · exact key _ h (hs _ _)
  · exact key _ h (hp _ _)
  · exact key _ h (hq _ _ _)

theorem cf_nan32 (t : Nat) : cf .f32 ((t % 2) * 2 ^ 31 + 0x7f800000 + 1 + (t / 2) % (2 ^ 23 - 1)) = none := by
  rw [cf_none]
  unfold Ieee.Format.read
  have e1 : FloatKind.f32.format.signWeight = 2147483648 := rfl
  have e2 : FloatKind.f32.format.infRung = 2139095040 := rfl
  have e3 : FloatKind.f32.format.binade = 8388608 := rfl
  have h1 := Nat.mod_lt (t / 2) (show 0 < 2 ^ 23 - 1 by omega)
  have h2 : ((t % 2) * 2 ^ 31 + 0x7f800000 + 1 + (t / 2) % (2 ^ 23 - 1)) % 2147483648 = 0x7f800000 + 1 + (t / 2) % (2 ^ 23 - 1) := by omega
  simp only [e1, e2, e3, h2]
  rw [if_neg (by omega), if_neg (by omega), if_neg (by omega)]
  rfl
theorem cf_nan64 (t : Nat) : cf .f64 ((t % 2) * 2 ^ 63 + 0x7ff0000000000000 + 1 + (t / 2) % (2 ^ 52 - 1)) = none := by
  rw [cf_none]
  unfold Ieee.Format.read
  have e1 : FloatKind.f64.format.signWeight = 9223372036854775808 := rfl
  have e2 : FloatKind.f64.format.infRung = 9218868437227405312 := rfl
  have e3 : FloatKind.f64.format.binade = 4503599627370496 := rfl
  have h1 := Nat.mod_lt (t / 2) (show 0 < 2 ^ 52 - 1 by omega)
  have h2 : ((t % 2) * 2 ^ 63 + 0x7ff0000000000000 + 1 + (t / 2) % (2 ^ 52 - 1)) % 9223372036854775808 = 0x7ff0000000000000 + 1 + (t / 2) % (2 ^ 52 - 1) := by omega
  simp only [e1, e2, e3, h2]
  rw [if_neg (by omega), if_neg (by omega), if_neg (by omega)]
  rfl
theorem cf_nan (k : FloatKind) (x y t : Nat) : cf k ((Question.nanBits k x y).cut t) = none := by
  cases k
  · exact cf_nan32 t
  · exact cf_nan64 t

/-- An operation: its bits, up to a NaN's; the world is as it was, or one draw on. -/
theorem run_fop {P : Program} (w : World) (op : BinOp) (hop : op = .add ∨ op = .sub ∨ op = .mul ∨ op = .quo) (t : TypeId) (k : FloatKind) (x y : Nat) :
    ∃ b w', (binOp op t (.float k x) (.float k y)).run P w = .ok (.float k b) w' ∧ Ext w w' ∧ cf k b = fop op k (cf k x) (cf k y) := by
  rw [fop_cf]
  cases h : floatBits op k x y with
  | some r => exact ⟨r, w, run_float_arith w op t k x y r h, Ext.refl _, fop_num h⟩
  | none =>
    refine ⟨(Question.nanBits k x y).cut (w.tape w.drawn (Question.nanBits k x y)), w.drew, ?_, (Ext.refl w).drew, cf_nan _ _ _ _⟩
    unfold floatBits at h
    rcases hop with rfl | rfl | rfl | rfl <;> simp only at h <;> simp [binOp, Op.floatArith, h, Sem.run_bind, Question.forced]

theorem wpList_fop {P : Program} {w : World} {ops : Array Oper} {rest : List Oper} {o : Oper} {a : Act} {Q : Exit → Act → World → Prop} (hgd : o.guard = none) (op : BinOp) (hop : op = .add ∨ op = .sub ∨ op = .mul ∨ op = .quo) (t u : TypeId) (s x : Operand)
    (ho : o.op = .binOp op t s x u) (k : FloatKind) (b c : Nat) (hs : a.eval s = .float k b) (hx : a.eval x = .float k c)
    (h : ∀ r w', Ext w w' → cf k r = fop op k (cf k b) (cf k c) → wpList P ops Q rest (a.put o.dst (.float k r)) w') : wpList P ops Q (o :: rest) a w := by
  refine wpList_plain hgd fun K hK => ?_
  obtain ⟨r, w', hr, hx', hc⟩ := run_fop (P := P) w op hop t k b c
  unfold Oper.wp execOp
  simp only [ho]
  have hg : eqGuard op t s x (a.eval s) (a.eval x) = pure () := by rw [hs, hx]; rcases hop with rfl | rfl | rfl | rfl <;> rfl
  rw [hg, hs, hx]
  simp only [pure_bind, Sem.run_bind, hr, Result.andThen_ok, Sem.run_pure]
  exact hK _ _ (h r w' hx' hc)

theorem gives_value' {P : Program} {R : Value → World → Prop} {v : Value} {w : World} {r : Result Next} (hr : r = .ok (.value v) w) (h : R v w) : Gives P R r := by rw [hr]; exact h
theorem gives_fop {P : Program} {w : World} {R : Value → World → Prop} {o : Oper} {ev : Operand → Value} (op : BinOp) (hop : op = .add ∨ op = .sub ∨ op = .mul ∨ op = .quo) (t u : TypeId) (s x : Operand)
    (ho : o.op = .binOp op t s x u) (k : FloatKind) (b c : Nat) (hs : ev s = .float k b) (hx : ev x = .float k c)
    (h : ∀ r w', Ext w w' → cf k r = fop op k (cf k b) (cf k c) → R (.float k r) w') : Gives P R ((execOp ev o).run P w) := by
  obtain ⟨r, w', hr, hx', hc⟩ := run_fop (P := P) w op hop t k b c
  have e : (execOp ev o).run P w = .ok (.value (.float k r)) w' := by
    unfold execOp
    simp only [ho]
    have hg : eqGuard op t s x (ev s) (ev x) = pure () := by rw [hs, hx]; rcases hop with rfl | rfl | rfl | rfl <;> rfl
    rw [hg, hs, hx]
    simp only [pure_bind, Sem.run_bind, hr, Result.andThen_ok, Sem.run_pure]
  exact gives_value' e (h r w' hx' hc)

/-- Whether a number is finite. -/
def isFin (k : FloatKind) (x : Nat) : Bool := match k.format.read x with
  | .number .. => true
  | _ => false
theorem order_nan {k : FloatKind} {r y : Nat} (h : cf k r = none) : k.format.order r y = none := by
  obtain ⟨s, t, e⟩ := isNaN_iff.1 (cf_none.1 h)
  unfold Ieee.Format.order
  rw [e]
  simp [Ieee.Datum.order]
theorem fin_sub {k : FloatKind} {x r : Nat} (h : cf k r = fop .sub k (cf k x) (cf k x)) : (k.format.order r 0 == some .eq) = isFin k x := by
  rw [fop_cf] at h
  unfold floatBits Ieee.Format.sub at h
  unfold isFin
  cases hd : k.format.read x with
  | number s m i =>
    have hz : (Ieee.Datum.number s m i).sum (Ieee.Datum.number s m i).opposite = some (.number false 0 i) := by
      simp only [Ieee.Datum.opposite, Ieee.Datum.sum]
      have e : Ieee.signed s m (i - min i i).toNat + Ieee.signed (!s) m (i - min i i).toNat = 0 := by
        unfold Ieee.signed
        cases s <;> simp <;> omega
      rw [e]
      cases s <;> simp
    simp only [hd, hz, Option.map_some] at h
    have hw : k.format.write (.number false 0 i) = 0 := by
      show k.format.nearest false 0 i = 0
      simp [Ieee.Format.nearest, Ieee.Format.word]
    rw [hw] at h
    obtain ⟨rfl, _⟩ := cf_some h
    cases k <;> rfl
  | infinity s =>
    have hz : (Ieee.Datum.infinity s).sum (Ieee.Datum.infinity s).opposite = none := by
      cases s <;> rfl
    simp only [hd, hz, Option.map_none] at h
    rw [order_nan h]
    rfl
  | nan s t =>
    have hz : (Ieee.Datum.nan s t).sum (Ieee.Datum.nan s t).opposite = none := rfl
    simp only [hd, hz, Option.map_none] at h
    rw [order_nan h]
    rfl

theorem at_dst {P : Program} {ops : Array Oper} {rest : List Oper} {o : Oper} {a : Act} {Q : Exit → Act → World → Prop} {W : World} {N : Tmp} (_hN : o.dst = some N) (h : wpList P ops Q (o :: rest) a W) : wpList P ops Q (o :: rest) a W := h

end Go.Proofs.Ytkifpligpobiaaa
