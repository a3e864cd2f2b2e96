import Derived.Test.YtgjfdfmbknmpaaaT0
set_option linter.unusedVariables false
set_option linter.unusedSimpArgs false
namespace Go.Proofs.Ytgjfdfmbknmpaaa
open Go.RowKit

/-- Whether a number is greater than zero. -/
def gt0 (a : Option Nat) : Bool := fcmp a (some 0) == some .gt
theorem gt0_c32 (x : Nat) : (FloatKind.f32.format.order x 0 == some .gt) = gt0 (c32 x) := by
  unfold gt0
  rw [← c32_0, fcmp_cf]
theorem read_0 : FloatKind.f32.format.read 0 = .number false 0 (-149) := by decide
theorem order_0 {x : Nat} {s : Bool} {m : Nat} {e : Int} (h : FloatKind.f32.format.read x = .number s m e) : FloatKind.f32.format.order x 0 = some (compare (Ieee.signed s m (e + 149).toNat) 0) := by
  obtain ⟨_, h2, _⟩ := read32_number h
  unfold Ieee.Format.order
  rw [h, read_0]
  simp only [Ieee.Datum.order]
  have hm : min e (-149) = -149 := by omega
  rw [hm]
  have e1 : (e - -149).toNat = (e + 149).toNat := by congr 1
  have e2 : Ieee.signed false 0 (-149 - -149 : Int).toNat = 0 := by decide
  rw [e1, e2]
theorem shl_pos {m k : Nat} (hm : m ≠ 0) : 0 < m <<< k := by
  rw [Nat.shiftLeft_eq]
  exact Nat.mul_pos (Nat.pos_of_ne_zero hm) (Nat.two_pow_pos _)
theorem gt0_num {x : Nat} {s : Bool} {m : Nat} {e : Int} (h : FloatKind.f32.format.read x = .number s m e) : (FloatKind.f32.format.order x 0 == some .gt) = (!s && m != 0) := by
  rw [order_0 h]
  by_cases hm : m = 0
  · subst hm
    have : Ieee.signed s 0 (e + 149).toNat = 0 := by unfold Ieee.signed; cases s <;> simp
    rw [this]
    cases s <;> rfl
  · have hp := shl_pos (k := (e + 149).toNat) hm
    unfold Ieee.signed
    cases s with
    | false =>
      rw [if_neg (by simp)]
      have : compare ((m <<< (e + 149).toNat : Nat) : Int) 0 = .gt := by rw [Int.compare_eq_gt]; omega
      rw [this]
      simp [hm]
    | true =>
      rw [if_pos rfl]
      have : compare (-((m <<< (e + 149).toNat : Nat) : Int)) 0 = .lt := by rw [Int.compare_eq_lt]; omega
      rw [this]
      rfl
theorem fin_num {x : Nat} {s : Bool} {m : Nat} {e : Int} (h : FloatKind.f32.format.read x = .number s m e) : isFin .f32 x = true := by unfold isFin; rw [h]
theorem c32_num {x : Nat} {s : Bool} {m : Nat} {e : Int} (h : FloatKind.f32.format.read x = .number s m e) : c32 x = some x := isFin_c32 (fin_num h)
theorem c32_of_inf {x : Nat} {s : Bool} (h : FloatKind.f32.format.read x = .infinity s) : c32 x = some x := by
  unfold c32 cf
  rw [h]
  rfl
theorem bsome {α β : Type} (a : α) (f : α → Option β) : (some a).bind f = f a := rfl
/-- A root is greater than zero and finite just where the number is. -/
theorem root_test (x : Nat) : (finO (c32 x) && gt0 (c32 x)) = (gt0 (rootF (c32 x)) && finO (rootF (c32 x))) := by
  cases hd : FloatKind.f32.format.read x with
  | nan s t =>
    have : c32 x = none := cf_none.2 (isNaN_iff.2 ⟨s, t, hd⟩)
    rw [this]
    rfl
  | infinity s =>
    have hc := c32_of_inf hd
    have hf : finO (c32 x) = false := by rw [finO_cf]; unfold isFin; rw [hd]
    rw [hf]
    have hw := wide_inf hd
    have hrd : FloatKind.f64.format.read (FloatKind.f64.format.write (.infinity s)) = .infinity s := read_infRung .f64 s
    cases s with
    | true =>
      have : rootF (c32 x) = none := by
        unfold rootF
        rw [hc, bsome, hw, bsome]
        unfold Ieee.Format.sqrt
        rw [hrd]
        rfl
      rw [this]
      rfl
    | false =>
      have : rootF (c32 x) = some (FloatKind.f32.format.word false FloatKind.f32.format.infRung) := by
        unfold rootF
        rw [hc, bsome, hw, bsome]
        unfold Ieee.Format.sqrt
        rw [hrd]
        exact narrow_inf (read_infRung .f64 false)
      rw [this]
      have h2 : finO (some (FloatKind.f32.format.word false FloatKind.f32.format.infRung)) = false := by decide
      rw [h2, Bool.and_false]
      rfl
  | number s m e =>
    have hc := c32_num hd
    have hf : finO (c32 x) = true := by rw [finO_cf]; exact fin_num hd
    rw [hf, Bool.true_and, ← gt0_c32, gt0_num hd]
    by_cases hm : m = 0
    · subst hm
      obtain ⟨y, hy⟩ : ∃ y, wide x = some y := ⟨_, (wide_num hd).1⟩
      have hl : (!s && (0 : Nat) != 0) = false := by cases s <;> rfl
      rw [hl]
      cases hz : FloatKind.f64.format.sqrt y with
      | none =>
        have : rootF (c32 x) = none := by
          unfold rootF
          rw [hc, bsome, hy, bsome, hz]
          rfl
        rw [this]
        rfl
      | some z =>
        have hR : rootF (c32 x) = narrow z := by
          unfold rootF
          rw [hc, bsome, hy, bsome, hz]
          rfl
        rw [hR]
        have hyw : y = FloatKind.f64.format.word s 0 := by
          have h1 := (wide_num hd).1
          rw [hy] at h1
          have := Option.some.inj h1
          rw [this]
          show FloatKind.f64.format.nearest s 0 e = _
          unfold Ieee.Format.nearest
          rw [if_pos rfl]
        have key : ∀ t : Bool, y = FloatKind.f64.format.word t 0 → narrow z = some (FloatKind.f32.format.word t 0) := by
          intro t ht
          have hrd : FloatKind.f64.format.read (FloatKind.f64.format.word t 0) = .number t 0 (-1074) := by cases t <;> decide
          unfold Ieee.Format.sqrt at hz
          rw [ht, hrd] at hz
          simp only [Ieee.Datum.root] at hz
          rw [if_pos trivial] at hz
          obtain rfl := Option.some.inj hz
          have hzw : FloatKind.f64.format.write (.number t 0 (-1074)) = FloatKind.f64.format.word t 0 := by
            show FloatKind.f64.format.nearest t 0 _ = _
            unfold Ieee.Format.nearest
            rw [if_pos rfl]
          rw [hzw]
          have hn : FloatKind.f32.format.nearest t 0 (-1074) = FloatKind.f32.format.word t 0 := by unfold Ieee.Format.nearest; rw [if_pos rfl]
          rw [narrow_num hrd (by rw [hn]; cases t <;> decide), hn]
        rw [key s hyw]
        cases s <;> decide
    · cases s with
      | false =>
        obtain ⟨y, z, r, m', e', h1, h2, h3, h4, h5⟩ := root_pos hd hm
        have hR : rootF (c32 x) = some r := by
          unfold rootF
          rw [hc, bsome, h1, bsome, h2]
          exact h3
        have hcr := c32_num h4
        rw [hR, ← hcr, ← gt0_c32, gt0_num h4, finO_cf, fin_num h4]
        have q1 : (m != 0) = true := by simp [hm]
        have q2 : (m' != 0) = true := by simp [h5]
        rw [q1, q2]
        rfl
      | true =>
        obtain ⟨d, r, hr, hw, hs⟩ := wide_exact hd hm
        have hne : m <<< d ≠ 0 := by have := shl_pos (k := d) hm; omega
        have : rootF (c32 x) = none := by
          unfold rootF
          rw [hc, bsome, hw, bsome]
          unfold Ieee.Format.sqrt
          rw [hs true]
          simp only [Ieee.Datum.root]
          rw [if_neg hne, if_pos trivial]
          rfl
        rw [this]
        rfl

end Go.Proofs.Ytgjfdfmbknmpaaa
