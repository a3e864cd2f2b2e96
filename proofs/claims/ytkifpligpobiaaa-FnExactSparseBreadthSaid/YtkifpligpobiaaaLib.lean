
/- Words of this seat's own: slices that read as lists, tests as Bools. Nothing of the program. -/

import Derived.WalkKit

import Derived.WalkSpells

import Derived.WalkLawsBesides

import Derived.Lib.Hide

import Derived.Deep.OwnRows

import Derived.Test.YtkifpligpobiaaaReg
set_option linter.unusedVariables false
set_option linter.unusedSimpArgs false

namespace Go.Proofs.Ytkifpligpobiaaa

open Go.RowKit

theorem bcell {W w1 : World} (hb : Below W.heap.size W w1) : (∀ b o, b < W.heap.size → w1.cell? ⟨b, o, none⟩ = W.cell? ⟨b, o, none⟩) ∧ (∀ b o, b < W.heap.size → w1.frozen? ⟨b, o, none⟩ = W.frozen? ⟨b, o, none⟩) :=
  ⟨fun b o h => hb.cell (p := ⟨b, o, none⟩) h, fun b o h => hb.frozen (p := ⟨b, o, none⟩) h⟩

theorem ret_int {k : IntKind} {a b : Int} (h : a = b) : Ending.returned (.int k a) = .returned (.int k b) := by rw [h]
theorem ret_bool {a b : Bool} (h : a = b) : Ending.returned (.bool a) = .returned (.bool b) := by rw [h]

theorem cell_below {w w1 : World} (h : Below w.heap.size w w1) {a : Addr} {v : Value} (hc : w.cell? a = some v) : w1.cell? a = some v := (h.cell (World.block_lt_of_cell? w a hc)).trans hc

/-- 'low <= n && n <= high'. -/
def inR (low n high : Int) : Bool := decide (low ≤ n) && decide (n ≤ high)
theorem inR_iff {low n high : Int} : inR low n high = true ↔ low ≤ n ∧ n ≤ high := by simp [inR]
theorem inR_false {low n high : Int} : inR low n high = false ↔ n < low ∨ high < n := by simp [inR]; omega

def ints (xs : List Int) : List Value := xs.map fun x => .int .i64 x
theorem ints_length (xs : List Int) : (ints xs).length = xs.length := by simp [ints]
def rd (xs : List Int) (i : Int) : Int := xs.getD i.toNat 0

/-- The slice at address A of n elements of one cell reads as vs. -/
structure Rds (w : World) (A : Option Addr) (n : Nat) (vs : List Value) : Prop where
  len : vs.length = n
  small : n ≤ 9223372036854775807
  at' : 0 < n → ∃ ad, A = some ad ∧ ∀ j, j < n → w.cell? (ad.add j) = vs[j]?
theorem Rds.below {w w1 : World} {A : Option Addr} {n : Nat} {vs : List Value} (h : Rds w A n vs) (hb : Ext w w1) : Rds w1 A n vs :=
  ⟨h.len, h.small, fun hn => by
    obtain ⟨ad, e, hc⟩ := h.at' hn
    refine ⟨ad, e, fun j hj => ?_⟩
    have h1 := hc j hj
    rw [List.getElem?_eq_getElem (by rw [h.len]; exact hj)] at h1 ⊢
    exact cell_below hb h1⟩
theorem Rds.int {w : World} {A : Option Addr} {n : Nat} {xs : List Int} (h : Rds w A n (ints xs)) (i : Int) (h0 : 0 ≤ i) (h1 : i < n) : ∃ ad, A = some ad ∧ w.cell? (ad.add i.toNat) = some (.int .i64 (rd xs i)) := by
  obtain ⟨ad, e, hc⟩ := h.at' (by omega)
  refine ⟨ad, e, ?_⟩
  have hl : i.toNat < xs.length := by have := h.len; rw [ints_length] at this; omega
  rw [hc _ (by omega)]
  simp [ints, rd, hl]
theorem Rds.intN {w : World} {A : Option Addr} {n : Nat} {xs : List Int} (h : Rds w A n (ints xs)) (k : Nat) (h1 : k < n) : ∃ ad, A = some ad ∧ w.cell? (ad.add k) = some (.int .i64 (rd xs k)) := by
  obtain ⟨ad, e, hc⟩ := h.int k (by omega) (by omega)
  exact ⟨ad, e, by simpa using hc⟩
theorem Rds.ilen {w : World} {A : Option Addr} {n : Nat} {xs : List Int} (h : Rds w A n (ints xs)) : xs.length = n := by have := h.len; rwa [ints_length] at this

/-- Where the first one is of which p holds; -1. -/
def idxI (p : Int → Bool) (xs : List Int) : Int := match xs.findIdx? p with | some i => i | none => -1
theorem rd_get {xs : List Int} {k : Nat} (h : k < xs.length) : rd xs k = xs[k] := by simp [rd, h]
theorem idxI_hit {p : Int → Bool} {xs : List Int} {k : Nat} (h : k < xs.length) (hno : ∀ j, j < k → p (rd xs j) = false) (hk : p (rd xs k) = true) : idxI p xs = k := by
  unfold idxI
  have : xs.findIdx? p = some k := by
    rw [List.findIdx?_eq_some_iff_getElem]
    refine ⟨h, by rw [← rd_get h]; exact hk, fun j hj => ?_⟩
    rw [← rd_get (by omega), hno j hj]; simp
  rw [this]
theorem idxI_none {p : Int → Bool} {xs : List Int} (hno : ∀ j, j < xs.length → p (rd xs j) = false) : idxI p xs = -1 := by
  unfold idxI
  have : xs.findIdx? p = none := by
    rw [List.findIdx?_eq_none_iff]
    intro x hx
    obtain ⟨j, hj, rfl⟩ := List.mem_iff_getElem.1 hx
    rw [← rd_get hj]; exact hno j hj
  rw [this]
theorem idxI_any (p : Int → Bool) (xs : List Int) : decide (0 ≤ idxI p xs) = xs.any p := by
  unfold idxI
  cases h : xs.findIdx? p with
  | none =>
    rw [List.findIdx?_eq_none_iff] at h
    simp only [Int.reduceNeg, Int.reduceLE, decide_false]
    rw [Eq.comm, List.any_eq_false]
    intro x hx; simp [h x hx]
  | some i =>
    rw [List.findIdx?_eq_some_iff_getElem] at h
    obtain ⟨hi, hp, _⟩ := h
    simp only [Int.natCast_nonneg, decide_true]
    rw [Eq.comm, List.any_eq_true]
    exact ⟨_, List.getElem_mem hi, hp⟩

theorem ints_append (xs ys : List Int) : ints (xs ++ ys) = ints xs ++ ints ys := by simp [ints]
theorem ints_replicate (n : Nat) (x : Int) : ints (List.replicate n x) = List.replicate n (.int .i64 x) := by simp [ints]
theorem ints_get {xs : List Int} {j : Nat} (h : j < xs.length) : (ints xs)[j]? = some (.int .i64 (rd xs j)) := by simp [ints, rd, h]
theorem ints_set (xs : List Int) (j : Nat) (x : Int) : ints (xs.set j x) = (ints xs).set j (.int .i64 x) := by simp [ints, List.map_set]
/-- The first k of xs, and z behind them. -/
def upto {α : Type} (xs : List α) (k n : Nat) (z : α) : List α := xs.take k ++ List.replicate (n - k) z
theorem upto_zero {α : Type} (xs : List α) (n : Nat) (z : α) : upto xs 0 n z = List.replicate n z := by simp [upto]
theorem upto_all {α : Type} {xs : List α} {n : Nat} (h : xs.length = n) (z : α) : upto xs n n z = xs := by simp [upto, ← h]
theorem upto_length {α : Type} {xs : List α} {k n : Nat} (h : xs.length = n) (hk : k ≤ n) (z : α) : (upto xs k n z).length = n := by simp [upto]; omega
theorem upto_get {α : Type} {xs : List α} {k n : Nat} (h : xs.length = n) (hk : k ≤ n) (z : α) (j : Nat) : (upto xs k n z)[j]? = if j < k then xs[j]? else if j < n then some z else none := by
  unfold upto
  rw [List.getElem?_append]
  have hm : min k xs.length = k := by omega
  simp only [List.length_take, hm]
  by_cases h1 : j < k
  · rw [if_pos h1, if_pos h1, List.getElem?_take, if_pos h1]
  · rw [if_neg h1, if_neg h1, List.getElem?_replicate]
    by_cases h2 : j < n
    · rw [if_pos (by omega), if_pos h2]
    · rw [if_neg (by omega), if_neg h2]
theorem upto_set {α : Type} {xs : List α} {k n : Nat} (h : xs.length = n) (hk : k < n) (z x : α) (hx : xs[k]? = some x) : (upto xs k n z).set k x = upto xs (k + 1) n z := by
  apply List.ext_getElem?
  intro j
  rw [List.getElem?_set, upto_get h (by omega), upto_get h (by omega), upto_length h (by omega)]
  by_cases hj : k = j
  · subst hj
    rw [if_pos rfl, if_pos hk, if_pos (by omega), hx]
  · rw [if_neg hj]
    by_cases h1 : j < k
    · rw [if_pos h1, if_pos (by omega)]
    · rw [if_neg h1, if_neg (show ¬ j < k + 1 by omega)]

/-- k, k + 1, ..: n of them. -/
def marks (k : Int) (n : Nat) : List Int := (List.range n).map fun (j : Nat) => k + (j : Int)
theorem marks_length (k : Int) (n : Nat) : (marks k n).length = n := by simp [marks]
theorem marks_rd {k : Int} {n j : Nat} (h : j < n) : rd (marks k n) j = k + j := by simp [rd, marks, h]
/-- The first j are new, those behind are as they were. -/
def mixed (vs us : List Value) (j : Nat) : List Value := us.take j ++ vs.drop j
theorem mixed_zero (vs us : List Value) : mixed vs us 0 = vs := by simp [mixed]
theorem mixed_all {vs us : List Value} {j : Nat} (h : us.length = vs.length) (hj : vs.length = j) : mixed vs us j = us := by subst hj; simp [mixed, ← h]
theorem mixed_length {vs us : List Value} (h : us.length = vs.length) (j : Nat) (hj : j ≤ vs.length) : (mixed vs us j).length = vs.length := by simp [mixed]; omega
theorem mixed_get {vs us : List Value} (h : us.length = vs.length) {j : Nat} (hj : j ≤ vs.length) (i : Nat) : (mixed vs us j)[i]? = if i < j then us[i]? else vs[i]? := by
  unfold mixed
  rw [List.getElem?_append]
  have hm : min j us.length = j := by omega
  simp only [List.length_take, hm]
  by_cases h1 : i < j
  · rw [if_pos h1, if_pos h1, List.getElem?_take, if_pos h1]
  · rw [if_neg h1, if_neg h1, List.getElem?_drop, show j + (i - j) = i from by omega]
theorem mixed_set {vs us : List Value} (h : us.length = vs.length) {j : Nat} (hj : j < vs.length) (x : Value) (hx : us[j]? = some x) : (mixed vs us j).set j x = mixed vs us (j + 1) := by
  apply List.ext_getElem?
  intro i
  rw [List.getElem?_set, mixed_get h (by omega), mixed_get h (by omega), mixed_length h j (by omega)]
  by_cases hi : j = i
  · subst hi
    rw [if_pos rfl, if_pos hj, if_pos (by omega), hx]
  · rw [if_neg hi]
    by_cases h1 : i < j
    · rw [if_pos h1, if_pos (by omega)]
    · rw [if_neg h1, if_neg (show ¬ i < j + 1 by omega)]

/-- The program's test of a Whole. -/
def isWholeB (r c : Int) (xs : List Int) (most : Int) : Bool := inR 1 r 6 && inR 1 c 6 && decide ((xs.length : Int) = r * c) && xs.all fun x => inR (-most) x most

/-! ### Rows of the call's own -/

/-- The slice v owns, from block base on, cells of type e that read vs. -/
structure Own (w : World) (base : Nat) (e : TypeId) (v : Value) (vs : List Value) : Prop where
  row : w.ownsRow base e 1 v vs.length vs
  small : vs.length ≤ 1048576
theorem Own.ext {w w' : World} {base : Nat} {e : TypeId} {v : Value} {vs : List Value} (h : Own w base e v vs) (hx : Ext w w') : Own w' base e v vs :=
  ⟨h.row.kept (row := none) ⟨hx.os, hx.tape, hx.output, hx.size, fun i hi _ => hx.block i hi⟩ (by cases v.ownBlock <;> simp), h.small⟩
theorem Own.base {w : World} {base b : Nat} {e : TypeId} {v : Value} {vs : List Value} (h : Own w base e v vs) (hb : b ≤ base) : Own w b e v vs := by
  refine ⟨⟨h.row.1, ?_⟩, h.small⟩
  rcases h.row.2 with h0 | ⟨g, cap, cur, h1, h2, h3⟩
  · exact .inl h0
  · exact .inr ⟨g, cap, cur, h1, Nat.le_trans hb h2, h3⟩
theorem Own.rds {w : World} {base : Nat} {e : TypeId} {v : Value} {vs : List Value} (h : Own w base e v vs) : ∃ A c, v = .slice A vs.length c ∧ Rds w A vs.length vs := by
  have hs := h.small
  rcases h.row.2 with ⟨rfl, h0⟩ | ⟨g, cap, cur, rfl, _⟩
  · exact ⟨none, 0, by rw [h0], rfl, by omega, fun hp => by omega⟩
  · exact ⟨_, cap, rfl, rfl, by omega, fun _ => ⟨_, rfl, fun j hj => by
      rw [List.getElem?_eq_getElem hj]
      exact h.row.cells (g := g) rfl j _ (List.getElem?_eq_getElem hj)⟩⟩
theorem own_nil (w : World) (base : Nat) (e : TypeId) : Own w base e (.slice none 0 0) [] := ⟨World.ownsRow_nil _ _ _ _, by simp⟩
theorem Own.len {w : World} {base : Nat} {e : TypeId} {A : Option Addr} {n cap : Nat} {vs : List Value} (h : Own w base e (.slice A n cap) vs) : vs.length = n := by
  rcases h.row.2 with ⟨h1, h0⟩ | ⟨g, cap', cur, h1, _⟩
  · simp only [Value.slice.injEq] at h1; omega
  · simp only [Value.slice.injEq] at h1; omega
theorem Own.at_ {w : World} {base g : Nat} {e : TypeId} {n cap : Nat} {vs : List Value} (h : Own w base e (.slice (some ⟨g, 0, none⟩) n cap) vs) (j : Nat) (hj : j < n) : w.cell? ⟨g, j, none⟩ = vs[j]? ∧ w.frozen? ⟨g, j, none⟩ = false := by
  have hl := h.len
  have hr := h.row
  rw [hl] at hr
  exact ⟨hr.cellAt j (by omega), hr.frozenAt j⟩
/-- Its address, where it has an element. -/
theorem Own.head {w : World} {base : Nat} {e : TypeId} {A : Option Addr} {n cap : Nat} {vs : List Value} (h : Own w base e (.slice A n cap) vs) (hn : 0 < n) : ∃ g, A = some ⟨g, 0, none⟩ ∧ base ≤ g := by
  rcases h.row.2 with ⟨h1, h0⟩ | ⟨g, cap', cur, h1, hb, _⟩
  · simp only [Value.slice.injEq] at h1; omega
  · simp only [Value.slice.injEq] at h1; exact ⟨g, h1.1, hb⟩
theorem Own.made (W : World) (e : TypeId) (z : Value) (n : Nat) (hz : z.cells = #[z]) (hn : n ≤ 1048576) : Own (W.alloc (.cells (madeCells #[z] n) e)) W.heap.size e (.slice (some ⟨W.heap.size, 0, none⟩) n n) (List.replicate n z) := by
  refine ⟨?_, by simpa using hn⟩
  have h := World.ownsRow_lit (base := W.heap.size) (e := e) (size := 1) W (madeCells #[z] n) n (Nat.le_refl _) (by unfold maxLen; omega) (by simp [size_madeCells])
  rw [toList_madeCells_one] at h
  simpa using h
theorem Own.set {w : World} {base : Nat} {e : TypeId} {v : Value} {vs : List Value} (h : Own w base e v vs) {p : Addr} (hp : p.block < base) (u : Value) : Own (w.setCell p u) base e v vs :=
  ⟨ownsRow_setCell_below h.row hp u, h.small⟩
theorem Ext.set {w w' : World} (h : Ext w w') {p : Addr} (hp : w.heap.size ≤ p.block) (u : Value) : Ext w (w'.setCell p u) := Below.setCell h hp u
theorem ecell {W w1 : World} (hb : Ext W w1) : (∀ b o, b < W.heap.size → w1.cell? ⟨b, o, none⟩ = W.cell? ⟨b, o, none⟩) ∧ (∀ b o, b < W.heap.size → w1.frozen? ⟨b, o, none⟩ = W.frozen? ⟨b, o, none⟩) := bcell hb
/-- Writes that hit the row v alone. -/
def Wr (w w' : World) (v : Value) : Prop := w.grownBy w' v.ownBlock
theorem Wr.refl (w : World) (v : Value) : Wr w w v := World.grownBy.refl _ _
theorem Wr.of_ext {w w' : World} (h : Ext w w') (v : Value) : Wr w w' v := ⟨h.os, h.tape, h.output, h.size, fun i hi _ => h.block i hi⟩
theorem Wr.trans {a b c : World} {v : Value} (h : Wr a b v) (k : Wr b c v) : Wr a c v :=
  ⟨k.os.trans h.os, k.tape.trans h.tape, k.output.trans h.output, Nat.le_trans h.size k.size, fun i hi hn => (k.block i (Nat.lt_of_lt_of_le hi h.size) hn).trans (h.block i hi hn)⟩
theorem Own.stored {w : World} {base g : Nat} {e : TypeId} {n cap : Nat} {vs : List Value} (h : Own w base e (.slice (some ⟨g, 0, none⟩) n cap) vs) (j : Nat) (u : Value) :
    Own (w.setCell ⟨g, j, none⟩ u) base e (.slice (some ⟨g, 0, none⟩) n cap) (vs.set j u) ∧ Wr w (w.setCell ⟨g, j, none⟩ u) (.slice (some ⟨g, 0, none⟩) n cap) := by
  have hl := h.len
  have hr := h.row
  rw [hl] at hr
  obtain ⟨h1, h2⟩ := hr.stored j u
  exact ⟨⟨by rw [List.length_set, hl]; exact h1, by rw [List.length_set]; exact h.small⟩, h2⟩
/-- Another row, that begins behind all that lay when v was there or before v, lives on. -/
theorem Own.other {w w' : World} {base : Nat} {e : TypeId} {v v' : Value} {vs : List Value} (h : Own w base e v vs) (hw : Wr w w' v') (hne : v.ownBlock = none ∨ v.ownBlock ≠ v'.ownBlock) : Own w' base e v vs :=
  ⟨h.row.kept hw hne, h.small⟩
theorem Own.ne {w0 w : World} {b1 : Nat} {e1 e2 : TypeId} {v1 v2 : Value} {vs1 vs2 : List Value} (h1 : Own w0 b1 e1 v1 vs1) (h2 : Own w w0.heap.size e2 v2 vs2) : (v1.ownBlock = none ∨ v1.ownBlock ≠ v2.ownBlock) ∧ (v2.ownBlock = none ∨ v2.ownBlock ≠ v1.ownBlock) := by
  cases e1 : v1.ownBlock with
  | none => cases e2 : v2.ownBlock with
    | none => exact ⟨.inl rfl, .inl rfl⟩
    | some k => exact ⟨.inl rfl, .inr (by simp)⟩
  | some j =>
    cases e2 : v2.ownBlock with
    | none => exact ⟨.inr (by simp), .inl rfl⟩
    | some k =>
      have a := h1.row.lt j e1
      have b := h2.row.lt k e2
      exact ⟨.inr (by simp; omega), .inr (by simp; omega)⟩
/-- What lay in a world from which the row's blocks are new is as it was. -/
theorem Wr.ext {w0 w w' : World} {e : TypeId} {v : Value} {vs : List Value} (hw : Wr w w' v) (hx : Ext w0 w) (h : Own w w0.heap.size e v vs) : Ext w0 w' :=
  Below.grown hx hw hx.size fun k hk => (h.row.lt k hk).1

/-! ### Blocks that hold a struct of the call's own -/

def Blk (w : World) (b : Nat) (cs : Array Value) (T : TypeId) : Prop := w.heap[b]? = some (.cells cs T (0, 0))
theorem Blk.lt {w : World} {b : Nat} {cs : Array Value} {T : TypeId} (h : Blk w b cs T) : b < w.heap.size := lt_of_block h
theorem Blk.ext {w w' : World} {b : Nat} {cs : Array Value} {T : TypeId} (h : Blk w b cs T) (hx : Ext w w') : Blk w' b cs T := (hx.block b h.lt).trans h
theorem Blk.new (w : World) (cs : Array Value) (T : TypeId) : Blk (w.alloc (.cells cs T)) w.heap.size cs T := heap_alloc_new w _
theorem Blk.cell {w : World} {b : Nat} {cs : Array Value} {T : TypeId} (h : Blk w b cs T) (i : Nat) {v : Value} (hv : cs[i]? = some v) : w.cell? ⟨b, i, none⟩ = some v := (cell_of_row w b i cs T (0, 0) h).trans hv
theorem Blk.free {w : World} {b : Nat} {cs : Array Value} {T : TypeId} (h : Blk w b cs T) (i : Nat) : w.frozen? ⟨b, i, none⟩ = false := frozen_of_row w b i cs T h
theorem Blk.set {w : World} {b : Nat} {cs : Array Value} {T : TypeId} (h : Blk w b cs T) (i : Nat) (v : Value) : Blk (w.setCell ⟨b, i, none⟩ v) b (cs.setIfInBounds i v) T := heap_setCell_same w b i cs T v h
theorem Blk.other {w : World} {b b' : Nat} {cs : Array Value} {T : TypeId} (h : Blk w b cs T) (hne : b ≠ b') (i : Nat) (v : Value) : Blk (w.setCell ⟨b', i, none⟩ v) b cs T := (Below.heap_setCell w _ v b hne).trans h
theorem own_block {w : World} {base : Nat} {e : TypeId} {v : Value} {vs : List Value} (h : Own w base e v vs) (k : Nat) (hk : v.ownBlock = some k) : ∃ cur, w.heap[k]? = some (.cells cur e (0, 0)) := by
  rcases h.row.2 with ⟨rfl, _⟩ | ⟨g, cap, cur, rfl, _, hg, _⟩
  · simp [Value.ownBlock] at hk
  · have : g = k := by simpa [Value.ownBlock] using hk
    subst this
    exact ⟨cur, hg⟩
theorem Blk.ne {w : World} {b base : Nat} {cs : Array Value} {T e : TypeId} {v : Value} {vs : List Value} (h : Blk w b cs T) (ho : Own w base e v vs) (hT : T ≠ e) : v.ownBlock ≠ some b := by
  intro hk
  obtain ⟨cur, hg⟩ := own_block ho b hk
  unfold Blk at h
  rw [h] at hg
  simp only [Option.some.injEq, Obj.cells.injEq] at hg
  exact hT hg.2.1
/-- A row is written: a struct lives on. -/
theorem Blk.wr {w w' : World} {b base : Nat} {cs : Array Value} {T e : TypeId} {v : Value} {vs : List Value} (h : Blk w b cs T) (hw : Wr w w' v) (ho : Own w base e v vs) (hT : T ≠ e) : Blk w' b cs T :=
  (hw.block b h.lt (fun he => h.ne ho hT he.symm)).trans h
/-- A struct is written: a row lives on. -/
theorem Own.setBlk {w : World} {b base : Nat} {cs : Array Value} {T e : TypeId} {v : Value} {vs : List Value} (ho : Own w base e v vs) (h : Blk w b cs T) (hT : T ≠ e) (i : Nat) (u : Value) : Own (w.setCell ⟨b, i, none⟩ u) base e v vs :=
  ⟨ownsRow_setCell_other ho.row (h.ne ho hT) u, ho.small⟩
theorem Own.reads {w : World} {base : Nat} {e : TypeId} {A : Option Addr} {n cap : Nat} {vs : List Value} (h : Own w base e (.slice A n cap) vs) : Rds w A n vs := by
  obtain ⟨A', c', he, hr⟩ := h.rds
  simp only [Value.slice.injEq] at he
  rw [he.1, he.2.1]
  exact hr

/-! ### Facts on what lies inside a value -/

def sub : Value → List Nat → Option Value
  | v, [] => some v
  | .agg cs, i :: p => (cs[i]?).bind (sub · p)
  | .tuple cs, i :: p => (cs[i]?).bind (sub · p)
  | _, _ => none
def RdsF (w : World) (v : Value) (p : List Nat) (vs : List Value) : Prop := ∀ A n k, sub v p = some (.slice A n k) → Rds w A n vs
def OwnF (w : World) (base : Nat) (e : TypeId) (v : Value) (p : List Nat) (vs : List Value) : Prop := ∀ A n k, sub v p = some (.slice A n k) → Own w base e (.slice A n k) vs
def BlkF (w : World) (v : Value) (base : Nat) (cs : Array Value) (T : TypeId) : Prop := ∀ b, v = .pointer (some ⟨b, 0, none⟩) → Blk w b cs T ∧ base ≤ b
theorem RdsF.ext {w w' : World} {v : Value} {p : List Nat} {vs : List Value} (h : RdsF w v p vs) (hx : Ext w w') : RdsF w' v p vs := fun A n k e => (h A n k e).below hx
theorem OwnF.ext {w w' : World} {base : Nat} {e : TypeId} {v : Value} {p : List Nat} {vs : List Value} (h : OwnF w base e v p vs) (hx : Ext w w') : OwnF w' base e v p vs := fun A n k e => (h A n k e).ext hx
theorem BlkF.ext {w w' : World} {v : Value} {base : Nat} {cs : Array Value} {T : TypeId} (h : BlkF w v base cs T) (hx : Ext w w') : BlkF w' v base cs T := fun b e => ⟨(h b e).1.ext hx, (h b e).2⟩
theorem RdsF.of {w : World} {A : Option Addr} {n k : Nat} {vs : List Value} (h : Rds w A n vs) {v : Value} {p : List Nat} (e : sub v p = some (.slice A n k)) : RdsF w v p vs := by
  intro A' n' k' e'
  rw [e] at e'
  simp only [Option.some.injEq, Value.slice.injEq] at e'
  rw [← e'.1, ← e'.2.1]
  exact h
theorem OwnF.of {w : World} {base : Nat} {t : TypeId} {A : Option Addr} {n k : Nat} {vs : List Value} (h : Own w base t (.slice A n k) vs) {v : Value} {p : List Nat} (e : sub v p = some (.slice A n k)) : OwnF w base t v p vs := by
  intro A' n' k' e'
  rw [e] at e'
  simp only [Option.some.injEq, Value.slice.injEq] at e'
  rw [← e'.1, ← e'.2.1, ← e'.2.2]
  exact h

end Go.Proofs.Ytkifpligpobiaaa
