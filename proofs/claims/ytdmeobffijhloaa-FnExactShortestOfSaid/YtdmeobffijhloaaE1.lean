
import Derived.Test.YtdmeobffijhloaaM6

import Derived.Maps.AppendAt
set_option linter.unusedVariables false
set_option linter.unusedSimpArgs false

namespace Go.Proofs.Ytdmeobffijhloaa

open Go.RowKit

section

variable {P : Program}

end

/-- What a function answers whose result is a Whole in a block. -/
theorem resW {fn : Func} {t : Tmp} (h : fn.results = #[.cell t 31]) {tmps : Array Value} {w : World} {b : Nat} (ht : tmps.getD t undef = .pointer (some ⟨b, 0, none⟩)) {v0 v1 v2 : Value} {T : TypeId} (hb : Blk w b #[v0, v1, v2] T) :
    (results fn tmps).run Try.prog w = .ok (.agg #[v0, v1, v2]) w := by
  have c0 : w.cell? ⟨b, 0, none⟩ = some v0 := hb.cell 0 rfl
  have c1 : w.cell? ⟨b, 1, none⟩ = some v1 := hb.cell 1 rfl
  have c2 : w.cell? ⟨b, 2, none⟩ = some v2 := hb.cell 2 rfl
  rw [Array.getD_eq_getD_getElem?] at ht
  simp only [results, h]
  simp [go_sem, ht, c0, c1, c2]
theorem resWB {fn : Func} {t u : Tmp} (h : fn.results = #[.cell t 31, .tmp u]) {tmps : Array Value} {w : World} {b : Nat} (ht : tmps.getD t undef = .pointer (some ⟨b, 0, none⟩)) {v0 v1 v2 x : Value} {T : TypeId} (hu : tmps.getD u undef = x) (hb : Blk w b #[v0, v1, v2] T) :
    (results fn tmps).run Try.prog w = .ok (.tuple #[.agg #[v0, v1, v2], x]) w := by
  have c0 : w.cell? ⟨b, 0, none⟩ = some v0 := hb.cell 0 rfl
  have c1 : w.cell? ⟨b, 1, none⟩ = some v1 := hb.cell 1 rfl
  have c2 : w.cell? ⟨b, 2, none⟩ = some v2 := hb.cell 2 rfl
  rw [Array.getD_eq_getD_getElem?] at ht hu
  simp only [results, h]
  simp [go_sem, ht, hu, c0, c1, c2]

/-- The Whole that is made, with m numbers. -/
def WB (w : World) (R C : Nat) (F : Nat → Nat → Int) (wr : World) (m : Nat) : Prop := ∃ A k, Blk wr (w.heap.size + 1) #[.int .i64 R, .int .i64 C, .slice A m k] 31 ∧
  Blk wr w.heap.size #[.int .i64 0, .int .i64 0, .slice none 0 0] 31 ∧ Own wr w.heap.size 2 (.slice A m k) (ints (tab C F m)) ∧ Ext w wr
theorem WB.start (w : World) (R C : Nat) (F : Nat → Nat → Int) : WB w R C F ((w.alloc (.cells #[.int .i64 0, .int .i64 0, .slice none 0 0] 31)).alloc (.cells #[.int .i64 R, .int .i64 C, .slice none 0 0] 31)) 0 :=
  ⟨none, 0, by simpa using Blk.new (w.alloc (.cells #[.int .i64 0, .int .i64 0, .slice none 0 0] 31)) _ _, (Blk.new w _ _).ext ((Ext.refl _).alloc _), own_nil _ _ _, ((Ext.refl _).alloc _).alloc _⟩
/-- One number more. -/
theorem WB.next {w : World} {R C : Nat} {F : Nat → Nat → Int} {wr w2 w3 : World} {i k : Nat} {A A' : Option Addr} {c c' : Nat} (hk : k < C) (hx' : Ext wr w2)
    (h1 : Blk wr (w.heap.size + 1) #[.int .i64 R, .int .i64 C, .slice A (i * C + k) c] 31) (h2 : Blk wr w.heap.size #[.int .i64 0, .int .i64 0, .slice none 0 0] 31)
    (h3 : Own wr w.heap.size 2 (.slice A (i * C + k) c) (ints (tab C F (i * C + k)))) (h4 : Ext w wr)
    (h5 : Own w3 w.heap.size 2 (.slice A' (i * C + k + 1) c') (ints (tab C F (i * C + k)) ++ [.int .i64 (F i k)])) (h6 : Wr w2 w3 (.slice A (i * C + k) c)) :
    WB w R C F (w3.setCell ⟨w.heap.size + 1, 2, none⟩ (.slice A' (i * C + k + 1) c')) (i * C + (k + 1)) := by
  have b1 := (h1.ext hx').wr h6 (h3.ext hx') (by decide)
  have b2 := (h2.ext hx').wr h6 (h3.ext hx') (by decide)
  refine ⟨A', c', ?_, b2.other (by omega) _ _, ?_, (h6.ext (h4.trans hx') (h3.ext hx')).set (by simp) _⟩
  · exact b1.set 2 _
  · rw [← tab_succ F i k hk, ints_append]
    exact h5.setBlk b1 (by decide) _ _

end Go.Proofs.Ytdmeobffijhloaa
