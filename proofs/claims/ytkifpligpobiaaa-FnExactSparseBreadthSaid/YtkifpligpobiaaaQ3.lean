
import Derived.Test.YtkifpligpobiaaaQ2
set_option linter.unusedVariables false
set_option linter.unusedSimpArgs false

namespace Go.Proofs.Ytkifpligpobiaaa

open Go.RowKit


theorem Own.lt_size {w : World} {base : Nat} {e : TypeId} {v : Value} {vs : List Value} (h : Own w base e v vs) (k : Nat) (hk : v.ownBlock = some k) : k < w.heap.size := by
  obtain ⟨c, g⟩ := own_block h k hk
  by_cases hl : k < w.heap.size
  · exact hl
  · rw [Array.getElem?_eq_none (by omega)] at g
    cases g
/-- A row that grew meets no other. -/
theorem NeV.app {w : World} {base : Nat} {e : TypeId} {v1 v2 v2' : Value} {vs : List Value} (h : NeV v1 v2) (h1 : Own w base e v1 vs) (hb : v2'.ownBlock = v2.ownBlock ∨ v2'.ownBlock = some w.heap.size) : NeV v1 v2' := by
  rcases hb with hb | hb
  · unfold NeV
    rw [hb]
    exact h
  · unfold NeV
    rw [hb]
    cases hv : v1.ownBlock with
    | none => exact ⟨.inl rfl, .inr (by simp)⟩
    | some k =>
      have := h1.lt_size k hv
      have hne : k ≠ w.heap.size := by omega
      exact ⟨.inr (by simpa using hne), .inr (by simpa using fun e => hne e.symm)⟩

/-- A sparse square that grows, in a block. -/
def CL (w0 : World) (b n : Nat) (ss cs : List Int) (L : List (Option Nat)) (w : World) : Prop := ∃ A k B l V q vs, cfs vs = L ∧ Blk w b #[.int .i64 n, .slice A ss.length k, .slice B cs.length l, .slice V vs.length q] 27 ∧
  Own w w0.heap.size 2 (.slice A ss.length k) (ints ss) ∧ Own w w0.heap.size 2 (.slice B cs.length l) (ints cs) ∧ Own w w0.heap.size 43 (.slice V vs.length q) (flts vs) ∧ NeV (.slice A ss.length k) (.slice B cs.length l) ∧ Ext w0 w
theorem CL.ext {w0 w w' : World} {b n : Nat} {ss cs : List Int} {L : List (Option Nat)} (h : CL w0 b n ss cs L w) (hx : Ext w w') : CL w0 b n ss cs L w' := by
  obtain ⟨A, k, B, l, V, q, vs, h0, h1, h2, h3, h4, h5, h6⟩ := h
  exact ⟨A, k, B, l, V, q, vs, h0, h1.ext hx, h2.ext hx, h3.ext hx, h4.ext hx, h5, h6.trans hx⟩
section

variable {w0 w w' : World} {b n k l q c : Nat} {A B V X : Option Addr} {ss cs : List Int} {vs : List Nat}

theorem CL.appC (hb : w0.heap.size ≤ b) (h1 : Blk w b #[.int .i64 n, .slice A ss.length k, .slice B cs.length l, .slice V vs.length q] 27)
    (h2 : Own w w0.heap.size 2 (.slice A ss.length k) (ints ss)) (h3 : Own w w0.heap.size 2 (.slice B cs.length l) (ints cs)) (h4 : Own w w0.heap.size 43 (.slice V vs.length q) (flts vs)) (h5 : NeV (.slice A ss.length k) (.slice B cs.length l)) (h6 : Ext w0 w)
    (y : Int) (o : Own w' w0.heap.size 2 (.slice X (cs.length + 1) c) (ints cs ++ [.int .i64 y])) (r : Wr w w' (.slice B cs.length l)) (bl : (Value.slice X (cs.length + 1) c).ownBlock = (Value.slice B cs.length l).ownBlock ∨ (Value.slice X (cs.length + 1) c).ownBlock = some w.heap.size) :
    CL w0 b n ss (cs ++ [y]) (cfs vs) (w'.setCell ⟨b, 2, none⟩ (.slice X (cs.length + 1) c)) := by
  have g1 := h1.wr r h3 (by decide)
  have hl : (cs ++ [y]).length = cs.length + 1 := by simp
  refine ⟨A, k, X, c, V, q, vs, rfl, ?_, ?_, ?_, ?_, ?_, ?_⟩
  · rw [hl]; exact g1.set 2 _
  · exact (h2.other r h5.1).setBlk g1 (by decide) 2 _
  · rw [hl, ints_append]; exact o.setBlk g1 (by decide) 2 _
  · exact (h4.other r (h3.apart h4 (by decide)).2).setBlk g1 (by decide) 2 _
  · rw [hl]; exact h5.app h2 bl
  · exact (r.ext h6 h3).set hb _
theorem CL.appS (hb : w0.heap.size ≤ b) (h1 : Blk w b #[.int .i64 n, .slice A ss.length k, .slice B cs.length l, .slice V vs.length q] 27)
    (h2 : Own w w0.heap.size 2 (.slice A ss.length k) (ints ss)) (h3 : Own w w0.heap.size 2 (.slice B cs.length l) (ints cs)) (h4 : Own w w0.heap.size 43 (.slice V vs.length q) (flts vs)) (h5 : NeV (.slice A ss.length k) (.slice B cs.length l)) (h6 : Ext w0 w)
    (y : Int) (o : Own w' w0.heap.size 2 (.slice X (ss.length + 1) c) (ints ss ++ [.int .i64 y])) (r : Wr w w' (.slice A ss.length k)) (bl : (Value.slice X (ss.length + 1) c).ownBlock = (Value.slice A ss.length k).ownBlock ∨ (Value.slice X (ss.length + 1) c).ownBlock = some w.heap.size) :
    CL w0 b n (ss ++ [y]) cs (cfs vs) (w'.setCell ⟨b, 1, none⟩ (.slice X (ss.length + 1) c)) := by
  have g1 := h1.wr r h2 (by decide)
  have hl : (ss ++ [y]).length = ss.length + 1 := by simp
  refine ⟨X, c, B, l, V, q, vs, rfl, ?_, ?_, ?_, ?_, ?_, ?_⟩
  · rw [hl]; exact g1.set 1 _
  · rw [hl, ints_append]; exact o.setBlk g1 (by decide) 1 _
  · exact (h3.other r h5.2).setBlk g1 (by decide) 1 _
  · exact (h4.other r (h2.apart h4 (by decide)).2).setBlk g1 (by decide) 1 _
  · rw [hl]; exact (h5.symm.app h3 bl).symm
  · exact (r.ext h6 h2).set hb _
theorem CL.appV (hb : w0.heap.size ≤ b) (h1 : Blk w b #[.int .i64 n, .slice A ss.length k, .slice B cs.length l, .slice V vs.length q] 27)
    (h2 : Own w w0.heap.size 2 (.slice A ss.length k) (ints ss)) (h3 : Own w w0.heap.size 2 (.slice B cs.length l) (ints cs)) (h4 : Own w w0.heap.size 43 (.slice V vs.length q) (flts vs)) (h5 : NeV (.slice A ss.length k) (.slice B cs.length l)) (h6 : Ext w0 w)
    (y : Nat) (o : Own w' w0.heap.size 43 (.slice X (vs.length + 1) c) (flts vs ++ [.float .f32 y])) (r : Wr w w' (.slice V vs.length q)) :
    CL w0 b n ss cs (cfs vs ++ [c32 y]) (w'.setCell ⟨b, 3, none⟩ (.slice X (vs.length + 1) c)) := by
  have g1 := h1.wr r h4 (by decide)
  have hl : (vs ++ [y]).length = vs.length + 1 := by simp
  refine ⟨A, k, B, l, X, c, vs ++ [y], by rw [cfs_append]; rfl, ?_, ?_, ?_, ?_, h5, ?_⟩
  · rw [hl]; exact g1.set 3 _
  · exact (h2.other r (h2.apart h4 (by decide)).1).setBlk g1 (by decide) 3 _
  · exact (h3.other r (h3.apart h4 (by decide)).1).setBlk g1 (by decide) 3 _
  · rw [hl, flts_append]; exact o.setBlk g1 (by decide) 3 _
  · exact (r.ext h6 h4).set hb _
end

/-- A sparse square, and whether it is valid. -/
def RetSqB (w : World) (d : SD) (e : Ending) (w' : World) : Prop := ∃ A k B l V q, e = .returned (.tuple #[.agg #[.int .i64 d.sd, .slice A d.st.length k, .slice B d.co.length l, .slice V d.va.length q], .bool d.ok]) ∧ Own w' w.heap.size 2 (.slice A d.st.length k) (ints d.st) ∧ Own w' w.heap.size 2 (.slice B d.co.length l) (ints d.co) ∧ Own w' w.heap.size 43 (.slice V d.va.length q) (flts d.va) ∧
  NeV (.slice A d.st.length k) (.slice B d.co.length l) ∧ NeV (.slice A d.st.length k) (.slice V d.va.length q) ∧ NeV (.slice B d.co.length l) (.slice V d.va.length q) ∧ Ext w w'
theorem Own.nil (w : World) (base : Nat) (e : TypeId) : Own w base e (.slice none 0 0) [] := ⟨⟨rfl, .inl ⟨rfl, rfl⟩⟩, by simp⟩
theorem RetSqB.bad {w w' : World} {d : SD} {e : Ending} (hd : d = SD.bad) (he : e = .returned (.tuple #[.agg #[.int .i64 0, .slice none 0 0, .slice none 0 0, .slice none 0 0], .bool false])) (hx : Ext w w') : RetSqB w d e w' := by
  subst hd
  exact ⟨none, 0, none, 0, none, 0, he, Own.nil _ _ _, Own.nil _ _ _, Own.nil _ _ _, NeV.nil _ _ _, NeV.nil _ _ _, NeV.nil _ _ _, hx⟩

end Go.Proofs.Ytkifpligpobiaaa
