
/- Slices of entries: three cells an element. -/

import Derived.Test.YtkifpligpobiaaaT0

import Derived.Test.YtkifpligpobiaaaB1M
set_option linter.unusedVariables false
set_option linter.unusedSimpArgs false

namespace Go.Proofs.Ytkifpligpobiaaa

open Go.RowKit

abbrev Ent := Int × Int × Nat
def entC (e : Ent) : List Value := [.int .i64 e.1, .int .i64 e.2.1, .float .f32 e.2.2]
def ents : List Ent → List Value
  | [] => []
  | e :: es => .int .i64 e.1 :: .int .i64 e.2.1 :: .float .f32 e.2.2 :: ents es
def rdE (es : List Ent) (j : Nat) : Ent := es.getD j (0, 0, 0)
theorem ents_length : ∀ es : List Ent, (ents es).length = es.length * 3
  | [] => rfl
  | e :: es => by
    show (ents es).length + 1 + 1 + 1 = (es.length + 1) * 3
    rw [ents_length es]
    omega
theorem ents_append : ∀ a b : List Ent, ents (a ++ b) = ents a ++ ents b
  | [], b => rfl
  | e :: a, b => by
    show _ :: _ :: _ :: ents (a ++ b) = _
    rw [ents_append a b]
    rfl
theorem ents_get : ∀ (es : List Ent) (j : Nat), j < es.length → (ents es)[j * 3]? = some (.int .i64 (rdE es j).1) ∧ (ents es)[j * 3 + 1]? = some (.int .i64 (rdE es j).2.1) ∧ (ents es)[j * 3 + 2]? = some (.float .f32 (rdE es j).2.2)
  | [], _, h => by simp at h
  | e :: es, 0, _ => ⟨rfl, rfl, rfl⟩
  | e :: es, j + 1, h => by
    have h' : j < es.length := by simpa using h
    have := ents_get es j h'
    rw [show (j + 1) * 3 = j * 3 + 1 + 1 + 1 from by omega]
    exact this
theorem rdE_get {es : List Ent} {j : Nat} (h : j < es.length) : rdE es j = es[j] := by simp [rdE, h]
theorem ents_set0 : ∀ (es : List Ent) (j : Nat) (x : Int), (ents es).set (j * 3) (.int .i64 x) = ents (es.set j (x, (rdE es j).2.1, (rdE es j).2.2))
  | [], _, _ => rfl
  | e :: es, 0, _ => rfl
  | e :: es, j + 1, x => by
    rw [show (j + 1) * 3 = j * 3 + 1 + 1 + 1 from by omega]
    show _ :: _ :: _ :: (ents es).set (j * 3) _ = _
    rw [ents_set0 es j x]
    rfl
theorem ents_set1 : ∀ (es : List Ent) (j : Nat) (x : Int), (ents es).set (j * 3 + 1) (.int .i64 x) = ents (es.set j ((rdE es j).1, x, (rdE es j).2.2))
  | [], _, _ => rfl
  | e :: es, 0, _ => rfl
  | e :: es, j + 1, x => by
    rw [show (j + 1) * 3 + 1 = j * 3 + 1 + 1 + 1 + 1 from by omega]
    show _ :: _ :: _ :: (ents es).set (j * 3 + 1) _ = _
    rw [ents_set1 es j x]
    rfl
theorem ents_set2 : ∀ (es : List Ent) (j : Nat) (x : Nat), (ents es).set (j * 3 + 2) (.float .f32 x) = ents (es.set j ((rdE es j).1, (rdE es j).2.1, x))
  | [], _, _ => rfl
  | e :: es, 0, _ => rfl
  | e :: es, j + 1, x => by
    rw [show (j + 1) * 3 + 2 = j * 3 + 2 + 1 + 1 + 1 from by omega]
    show _ :: _ :: _ :: (ents es).set (j * 3 + 2) _ = _
    rw [ents_set2 es j x]
    rfl
/-- The slice lies in memory and holds these entries. -/
structure RdsE (w : World) (A : Option Addr) (n : Nat) (es : List Ent) : Prop where
  len : es.length = n
  small : n ≤ 9223372036854775807
  at' : 0 < n → ∃ ad, A = some ad ∧ ∀ j, j < n * 3 → w.cell? (ad.add j) = (ents es)[j]?
theorem RdsE.below {w w1 : World} {A : Option Addr} {n : Nat} {es : List Ent} (h : RdsE w A n es) (hb : Ext w w1) : RdsE w1 A n es :=
  ⟨h.len, h.small, fun hn => by
    obtain ⟨ad, e, hc⟩ := h.at' hn
    refine ⟨ad, e, fun j hj => ?_⟩
    have h1 := hc j hj
    rw [List.getElem?_eq_getElem (by rw [ents_length, h.len]; exact hj)] at h1 ⊢
    exact cell_below hb h1⟩
theorem add_field (ad : Addr) (q i : Nat) : ad.add (q + (i + 1)) = ⟨(ad.add q).block, (ad.add q).off + (i + 1), none⟩ := by
  unfold Addr.add
  by_cases h : q = 0
  · subst h; simp
  · simp [h]; omega
theorem RdsE.ent {w : World} {A : Option Addr} {n : Nat} {es : List Ent} (h : RdsE w A n es) (j : Nat) (hj : j < n) : ∃ ad, A = some ad ∧ w.cell? (ad.add (j * 3)) = some (.int .i64 (rdE es j).1) ∧ w.cell? ⟨(ad.add (j * 3)).block, (ad.add (j * 3)).off + 1, none⟩ = some (.int .i64 (rdE es j).2.1) ∧ w.cell? ⟨(ad.add (j * 3)).block, (ad.add (j * 3)).off + 2, none⟩ = some (.float .f32 (rdE es j).2.2) := by
  obtain ⟨ad, e, hc⟩ := h.at' (by omega)
  have hl := h.len
  obtain ⟨h0, h1, h2⟩ := ents_get es j (by omega)
  exact ⟨ad, e, by rw [hc _ (by omega), h0], by rw [← add_field ad (j * 3) 0, hc _ (by omega), h1], by rw [← add_field ad (j * 3) 1, hc _ (by omega), h2]⟩
/-- The slice owns, from block base on, cells that read these entries. -/
structure OwnE (w : World) (base : Nat) (v : Value) (es : List Ent) : Prop where
  row : w.ownsRow base 113 3 v es.length (ents es)
  small : es.length ≤ 1048576
theorem OwnE.ext {w w' : World} {base : Nat} {v : Value} {es : List Ent} (h : OwnE w base v es) (hx : Ext w w') : OwnE w' base v es :=
  ⟨h.row.kept (row := none) ⟨hx.os, hx.tape, hx.output, hx.size, fun i hi _ => hx.block i hi⟩ (by cases v.ownBlock <;> simp), h.small⟩
theorem OwnE.base {w : World} {base b : Nat} {v : Value} {es : List Ent} (h : OwnE w base v es) (hb : b ≤ base) : OwnE w b v es := by
  refine ⟨⟨h.row.1, ?_⟩, h.small⟩
  rcases h.row.2 with h0 | ⟨g, cap, cur, h1, h2, h3⟩
  · exact .inl h0
  · exact .inr ⟨g, cap, cur, h1, Nat.le_trans hb h2, h3⟩
theorem ownE_nil (w : World) (base : Nat) : OwnE w base (.slice none 0 0) [] := ⟨World.ownsRow_nil _ _ _ _, by simp⟩
theorem OwnE.len {w : World} {base : Nat} {A : Option Addr} {n cap : Nat} {es : List Ent} (h : OwnE w base (.slice A n cap) es) : es.length = n := by
  rcases h.row.2 with ⟨h1, h0⟩ | ⟨g, cap', cur, h1, _⟩
  · simp only [Value.slice.injEq] at h1; omega
  · simp only [Value.slice.injEq] at h1; omega
theorem OwnE.head {w : World} {base : Nat} {A : Option Addr} {n cap : Nat} {es : List Ent} (h : OwnE w base (.slice A n cap) es) (hn : 0 < n) : ∃ g, A = some ⟨g, 0, none⟩ ∧ base ≤ g := by
  rcases h.row.2 with ⟨h1, h0⟩ | ⟨g, cap', cur, h1, hb, _⟩
  · simp only [Value.slice.injEq] at h1; omega
  · simp only [Value.slice.injEq] at h1; exact ⟨g, h1.1, hb⟩
theorem OwnE.reads {w : World} {base : Nat} {A : Option Addr} {n cap : Nat} {es : List Ent} (h : OwnE w base (.slice A n cap) es) : RdsE w A n es := by
  have hl := h.len
  have hs := h.small
  refine ⟨hl, by omega, fun hn => ?_⟩
  obtain ⟨g, rfl, _⟩ := h.head hn
  refine ⟨_, rfl, fun j hj => ?_⟩
  have hj' : j < (ents es).length := by rw [ents_length, hl]; exact hj
  rw [List.getElem?_eq_getElem hj']
  exact h.row.cells (g := g) rfl j _ (List.getElem?_eq_getElem hj')
theorem OwnE.other {w w' : World} {base : Nat} {v v' : Value} {es : List Ent} (h : OwnE w base v es) (hw : Wr w w' v') (hne : v.ownBlock = none ∨ v.ownBlock ≠ v'.ownBlock) : OwnE w' base v es :=
  ⟨h.row.kept hw hne, h.small⟩
theorem rows_ne {w0 w : World} {b1 : Nat} {e1 e2 : TypeId} {s1 s2 k1 k2 : Nat} {v1 v2 : Value} {vs1 vs2 : List Value} (h1 : w0.ownsRow b1 e1 s1 v1 k1 vs1) (h2 : w.ownsRow w0.heap.size e2 s2 v2 k2 vs2) : (v1.ownBlock = none ∨ v1.ownBlock ≠ v2.ownBlock) ∧ (v2.ownBlock = none ∨ v2.ownBlock ≠ v1.ownBlock) := by
  cases e1 : v1.ownBlock with
  | none => cases e2 : v2.ownBlock with
    | none => exact ⟨.inl rfl, .inl rfl⟩
    | some k => exact ⟨.inl rfl, .inr (by simp)⟩
  | some j =>
    cases e2 : v2.ownBlock with
    | none => exact ⟨.inr (by simp), .inl rfl⟩
    | some k =>
      have a := h1.lt j e1
      have b := h2.lt k e2
      exact ⟨.inr (by simp; omega), .inr (by simp; omega)⟩
theorem Wr.extE {w0 w w' : World} {v : Value} {es : List Ent} (hw : Wr w w' v) (hx : Ext w0 w) (h : OwnE w w0.heap.size v es) : Ext w0 w' :=
  Below.grown hx hw hx.size fun k hk => (h.row.lt k hk).1
theorem ownE_block {w : World} {base : Nat} {v : Value} {es : List Ent} (h : OwnE w base v es) (k : Nat) (hk : v.ownBlock = some k) : ∃ cur, w.heap[k]? = some (.cells cur 113 (0, 0)) := by
  rcases h.row.2 with ⟨rfl, _⟩ | ⟨g, cap, cur, rfl, _, hg, _⟩
  · simp [Value.ownBlock] at hk
  · simp [Value.ownBlock] at hk
    subst hk
    exact ⟨cur, hg⟩
theorem Blk.neE {w : World} {b base : Nat} {cs : Array Value} {T : TypeId} {v : Value} {es : List Ent} (h : Blk w b cs T) (ho : OwnE w base v es) (hT : T ≠ 113) : v.ownBlock ≠ some b := by
  intro e
  obtain ⟨cur, hc⟩ := ownE_block ho b e
  unfold Blk at h
  rw [hc] at h
  simp at h
  exact hT h.2.symm
theorem Blk.wrE {w w' : World} {b base : Nat} {cs : Array Value} {T : TypeId} {v : Value} {es : List Ent} (h : Blk w b cs T) (hw : Wr w w' v) (ho : OwnE w base v es) (hT : T ≠ 113) : Blk w' b cs T :=
  (hw.block b h.lt (fun e => h.neE ho hT e.symm)).trans h
theorem OwnE.setBlk {w : World} {b base : Nat} {cs : Array Value} {T : TypeId} {v : Value} {es : List Ent} (ho : OwnE w base v es) (h : Blk w b cs T) (hT : T ≠ 113) (i : Nat) (u : Value) : OwnE (w.setCell ⟨b, i, none⟩ u) base v es := by
  refine ho.other (v' := .slice (some ⟨b, 0, none⟩) 0 0) ⟨rfl, rfl, rfl, by simp [World.setCell], fun k hk hn => Below.heap_setCell _ _ _ k (fun e => hn (by rw [e]; rfl))⟩ (.inr ?_)
  exact h.neE ho hT
theorem OwnE.cells {w : World} {base g n cap : Nat} {es : List Ent} (h : OwnE w base (.slice (some ⟨g, 0, none⟩) n cap) es) (j : Nat) (hj : j < n) :
    w.cell? ⟨g, j * 3, none⟩ = some (.int .i64 (rdE es j).1) ∧ w.cell? ⟨g, j * 3 + 1, none⟩ = some (.int .i64 (rdE es j).2.1) ∧ w.cell? ⟨g, j * 3 + 2, none⟩ = some (.float .f32 (rdE es j).2.2) ∧
    w.frozen? ⟨g, j * 3, none⟩ = false ∧ w.frozen? ⟨g, j * 3 + 1, none⟩ = false ∧ w.frozen? ⟨g, j * 3 + 2, none⟩ = false := by
  have hl := h.len
  have hr := h.row
  rw [hl] at hr
  obtain ⟨h0, h1, h2⟩ := ents_get es j (by omega)
  exact ⟨(hr.cellAt (j * 3) (by omega)).trans h0, (hr.cellAt (j * 3 + 1) (by omega)).trans h1, (hr.cellAt (j * 3 + 2) (by omega)).trans h2, hr.frozenAt _, hr.frozenAt _, hr.frozenAt _⟩
theorem OwnE.put {w : World} {base g n cap : Nat} {es es' : List Ent} (h : OwnE w base (.slice (some ⟨g, 0, none⟩) n cap) es) (q : Nat) (u : Value) (e : (ents es).set q u = ents es') (hl' : es'.length = es.length) :
    OwnE (w.setCell ⟨g, q, none⟩ u) base (.slice (some ⟨g, 0, none⟩) n cap) es' ∧ Wr w (w.setCell ⟨g, q, none⟩ u) (.slice (some ⟨g, 0, none⟩) n cap) := by
  have hl := h.len
  have hr := h.row
  rw [hl] at hr
  obtain ⟨h1, h2⟩ := hr.stored q u
  exact ⟨⟨by rw [hl', hl, ← e]; exact h1, by rw [hl']; exact h.small⟩, h2⟩

end Go.Proofs.Ytkifpligpobiaaa
