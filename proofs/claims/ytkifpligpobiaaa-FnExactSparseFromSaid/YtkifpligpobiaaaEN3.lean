
/- The entries of a square, the program. -/

import Derived.Test.YtkifpligpobiaaaEN1

import Derived.Test.YtkifpligpobiaaaK5

import Derived.Test.YtkifpligpobiaaaQ3
set_option linter.unusedVariables false
set_option linter.unusedSimpArgs false

namespace Go.Proofs.Ytkifpligpobiaaa

open Go.RowKit


/-- The entries of row i from s up to k. -/
def enR (co : List Int) (va : List Nat) (i s k : Nat) : List Ent := (List.range (k - s)).map fun (q : Nat) => ((i : Int), rd co ((s + q : Nat) : Int), rdf va ((s + q : Nat) : Int))
/-- The entries of the first rows. -/
def enA (st co : List Int) (va : List Nat) : Nat → List Ent
  | 0 => []
  | i + 1 => enA st co va i ++ enR co va i (rd st i).toNat (rd st ((i : Int) + 1)).toNat
theorem enR_length (co : List Int) (va : List Nat) (i s k : Nat) : (enR co va i s k).length = k - s := by simp [enR]
theorem enR_self (co : List Int) (va : List Nat) (i s : Nat) : enR co va i s s = [] := by simp [enR]
theorem enR_next {co : List Int} {va : List Nat} {i s k : Nat} (h : s ≤ k) : enR co va i s (k + 1) = enR co va i s k ++ [((i : Int), rd co k, rdf va k)] := by
  unfold enR
  rw [show k + 1 - s = (k - s) + 1 from by omega, List.range_succ, List.map_append]
  simp only [List.map_cons, List.map_nil]
  rw [show s + (k - s) = k from by omega]
theorem enA_length {N : Nat} {st co : List Int} {va : List Nat} (h : IsSp N st co va) : ∀ i : Nat, i ≤ N → ((enA st co va i).length : Int) = rd st i
  | 0, _ => by
    have := h.s6
    simp [enA]
    omega
  | i + 1, hi => by
    have h1 := enA_length h i (by omega)
    have h2 := h.s8 i (by omega)
    have e1 : ((i + 1 : Nat) : Int) = (i : Int) + 1 := by omega
    rw [e1]
    unfold enA
    rw [List.length_append, enR_length]
    omega
/-- What EntriesOf answers. -/
noncomputable def entD (sd : Int) (st co : List Int) (va : List Nat) : List Ent × Bool := if isSp sd st co va then (enA st co va sd.toNat, true) else ([], false)
/-- A list of entries, and whether it is one. -/
def RetEB (w : World) (d : List Ent × Bool) (e : Ending) (w' : World) : Prop := ∃ A c, e = .returned (.tuple #[.slice A d.1.length c, .bool d.2]) ∧ OwnE w' w.heap.size (.slice A d.1.length c) d.1 ∧ Ext w w'

theorem info_entry : (Try.prog.info? 113).map (fun i => (i.zero, i.size, i.bytes)) = some (some (.agg #[.int .i64 0, .int .i64 0, .float .f32 0]), 3, 24) := by kernel_rfl
section

variable {P : Program}

theorem wpList_appE {ops : Array Oper} {rest : List Oper} {o : Oper} {a : Act} {Q : Exit → Act → World → Prop} (hgd : o.guard = none) (s x : Operand)
    (ho : o.op = .call { callee := .builtin .append, args := #[s, x], argTypes := #[51, 51] })
    (W : World) (base : Nat) (v : Value) (es : List Ent) (hs : a.eval s = v) (g : Nat) (y : Ent) (hx : a.eval x = .slice (some ⟨g, 0, none⟩) 1 1) (hg : Blk W g #[.int .i64 y.1, .int .i64 y.2.1, .float .f32 y.2.2] 113) (hown : OwnE W base v es) (hl : es.length + 1 ≤ 1048576) (hb : base ≤ W.heap.size)
    (h : ∀ A k w', OwnE w' base (.slice A (es.length + 1) k) (es ++ [y]) → Wr W w' v → ((Value.slice A (es.length + 1) k).ownBlock = v.ownBlock ∨ (Value.slice A (es.length + 1) k).ownBlock = some W.heap.size) → wpList Try.prog ops Q rest (a.put o.dst (.slice A (es.length + 1) k)) w') :
    wpList Try.prog ops Q (o :: rest) a W := by
  obtain ⟨i0, hi0, hz0, hz1, hz2⟩ := info_parts info_entry
  refine wpList_append_own_at _ hgd s x 51 ho base 113 i0 _ 3 24 Try.underlying51 hi0 hz0 hz1 hz2 rfl (by decide) v es.length (ents es) hs hown.row ⟨g, 0, none⟩ 1 1 (ents [y]) hx rfl ?_ (by intro u hu; simp [ents] at hu; rcases hu with rfl | rfl | rfl <;> rfl) (by unfold maxLen; omega) (by omega) hb ?_
  · intro j u hj
    match j, hj with
    | 0, hj => simp [ents] at hj; subst hj; exact hg.cell 0 rfl
    | 1, hj => simp [ents] at hj; subst hj; exact hg.cell 1 rfl
    | 2, hj => simp [ents] at hj; subst hj; exact hg.cell 2 rfl
    | j + 3, hj => simp [ents] at hj
  intro v' w1 h1 h2 _ h4
  rcases h1.2 with ⟨rfl, h0⟩ | ⟨g', cap', cur, rfl, _⟩
  · omega
  · exact h _ _ _ ⟨by rw [List.length_append, ents_append]; exact h1, by rw [List.length_append]; exact hl⟩ h2 h4
end

set_option maxRecDepth 20000 in
set_option maxHeartbeats 2000000 in
theorem entries1_any (ob ib base i : Nat) (j : Int) (x : Nat) (A : Option Addr) (c : Nat) (es : List Ent) (hl : es.length ≤ 1000) (w : World) (hbase : base ≤ w.heap.size)
    (hb : Blk w ob #[.slice A es.length c] 51) (hi : Blk w ib #[.int .i64 i] 2) (ho : OwnE w base (.slice A es.length c) es) :
    Calls Try.prog 114 #[.int .i64 j, .float .f32 x, .pointer (some ⟨ob, 0, none⟩), .pointer (some ⟨ib, 0, none⟩)] w fun e w' => e = .returned (.tuple #[]) ∧ ∃ A' c' w1, Blk w' ob #[.slice A' (es.length + 1) c'] 51 ∧ OwnE w' base (.slice A' (es.length + 1) c') (es ++ [((i : Int), j, x)]) ∧
      Wr (w.alloc (.cells #[.int .i64 i, .int .i64 j, .float .f32 x] 113)) w1 (.slice A es.length c) ∧ ((Value.slice A' (es.length + 1) c').ownBlock = (Value.slice A es.length c).ownBlock ∨ (Value.slice A' (es.length + 1) c').ownBlock = some (w.heap.size + 1)) ∧ w' = w1.setCell ⟨ob, 0, none⟩ (.slice A' (es.length + 1) c') := by
  have c0 := hb.cell 0 rfl
  have c1 := hi.cell 0 rfl
  have hx1 : Ext w (w.alloc (.cells #[.int .i64 i, .int .i64 j, .float .f32 x] 113)) := (Ext.refl _).alloc _
  have hg := Blk.new w #[.int .i64 i, .int .i64 j, .float .f32 x] 113
  go_enter Try.func114, Try.ntmps114
  go_wp2_with (at_builtin; go_loud (refine wpList_appE rfl _ _ rfl _ base (.slice A es.length c) es rfl w.heap.size ((i : Int), j, x) rfl hg (ho.ext hx1) (by omega) (by simp; omega) ?_); intro A' c' w1 h1 h2 h3; have hb1 := (hb.ext hx1).wrE h2 (ho.ext hx1) (by decide); have d0 := hb1.cell 0 rfl; have f0 := hb1.free 0; have l0 := hb1.lt)
  go_end0
  exact ⟨rfl, A', c', w1, hb1.set 0 _, h1.setBlk hb1 (by decide) 0 _, h2, by simpa using h3, rfl⟩

end Go.Proofs.Ytkifpligpobiaaa
