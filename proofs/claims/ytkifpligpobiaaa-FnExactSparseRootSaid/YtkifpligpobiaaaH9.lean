
/- All rows of a graph taken out, the reference. -/

import Derived.Test.YtkifpligpobiaaaH8
set_option linter.unusedVariables false
set_option linter.unusedSimpArgs false

namespace Go.Proofs.Ytkifpligpobiaaa

open Go.RowKit


section

variable {P : Program}

theorem wpList_app1w {ops : Array Oper} {rest : List Oper} {o : Oper} {a : Act} {Q : Exit → Act → World → Prop} (hgd : o.guard = none) (s x : Operand) (t : TypeId)
    (ho : o.op = .call { callee := .builtin .append, args := #[s, x], argTypes := #[t, t] })
    (W : World) (base : Nat) (e : TypeId) (z : Value) (bytes : Nat) (ht : P.underlying t = some (.slice e)) (hi : (P.info? e).map (fun i => (i.zero, i.size, i.bytes)) = some (some z, 1, bytes)) (hz : z.cells.size = 1) (hby : bytes ≤ 64)
    (v : Value) (vs : List Value) (hs : a.eval s = v) (g : Nat) (y : Value) (hx : a.eval x = .slice (some ⟨g, 0, none⟩) 1 1) (hg : One W (.slice (some ⟨g, 0, none⟩) 1 1) y e) (hown : Own W base e v vs) (hy : y.oneCell' = true) (hl : vs.length + 1 ≤ 1048576) (hb : base ≤ W.heap.size)
    (h : ∀ A k w', Own w' base e (.slice A (vs.length + 1) k) (vs ++ [y]) → Wr W w' v → ((Value.slice A (vs.length + 1) k).ownBlock = v.ownBlock ∨ (Value.slice A (vs.length + 1) k).ownBlock = some W.heap.size) → wpList P ops Q rest (a.put o.dst (.slice A (vs.length + 1) k)) w') :
    wpList P ops Q (o :: rest) a W := by
  obtain ⟨i0, hi0, hz0, hz1, hz2⟩ := info_parts hi
  refine wpList_append_own_at _ hgd s x t ho base e i0 z 1 bytes ht hi0 hz0 hz1 hz2 hz (by decide) v vs.length vs hs hown.row ⟨g, 0, none⟩ 1 1 [y] hx rfl ?_ (by intro u hu; simp at hu; subst hu; exact hy) (by unfold maxLen; omega) (Nat.le_trans (Nat.mul_le_mul_left _ hby) (by omega)) hb ?_
  · intro j u hj
    match j, hj with
    | 0, hj =>
      simp at hj
      subst hj
      exact (hg g rfl).cell 0 rfl
  intro v' w1 h1 h2 _ h4
  have ho' : Own w1 base e v' (vs ++ [y]) := ⟨by simpa using h1, by simp; omega⟩
  obtain ⟨A, k, e1, _⟩ := ho'.rds
  rw [List.length_append] at e1
  subst e1
  exact h A k w1 ho' h2 h4
end

theorem info_is : (Try.prog.info? 22).map (fun i => (i.zero, i.size, i.bytes)) = some (some (.slice none 0 0), 1, 24) := by kernel_rfl

/-- Rows of the call's own, each a list. -/
def RowsOf (w : World) (base : Nat) (vs : List Value) (Ls : List (List Int)) : Prop :=
  vs.length = Ls.length ∧ ∀ (j : Nat) (L : List Int), Ls[j]? = some L → ∃ A c, vs[j]? = some (Value.slice A L.length c) ∧ Own w base 2 (.slice A L.length c) (ints L)
theorem RowsOf.ext {w w' : World} {base : Nat} {vs : List Value} {Ls : List (List Int)} (h : RowsOf w base vs Ls) (hx : Ext w w') : RowsOf w' base vs Ls :=
  ⟨h.1, fun j L hj => by obtain ⟨A, c, h1, h2⟩ := h.2 j L hj; exact ⟨A, c, h1, h2.ext hx⟩⟩
theorem RowsOf.wr {w w' : World} {base b2 : Nat} {vs : List Value} {Ls : List (List Int)} {v : Value} {us : List Value} (h : RowsOf w base vs Ls) (hw : Wr w w' v) (ho : Own w b2 22 v us) : RowsOf w' base vs Ls :=
  ⟨h.1, fun j L hj => by obtain ⟨A, c, h1, h2⟩ := h.2 j L hj; exact ⟨A, c, h1, h2.other hw (h2.apart ho (by decide)).1⟩⟩
theorem RowsOf.push {w : World} {base : Nat} {vs : List Value} {Ls : List (List Int)} (h : RowsOf w base vs Ls) {A : Option Addr} {c : Nat} {L : List Int} (ho : Own w base 2 (.slice A L.length c) (ints L)) : RowsOf w base (vs ++ [.slice A L.length c]) (Ls ++ [L]) := by
  refine ⟨by simp [h.1], fun j M hj => ?_⟩
  rw [List.getElem?_append] at hj
  split at hj
  · rename_i hlt
    obtain ⟨A', c', h1, h2⟩ := h.2 j M hj
    exact ⟨A', c', by rw [List.getElem?_append_left (by rw [h.1]; exact hlt)]; exact h1, h2⟩
  · rename_i hlt
    have hj' : j - Ls.length = 0 := by
      have := (List.getElem?_eq_some_iff.1 hj).1
      simp at this
      omega
    rw [hj'] at hj
    simp at hj
    subst hj
    exact ⟨A, c, by rw [List.getElem?_append_right (by rw [h.1]; omega), h.1, hj']; rfl, ho⟩


theorem NeV.blk {v : Value} {g n c : Nat} (h : NeV v (.slice (some ⟨g, 0, none⟩) n c)) : v.ownBlock ≠ some g := by
  intro e
  rcases h.1 with h1 | h1
  · rw [h1] at e; cases e
  · exact h1 e
theorem RowsOf.wr2 {w w' : World} {base g1 g2 n1 n2 c1 c2 b1 b2 : Nat} {vs us1 us2 : List Value} {Ls : List (List Int)} (h : RowsOf w base vs Ls) (hw : Wr2 w w' g1 g2) (h1 : Own w b1 4 (.slice (some ⟨g1, 0, none⟩) n1 c1) us1) (h2 : Own w b2 4 (.slice (some ⟨g2, 0, none⟩) n2 c2) us2) : RowsOf w' base vs Ls :=
  ⟨h.1, fun j L hj => by obtain ⟨A, c, k1, k2⟩ := h.2 j L hj; exact ⟨A, c, k1, k2.wr2 hw (k2.apart h1 (by decide)).blk (k2.apart h2 (by decide)).blk⟩⟩

/-- Who was ever beside whom, when the rows before i are taken out. -/
def spB (n : Nat) (B : Grf) : Nat → Grf
  | 0 => B
  | i + 1 => outS (spB n B i) (fun a => decide (a < i)) n i
theorem gone_next (i : Nat) : goneB (fun a => decide (a < i)) i = fun a => decide (a < i + 1) := by
  funext a
  unfold goneB
  rw [Bool.eq_iff_iff]
  simp only [Bool.or_eq_true, decide_eq_true_eq]
  omega
theorem outB_congr {n : Nat} {B B' : Grf} (h : ∀ a b, a < n → b < n → B a b = B' a b) {i : Nat} (hi : i < n) : ∀ a b, a < n → b < n → outB B i a b = outB B' i a b := by
  intro a b ha hb
  unfold outB
  rw [h i a hi ha, h a b ha hb, h i b hi hb]
theorem spB_ok {n : Nat} {B : Grf} (hs : SymB n B) : ∀ i, i ≤ n → SymB n (spB n B i) ∧ ∀ a b, a < n → b < n → curB (spB n B i) (fun a => decide (a < i)) a b = stB B i a b
  | 0, _ => ⟨hs, fun a b _ _ => by unfold curB; simp [spB, stB]⟩
  | i + 1, h => by
    obtain ⟨h1, h2⟩ := spB_ok hs i (by omega)
    refine ⟨h1.outS _ (by omega), fun a b ha hb => ?_⟩
    have := cur_out (gone := fun a => decide (a < i)) h1 (i := i) (by omega) (by simp) ha hb
    rw [gone_next] at this
    show curB (outS (spB n B i) (fun a => decide (a < i)) n i) _ a b = outB (stB B i) i a b
    rw [this]
    exact outB_congr h2 (by omega) a b ha hb
theorem lft_st {n : Nat} {B : Grf} (hs : SymB n B) {i : Nat} (hi : i < n) : lft n (spB n B i) (fun a => decide (a < i)) i = lsB n (stB B i i) := by
  obtain ⟨h1, h2⟩ := spB_ok hs i (by omega)
  unfold lft
  apply lsB_congr
  intro k hk
  rw [← h2 i k hi hk]
  unfold curB goneB
  by_cases e : k = i
  · subst e
    rw [h1.irr k hk]
    simp
  · rw [decide_eq_false e]
    simp
/-- The rows that are left beside each, of the first k. -/
def flL (n : Nat) (B : Grf) (k : Nat) : List (List Int) := (List.range k).map fun i => natI (lsB n (stB B i i))
theorem flL_next (n : Nat) (B : Grf) (k : Nat) : flL n B (k + 1) = flL n B k ++ [natI (lsB n (stB B k k))] := by unfold flL; rw [List.range_succ, List.map_append]; rfl
theorem flL_len (n : Nat) (B : Grf) (k : Nat) : (flL n B k).length = k := by simp [flL]
/-- Lists of whole numbers, rows of the call's own. -/
def RetLs (w : World) (Ls : List (List Int)) (e : Ending) (w' : World) : Prop := ∃ A c vs, e = .returned (.slice A Ls.length c) ∧ Own w' w.heap.size 22 (.slice A Ls.length c) vs ∧ RowsOf w' w.heap.size vs Ls ∧ Ext w w'

set_option maxRecDepth 20000 in
set_option maxHeartbeats 8000000 in
theorem l05Fill_any (b n : Nat) (A : Option Addr) (a ca : Nat) (B : Option Addr) (m cb : Nat) (V : Option Addr) (p cv : Nat) (st co : List Int) (va : List Nat) (hsp : IsSp n st co va) (w : World) (ha : SAt w b n A a ca B m cb V p cv st co va) :
    Calls Try.prog 75 #[.pointer (some ⟨b, 0, none⟩)] w (RetLs w (flL n (nbM (vw st co va m)) n)) := by
  have HA := Lib.hid ha
  have hn1 : 1 ≤ n := by have := hsp.s1; omega
  have hn32 : n ≤ 32 := by have := hsp.s1; omega
  have HSP := Lib.hid hsp
  obtain ⟨G, hG⟩ : ∃ G, G = nbM (vw st co va m) := ⟨_, rfl⟩
  have HSY : Hid (SymB n G) := by show SymB n G; rw [hG]; exact nbM_sym n _
  have HG := Lib.hid hG
  obtain ⟨N, hN⟩ : ∃ N, N = n * n := ⟨_, rfl⟩
  have HN := Lib.hid hN
  have hN1 : 1 ≤ N := by rw [hN]; exact Nat.mul_pos hn1 hn1
  unfold RetLs
  rw [← hG, flL_len]
  have hmk := run_make_row' (P := Try.prog) 69 4 (.bool false) 1 Try.underlying69 info_bool rfl .i64 .i64 n (by omega) (by omega)
  clear hG hN ha hsp
  go_enter Try.func75, Try.ntmps75
  go_upto_region 1 with (fail)
  go_wp2_with fail
  refine (l05Beside_any b n A a ca B m cb V p cv st co va HSP.out _ HA.out).mono ?_
  rw [← HG.out]
  unfold RetBo
  rw [← HN.out]
  rintro e w1 ⟨A1, c1, rfl, o1, hx1⟩
  obtain ⟨g1, rfl, hg1⟩ := o1.head (by omega)
  have l1 := o1.lt_size g1 rfl
  have c0 := hx1.cell HA.out.1
  go_upto_region 3 with (fail)
  have xg : Ext w1 (w1.alloc (.cells (madeCells #[.bool false] n) 4)) := (Ext.refl _).alloc _
  have o2 : Own (w1.alloc (.cells (madeCells #[.bool false] n) 4)) w.heap.size 4 (.slice (some ⟨w1.heap.size, 0, none⟩) n n) (bools (gnL n (fun a => decide (a < 0)))) := by
    have h := (Own.made w1 4 (.bool false) n rfl (by omega)).base hx1.size
    have e : gnL n (fun a => decide (a < 0)) = List.replicate n false := by rw [show (fun a : Nat => decide (a < 0)) = fun _ => false from by funext a; simp]; exact gnL_none n
    rw [e, bools_replicate]
    exact h
  obtain ⟨g2, hg2⟩ : ∃ g2, g2 = w1.heap.size := ⟨_, rfl⟩
  obtain ⟨w2, hw2⟩ : ∃ v : World, v = w1.alloc (.cells (madeCells #[.bool false] n) 4) := ⟨_, rfl⟩
  have l2 : g2 < w2.heap.size := by rw [hw2, hg2]; simp
  rw [← hw2] at xg o2
  rw [← hg2] at o2 l1
  rw [← hw2, ← hg2]
  have hne : g1 ≠ g2 := by omega
  have hwg : w.heap.size ≤ g2 := by rw [hg2]; exact hx1.size
  have l1' : g1 < w2.heap.size := by omega
  replace o1 := o1.ext xg
  have hx := hx1.trans xg
  clear hw2 hg2 xg hmk hx1 c0
  have oo := (Own.empty w2 22).base hx.size
  have xg : Ext w2 (w2.alloc (.cells #[] 22)) := (Ext.refl _).alloc _
  replace o1 := o1.ext xg
  replace o2 := o2.ext xg
  have hsz2 : w2.heap.size ≤ (w2.alloc (.cells #[] 22)).heap.size := xg.size
  replace hx := hx.trans xg
  have hro : RowsOf (w2.alloc (.cells #[] 22)) w.heap.size [] (flL n G 0) := ⟨rfl, fun j L hj => by simp [flL] at hj⟩
  clear xg
  go_wp2_with fail
  go_loopw [5, 6] (fun u v wr => ∃ i : Nat, i ≤ n ∧ v = .int .i64 i ∧ ∃ A c vs, u = .slice A i c ∧ Own wr w.heap.size 22 (.slice A i c) vs ∧ RowsOf wr w.heap.size vs (flL n G i) ∧ Own wr w.heap.size 4 (.slice (some ⟨g1, 0, none⟩) N c1) (bools (gb n (spB n G i))) ∧ Own wr w.heap.size 4 (.slice (some ⟨g2, 0, none⟩) n n) (bools (gnL n (fun a => decide (a < i)))) ∧ Ext w wr ∧ w2.heap.size ≤ wr.heap.size) (fun _ v _ => n - (intOf v).toNat)
  case atStart => exact ⟨0, Nat.zero_le _, rfl, _, 0, [], rfl, oo, hro, o1, o2, hx, hsz2⟩
  case round =>
    rename World => wA
    clear oo hro o1 o2 hx hsz2
    obtain ⟨i, hi, rfl, Ao, co', vs, rfl, oo, hro, o1, o2, hx, hsz2⟩ := hrel
    have c0 := hx.cell HA.out.1
    by_cases hlt : i < n
    · have g1' : IntKind.i64.wrap ((i : Int) + 1) = (i : Int) + 1 := IntWalk.i64_in _ (by omega)
      go_wp2_with fail
      refine (l05Out_any w.heap.size w.heap.size g1 g2 n N c1 n i (spB n G i) (fun a => decide (a < i)) hn32 HN.out hlt hne _ (by omega) (by omega) o1 o2).mono ?_
      rw [lft_st HSY.out hlt]
      rintro e w3 ⟨⟨AL, cL, rfl, oL⟩, o1', o2', hw2⟩
      rw [gone_next] at o2'
      have oo' := oo.wr2 hw2 (oo.apart o1 (by decide)).blk (oo.apart o2 (by decide)).blk
      have hro' := hro.wr2 hw2 o1 o2
      have hx' := hw2.ext hx hg1 hwg
      replace oL := oL.base hx.size
      have hsz3 : w2.heap.size ≤ w3.heap.size := Nat.le_trans hsz2 hw2.size
      obtain ⟨LL, hLL⟩ : ∃ LL, LL = lsB n (stB G i i) := ⟨_, rfl⟩
      have HNX : Hid (flL n G (i + 1) = flL n G i ++ [natI LL]) := by show _ = _; rw [flL_next, hLL]
      rw [← hLL] at oL ⊢
      clear hLL hw2 oo hro o1 o2 hx hsz2 c0
      have xg : Ext w3 (w3.alloc (.cells #[.slice AL LL.length cL] 22)) := (Ext.refl _).alloc _
      have ho' := oo'.ext xg
      have hr' := (hro'.push (A := AL) (c := cL) (L := natI LL) (by rw [natI_length]; exact oL)).ext xg
      rw [natI_length, ← HNX.out] at hr'
      have hx4 := hx'.trans xg
      have o1x := o1'.ext xg
      have o2x := o2'.ext xg
      have hl := oo'.len
      have hszw := hx4.size
      have hsz4 : w2.heap.size ≤ (w3.alloc (.cells #[.slice AL LL.length cL] 22)).heap.size := Nat.le_trans hsz3 xg.size
      clear xg oo' hro' o1' o2' hx' oL
      go_wp2_with (at_builtin; go_loud (refine wpList_app1w rfl _ _ _ rfl (w3.alloc (.cells #[.slice AL LL.length cL] 22)) w.heap.size 22 (.slice none 0 0) 24 Try.underlying76 info_is rfl (by decide) (.slice Ao i co') vs rfl w3.heap.size (.slice AL LL.length cL) rfl (One.new _ _ _) ho' rfl (by omega) hszw ?_); rw [hl]; intro A' c' w9 h5 h6 h7)
      go_roundw
      case rel => exact ⟨i + 1, by omega, by go_num, A', c', _, rfl, h5, hr'.wr h6 ho', o1x.other h6 (o1x.apart ho' (by decide)).1, o2x.other h6 (o2x.apart ho' (by decide)).1, h6.ext hx4 ho', Nat.le_trans hsz4 h6.size⟩
      case measure => simp [intOf]; omega
    · obtain rfl : i = n := by omega
      go_wp2_with fail
      go_ret
      exact ⟨Ao, co', vs, rfl, oo, hro, hx⟩

end Go.Proofs.Ytkifpligpobiaaa
