import Derived.Test.YtcfimkjkolgboaaD3
import Derived.Maps.AppendAt
set_option linter.unusedVariables false
set_option linter.unusedSimpArgs false
namespace Go.Proofs.Ytcfimkjkolgboaa
open Go.RowKit

section
variable {P : Program}
/-- The one cell of a block, as a slice. -/
def One (w : World) (v : Value) (y : Value) (e : TypeId) : Prop := ∀ g, v = .slice (some ⟨g, 0, none⟩) 1 1 → Blk w g #[y] e
theorem One.ext {w w' : World} {v y : Value} {e : TypeId} (h : One w v y e) (hx : Ext w w') : One w' v y e := fun g hg => (h g hg).ext hx
theorem One.new (w : World) (y : Value) (e : TypeId) : One (w.alloc (.cells #[y] e)) (.slice (some ⟨w.heap.size, 0, none⟩) 1 1) y e := by
  intro g hg
  simp only [Value.slice.injEq, Option.some.injEq, Addr.mk.injEq, and_true] at hg
  subst hg
  exact Blk.new _ _ _
/-- One more element behind a row of the call's own. -/
theorem wpList_app1 {ops : Array Oper} {rest : List Oper} {o : Oper} {a : Act} {Q : Exit → Act → World → Prop} (hgd : o.guard = none) (s x : Operand) (t : TypeId)
    (ho : o.op = .call { callee := .builtin .append, args := #[s, x], argTypes := #[t, t] })
    (W : World) (base : Nat) (e : TypeId) (z : Value) (bytes : Nat) (ht : P.underlying t = some (.slice e)) (hi : (P.info? e).map (fun i => (i.zero, i.size, i.bytes)) = some (some z, 1, bytes)) (hz : z.cells.size = 1) (hby : bytes ≤ 16)
    (v : Value) (vs : List Value) (hs : a.eval s = v) (g : Nat) (y : Value) (hx : a.eval x = .slice (some ⟨g, 0, none⟩) 1 1) (hg : One W (.slice (some ⟨g, 0, none⟩) 1 1) y e) (hown : Own W base e v vs) (hy : y.oneCell' = true) (hl : vs.length + 1 ≤ 1048576) (hb : base ≤ W.heap.size)
    (h : ∀ A k w', Own w' base e (.slice A (vs.length + 1) k) (vs ++ [y]) → Wr W w' v → ((Value.slice A (vs.length + 1) k).ownBlock = v.ownBlock ∨ (Value.slice A (vs.length + 1) k).ownBlock = some W.heap.size) → wpList P ops Q rest (a.put o.dst (.slice A (vs.length + 1) k)) w') :
    wpList P ops Q (o :: rest) a W := by
  obtain ⟨i0, hi0, hz0, hz1, hz2⟩ := info_parts hi
  refine wpList_append_own_at _ hgd s x t ho base e i0 z 1 bytes ht hi0 hz0 hz1 hz2 hz (by decide) v vs.length vs hs hown.row ⟨g, 0, none⟩ 1 1 [y] hx rfl ?_ (by intro u hu; simp at hu; subst hu; exact hy) (by unfold maxLen; omega) (Nat.le_trans (Nat.mul_le_mul_left _ hby) (by omega)) hb ?_
  · intro j u hj
    match j, hj with
    | 0, hj =>
      simp at hj
      subst hj
      exact (hg g rfl).cell 0 rfl
  intro v' w1 h1 h2 _ h4
  have ho' : Own w1 base e v' (vs ++ [y]) := ⟨by simpa using h1, by simp; omega⟩
  obtain ⟨A, k, e1, _⟩ := ho'.rds
  rw [List.length_append] at e1
  subst e1
  exact h A k w1 ho' h2 h4
end

/-- The first m numbers of a table with C columns. -/
def tab (C : Nat) (F : Nat → Nat → Int) (m : Nat) : List Int := (List.range m).map fun j => F (j / C) (j % C)
theorem tab_zero (C : Nat) (F : Nat → Nat → Int) : tab C F 0 = [] := rfl
theorem tab_length (C : Nat) (F : Nat → Nat → Int) (m : Nat) : (tab C F m).length = m := by simp [tab]
theorem tab_succ {C : Nat} (F : Nat → Nat → Int) (i k : Nat) (hk : k < C) : tab C F (i * C + k) ++ [F i k] = tab C F (i * C + (k + 1)) := by
  unfold tab
  rw [← Nat.add_assoc, List.range_succ, List.map_append]
  have h1 : (i * C + k) / C = i := by
    rw [Nat.mul_comm, Nat.mul_add_div (by omega), Nat.div_eq_of_lt hk]; rfl
  have h2 : (i * C + k) % C = k := by
    rw [Nat.mul_comm, Nat.mul_add_mod, Nat.mod_eq_of_lt hk]
  simp [h1, h2]

/-- What a function answers whose result is a Whole in a block. -/
theorem resW {fn : Func} {t : Tmp} (h : fn.results = #[.cell t 31]) {tmps : Array Value} {w : World} {b : Nat} (ht : tmps.getD t undef = .pointer (some ⟨b, 0, none⟩)) {v0 v1 v2 : Value} {T : TypeId} (hb : Blk w b #[v0, v1, v2] T) :
    (results fn tmps).run Try.prog w = .ok (.agg #[v0, v1, v2]) w := by
  have c0 : w.cell? ⟨b, 0, none⟩ = some v0 := hb.cell 0 rfl
  have c1 : w.cell? ⟨b, 1, none⟩ = some v1 := hb.cell 1 rfl
  have c2 : w.cell? ⟨b, 2, none⟩ = some v2 := hb.cell 2 rfl
  rw [Array.getD_eq_getD_getElem?] at ht
  simp only [results, h]
  simp [go_sem, ht, c0, c1, c2]
theorem resWB {fn : Func} {t u : Tmp} (h : fn.results = #[.cell t 31, .tmp u]) {tmps : Array Value} {w : World} {b : Nat} (ht : tmps.getD t undef = .pointer (some ⟨b, 0, none⟩)) {v0 v1 v2 x : Value} {T : TypeId} (hu : tmps.getD u undef = x) (hb : Blk w b #[v0, v1, v2] T) :
    (results fn tmps).run Try.prog w = .ok (.tuple #[.agg #[v0, v1, v2], x]) w := by
  have c0 : w.cell? ⟨b, 0, none⟩ = some v0 := hb.cell 0 rfl
  have c1 : w.cell? ⟨b, 1, none⟩ = some v1 := hb.cell 1 rfl
  have c2 : w.cell? ⟨b, 2, none⟩ = some v2 := hb.cell 2 rfl
  rw [Array.getD_eq_getD_getElem?] at ht hu
  simp only [results, h]
  simp [go_sem, ht, hu, c0, c1, c2]

/-- The Whole that is made, with m numbers. -/
def WB (w : World) (R C : Nat) (F : Nat → Nat → Int) (wr : World) (m : Nat) : Prop := ∃ A k, Blk wr (w.heap.size + 1) #[.int .i64 R, .int .i64 C, .slice A m k] 31 ∧
  Blk wr w.heap.size #[.int .i64 0, .int .i64 0, .slice none 0 0] 31 ∧ Own wr w.heap.size 2 (.slice A m k) (ints (tab C F m)) ∧ Ext w wr
theorem WB.start (w : World) (R C : Nat) (F : Nat → Nat → Int) : WB w R C F ((w.alloc (.cells #[.int .i64 0, .int .i64 0, .slice none 0 0] 31)).alloc (.cells #[.int .i64 R, .int .i64 C, .slice none 0 0] 31)) 0 :=
  ⟨none, 0, by simpa using Blk.new (w.alloc (.cells #[.int .i64 0, .int .i64 0, .slice none 0 0] 31)) _ _, (Blk.new w _ _).ext ((Ext.refl _).alloc _), own_nil _ _ _, ((Ext.refl _).alloc _).alloc _⟩
/-- One number more. -/
theorem WB.next {w : World} {R C : Nat} {F : Nat → Nat → Int} {wr w2 w3 : World} {i k : Nat} {A A' : Option Addr} {c c' : Nat} (hk : k < C) (hx' : Ext wr w2)
    (h1 : Blk wr (w.heap.size + 1) #[.int .i64 R, .int .i64 C, .slice A (i * C + k) c] 31) (h2 : Blk wr w.heap.size #[.int .i64 0, .int .i64 0, .slice none 0 0] 31)
    (h3 : Own wr w.heap.size 2 (.slice A (i * C + k) c) (ints (tab C F (i * C + k)))) (h4 : Ext w wr)
    (h5 : Own w3 w.heap.size 2 (.slice A' (i * C + k + 1) c') (ints (tab C F (i * C + k)) ++ [.int .i64 (F i k)])) (h6 : Wr w2 w3 (.slice A (i * C + k) c)) :
    WB w R C F (w3.setCell ⟨w.heap.size + 1, 2, none⟩ (.slice A' (i * C + k + 1) c')) (i * C + (k + 1)) := by
  have b1 := (h1.ext hx').wr h6 (h3.ext hx') (by decide)
  have b2 := (h2.ext hx').wr h6 (h3.ext hx') (by decide)
  refine ⟨A', c', ?_, b2.other (by omega) _ _, ?_, (h6.ext (h4.trans hx') (h3.ext hx')).set (by simp) _⟩
  · exact b1.set 2 _
  · rw [← tab_succ F i k hk, ints_append]
    exact h5.setBlk b1 (by decide) _ _

set_option maxHeartbeats 4000000 in
theorem wholeBy_any (g : Nat) (lb : Array Value) (eg : ∀ args w, (callFunc g args).run Try.prog w = .ok (.enter g args) w) (R C : Nat) (hR : R ≤ 6) (hC : C ≤ 6) (F : Nat → Nat → Int) (w : World)
    (hp : Hid (∀ (i k : Nat) (W : World), i < R → k < C → Ext w W → Calls Try.prog g (#[.int .i64 i, .int .i64 k] ++ lb) W fun e w' => e = .returned (.int .i64 (F i k)) ∧ Ext W w')) :
    Calls Try.prog 76 #[.int .i64 R, .int .i64 C, .func (.func g) #[] lb] w (RetWhole w R C (R * C) (tab C F (R * C))) := by
  have hRC : R * C ≤ 36 := Nat.mul_le_mul hR hC
  go_enter Try.func76, Try.ntmps76
  go_wp2_with fail
  go_loopw [14] (fun u wr => ∃ i : Nat, i ≤ R ∧ u = .int .i64 i ∧ WB w R C F wr (i * C)) (fun u _ => R - (intOf u).toNat)
  case atStart => exact ⟨0, Nat.zero_le _, rfl, by rw [Nat.zero_mul]; exact WB.start w R C F⟩
  case round =>
    obtain ⟨i, hi, rfl, hst⟩ := hrel
    by_cases hlt : i < R
    · go_wp2_with fail
      go_loopw [18] (fun u wr => ∃ k : Nat, k ≤ C ∧ u = .int .i64 k ∧ WB w R C F wr (i * C + k)) (fun u _ => C - (intOf u).toNat)
      case atStart => exact ⟨0, Nat.zero_le _, rfl, hst⟩
      case round =>
        clear hst
        obtain ⟨k, hk, rfl, hst⟩ := hrel
        have hm : i * C + k ≤ 36 := by
          have : i * C ≤ 5 * C := Nat.mul_le_mul (by omega) (Nat.le_refl _)
          omega
        by_cases hlk : k < C
        · obtain ⟨A, c, h1, h2, h3, h4⟩ := hst
          have z2 : wr.cell? ⟨w.heap.size + 1, 2, none⟩ = some (.slice A (i * C + k) c) := h1.cell 2 rfl
          go_wp2_with fail
          refine wp_region_T (cs := []) [0, 1, 2, 3, 4, 5, 6] [7, 8, 9] [5, 6] [] (fun i__ v => match i__ with | 5 => v = (.int .i64 (F i k)) | 6 => ∃ g, v = .slice (some ⟨g, 0, none⟩) 1 1 | _ => False) (fun i__ v w' => match i__ with | 6 => One w' v (.int .i64 (F i k)) 2 | _ => True) (by kernel_rfl) (by kernel_rfl) (by intro i v w' w2 h hx; revert h; (try dsimp only); split <;> intro h <;> first | trivial | exact One.ext h hx) ?_
          refine' wpT_det (o := ⟨some 21, Op.fieldAddr 31 (Operand.tmp 7) 2, 0, "l06_integers.go:33", #[], none⟩) rfl (by rfl) (by rfl) (fun w' hw' => ?_) ?_; rotate_left
          · go_simp <;> first | rfl | exact ⟨rfl, rfl⟩
          simp only [Act.put, List.setIfInBounds_toArray, List.set_cons_zero, List.set_cons_succ]
          refine' wpT_det (o := ⟨some 22, Op.load 26 (Operand.tmp 21), 26, "l06_integers.go:33", #[{ on := 0, ground := Ground.data }], none⟩) rfl (by rfl) (by rfl) (fun w' hw' => ?_) ?_; rotate_left
          · have z2_ := Ext.cell hw' z2; go_simp <;> first | rfl | exact ⟨rfl, rfl⟩
          simp only [Act.put, List.setIfInBounds_toArray, List.set_cons_zero, List.set_cons_succ]
          refine' wpT_det (o := ⟨some 23, Op.move (Operand.tmp 2), 60, "l06_integers.go:33", #[], none⟩) rfl (by rfl) (by rfl) (fun w' hw' => ?_) ?_; rotate_left
          · go_simp <;> first | rfl | exact ⟨rfl, rfl⟩
          simp only [Act.put, List.setIfInBounds_toArray, List.set_cons_zero, List.set_cons_succ]
          refine' wpT_det (o := ⟨some 24, Op.move (Operand.tmp 8), 2, "l06_integers.go:33", #[], none⟩) rfl (by rfl) (by rfl) (fun w' hw' => ?_) ?_; rotate_left
          · go_simp <;> first | rfl | exact ⟨rfl, rfl⟩
          simp only [Act.put, List.setIfInBounds_toArray, List.set_cons_zero, List.set_cons_succ]
          refine' wpT_det (o := ⟨some 25, Op.move (Operand.tmp 9), 2, "l06_integers.go:33", #[], none⟩) rfl (by rfl) (by rfl) (fun w' hw' => ?_) ?_; rotate_left
          · go_simp <;> first | rfl | exact ⟨rfl, rfl⟩
          simp only [Act.put, List.setIfInBounds_toArray, List.set_cons_zero, List.set_cons_succ]
          refine wpT_nd (o := ⟨some 26, Op.call { callee := Callee.value (Operand.tmp 23), args := #[Operand.tmp 24, Operand.tmp 25], argTypes := #[2, 2] }, 2, "l06_integers.go:33", #[{ on := 2, ground := Ground.data }, { on := 3, ground := Ground.data }, { on := 4, ground := Ground.data }], none⟩) rfl (by rfl) (by rfl) (fun w' hw' hF R__ hGo => ?_) ⟨_, rfl⟩ ?_
          · go_simp; exact gives_enter rfl ((hp.out i k w' hlt hlk (h4.trans hw'.undrew)).mono (by rintro e w2 ⟨rfl, hx⟩; exact ⟨_, rfl, hGo _ _ hx rfl trivial⟩))
          intro v hv
          obtain rfl : v = (.int .i64 (F i k)) := hv
          simp only [Act.put, List.setIfInBounds_toArray, List.set_cons_zero, List.set_cons_succ]
          refine wpT_nd (o := ⟨some 27, Op.buildSlice 26 1 #[(0, Operand.tmp 26)], 26, "l06_integers.go:33", #[{ on := 5, ground := Ground.data }], none⟩) rfl (by rfl) (by rfl) (fun w' hw' hF R__ hGo => ?_) ⟨_, 0, rfl⟩ ?_
          · go_simp; exact gives_value rfl (hGo _ _ ((Ext.refl _).alloc _) ⟨_, rfl⟩ (One.new _ _ _))
          rintro _ ⟨g1, rfl⟩
          simp only [Act.put, List.setIfInBounds_toArray, List.set_cons_zero, List.set_cons_succ]
          refine wpT_nil (fun w2 hw' hF => ?_)
          show wpList _ _ _ [(⟨some 28, Op.call { callee := Callee.builtin Builtin.append, args := #[Operand.tmp 22, Operand.tmp 27], argTypes := #[26, 26] }, 26, "l06_integers.go:33", #[{ on := 1, ground := Ground.data }, { on := 6, ground := Ground.data }, { on := 5, ground := Ground.chain }], none⟩ : Oper), (⟨some 29, Op.fieldAddr 31 (Operand.tmp 7) 2, 0, "l06_integers.go:33", #[{ on := 0, ground := Ground.phase }, { on := 1, ground := Ground.phase }, { on := 2, ground := Ground.phase }, { on := 3, ground := Ground.phase }, { on := 4, ground := Ground.phase }, { on := 5, ground := Ground.phase }, { on := 6, ground := Ground.phase }, { on := 7, ground := Ground.phase }], none⟩ : Oper), (⟨none, Op.store 26 (Operand.tmp 29) (Operand.tmp 28), 0, "l06_integers.go:33", #[{ on := 8, ground := Ground.data }, { on := 7, ground := Ground.data }, { on := 7, ground := Ground.chain }, { on := 0, ground := Ground.phase }, { on := 1, ground := Ground.phase }, { on := 2, ground := Ground.phase }, { on := 3, ground := Ground.phase }, { on := 4, ground := Ground.phase }, { on := 5, ground := Ground.phase }, { on := 6, ground := Ground.phase }, { on := 7, ground := Ground.phase }], none⟩ : Oper)] _ _
          have hg : One w2 (.slice (some ⟨g1, 0, none⟩) 1 1) (.int .i64 (F i k)) 2 := hF 6 _ rfl
          have hx := hw'.undrew
          clear hF hw'
          have hsz := (h4.trans hx).size
          have hl0 := h3.len
          have hf := (h1.ext hx).free 2
          have hc := (h1.ext hx).cell 2 rfl
          go_wp2_with (at_builtin; go_loud (refine wpList_app1 rfl _ _ _ rfl w2 w.heap.size 2 (.int .i64 0) 8 Try.underlying26 info_i64 rfl (by decide) (.slice A (i * C + k) c) (ints (tab C F (i * C + k))) rfl g1 (.int .i64 (F i k)) rfl hg (h3.ext hx) rfl (by omega) hsz ?_); rw [hl0]; intro A' c' w3 h5 h6 h7; clear hf hc; have b1 := (h1.ext hx).wr h6 (h3.ext hx) (by decide); have hf := b1.free 2; have hq := b1.lt; have hc := b1.cell 2 rfl)
          go_roundw
          case rel => exact ⟨k + 1, by omega, by go_num, WB.next hlk hx h1 h2 h3 h4 h5 h6⟩
          case measure => simp [intOf]; omega
        · obtain rfl : k = C := by omega
          go_wp2_with fail
          go_roundw
          case rel => exact ⟨i + 1, by omega, by go_num, by rw [Nat.succ_mul]; exact hst⟩
          case measure => simp [intOf]; omega
    · obtain rfl : i = R := by omega
      obtain ⟨A, c, h1, h2, h3, h4⟩ := hst
      have z0 : wr.cell? ⟨w.heap.size + 1, 0, none⟩ = some (.int .i64 i) := h1.cell 0 rfl
      have z1 : wr.cell? ⟨w.heap.size + 1, 1, none⟩ = some (.int .i64 C) := h1.cell 1 rfl
      have z2 : wr.cell? ⟨w.heap.size + 1, 2, none⟩ = some (.slice A (i * C) c) := h1.cell 2 rfl
      have y0 : wr.cell? ⟨w.heap.size, 0, none⟩ = some (.int .i64 0) := h2.cell 0 rfl
      have y1 : wr.cell? ⟨w.heap.size, 1, none⟩ = some (.int .i64 0) := h2.cell 1 rfl
      have y2 : wr.cell? ⟨w.heap.size, 2, none⟩ = some (.slice none 0 0) := h2.cell 2 rfl
      have f0 := h2.free 0
      have f1 := h2.free 1
      have f2 := h2.free 2
      have hq := h2.lt
      go_wp2_with fail
      refine bodyPost_ret (resW rfl rfl (((h2.set 0 (.int .i64 i)).set 1 (.int .i64 C)).set 2 (.slice A (i * C) c))) rfl ⟨A, c, rfl, ?_, ?_⟩
      · exact ((h3.setBlk h2 (by decide) _ _).setBlk (h2.set _ _) (by decide) _ _).setBlk ((h2.set _ _).set _ _) (by decide) _ _
      · exact ((h4.set (by simp) _).set (by simp) _).set (by simp) _
end Go.Proofs.Ytcfimkjkolgboaa
