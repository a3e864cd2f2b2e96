import Derived.Test.YtcfimkjkolgboaaE1
set_option linter.unusedVariables false
set_option linter.unusedSimpArgs false
namespace Go.Proofs.Ytcfimkjkolgboaa
open Go.RowKit

/-- A Whole in a block. -/
structure WAt (w : World) (b : Nat) (r c : Int) (A : Option Addr) (n cap : Nat) (xs : List Int) : Prop where
  c0 : w.cell? ⟨b, 0, none⟩ = some (.int .i64 r)
  c1 : w.cell? ⟨b, 1, none⟩ = some (.int .i64 c)
  c2 : w.cell? ⟨b, 2, none⟩ = some (.slice A n cap)
  rds : Rds w A n (ints xs)
theorem WAt.ext {w w' : World} {b : Nat} {r c : Int} {A : Option Addr} {n cap : Nat} {xs : List Int} (h : WAt w b r c A n cap xs) (hx : Ext w w') : WAt w' b r c A n cap xs :=
  ⟨hx.cell h.c0, hx.cell h.c1, hx.cell h.c2, h.rds.below hx⟩
theorem WAt.new {w : World} {r c : Int} {A : Option Addr} {n cap : Nat} {xs : List Int} (h : Rds w A n (ints xs)) (T : TypeId) : WAt (w.alloc (.cells #[.int .i64 r, .int .i64 c, .slice A n cap] T)) w.heap.size r c A n cap xs :=
  ⟨by simp, by simp, by simp, h.below ((Ext.refl _).alloc _)⟩

/-- The index of a number. -/
theorem ix_facts {R C i k n : Nat} (hi : i < R) (hk : k < C) (hR : R ≤ 6) (hC : C ≤ 6) (hn : n = R * C) :
    0 ≤ (i : Int) * C ∧ (i : Int) * C ≤ 30 ∧ 0 ≤ (i : Int) * C + k ∧ (i : Int) * C + k < n ∧ n ≤ 36 ∧ ((i : Int) * C + k).toNat = i * C + k ∧ IntKind.i64.wrap ((i : Int) * C) = (i : Int) * C ∧ IntKind.i64.wrap ((i : Int) * C + k) = (i : Int) * C + k := by
  have h1 : i * C ≤ 5 * C := Nat.mul_le_mul_right _ (by omega)
  have h2 : (i + 1) * C ≤ R * C := Nat.mul_le_mul_right _ (by omega)
  have h3 : R * C ≤ 6 * C := Nat.mul_le_mul_right _ hR
  have e : (i : Int) * C = ((i * C : Nat) : Int) := by simp
  rw [Nat.succ_mul] at h2
  rw [e]
  refine ⟨by omega, by omega, by omega, by omega, by omega, by omega, IntWalk.i64_in _ (by omega), IntWalk.i64_in _ (by omega)⟩

/-- The number in a row and a column. -/
def at_ (xs : List Int) (C i k : Nat) : Int := rd xs ((i : Int) * C + k)

set_option maxHeartbeats 1000000 in
theorem l06At_any (b R C i k n cap : Nat) (A : Option Addr) (xs : List Int) (w : World) (hi : i < R) (hk : k < C) (hR : R ≤ 6) (hC : C ≤ 6) (hn : n = R * C) (ha : WAt w b R C A n cap xs) :
    Calls Try.prog 98 #[.pointer (some ⟨b, 0, none⟩), .int .i64 i, .int .i64 k] w fun e w' => e = .returned (.int .i64 (at_ xs C i k)) ∧ Ext w w' := by
  obtain ⟨f1, f2, f3, f4, f5, f6, f7, f8⟩ := ix_facts hi hk hR hC hn
  obtain ⟨c0, c1, c2, hr⟩ := ha
  clear hn
  obtain ⟨ad, rfl, hc⟩ := hr.int _ f3 f4
  rw [f6] at hc
  have hat : at_ xs C i k = rd xs ((i : Int) * C + k) := rfl
  rw [hat]
  clear hat
  go_enter Try.func98, Try.ntmps98
  go_wp2_with fail
  refine wp_region_T (cs := []) [0, 1, 2, 3, 4, 5, 6, 7, 8, 9, 10, 11, 12, 13, 14] [] [] [] (fun _ _ => False) (fun _ _ _ => True) (by kernel_rfl) (by kernel_rfl) (fun _ _ _ _ _ _ => trivial) ?_
  refine' wpT_det (o := ⟨some 7, Op.move (Operand.tmp 0), 62, "l06_integers.go:55", #[], none⟩) rfl (by rfl) (by rfl) (fun w' hw' => ?_) ?_; rotate_left
  · go_simp <;> first | rfl | exact ⟨rfl, rfl⟩
  simp only [Act.put, List.setIfInBounds_toArray, List.set_cons_zero, List.set_cons_succ]
  refine' wpT_det (o := ⟨some 8, Op.nilCheck (Operand.tmp 7), 0, "l06_integers.go:55", #[{ on := 0, ground := Ground.data }], none⟩) rfl (by rfl) (by rfl) (fun w' hw' => ?_) ?_; rotate_left
  · go_simp <;> first | rfl | exact ⟨rfl, rfl⟩
  simp only [Act.put, List.setIfInBounds_toArray, List.set_cons_zero, List.set_cons_succ]
  refine' wpT_det (o := ⟨some 9, Op.fieldAddr 31 (Operand.tmp 8) 2, 0, "l06_integers.go:55", #[{ on := 1, ground := Ground.data }], none⟩) rfl (by rfl) (by rfl) (fun w' hw' => ?_) ?_; rotate_left
  · go_simp <;> first | rfl | exact ⟨rfl, rfl⟩
  simp only [Act.put, List.setIfInBounds_toArray, List.set_cons_zero, List.set_cons_succ]
  refine' wpT_det (o := ⟨some 10, Op.load 26 (Operand.tmp 9), 26, "l06_integers.go:55", #[{ on := 2, ground := Ground.data }], none⟩) rfl (by rfl) (by rfl) (fun w' hw' => ?_) ?_; rotate_left
  · have c1_ := Ext.cell hw' c1; have c2_ := Ext.cell hw' c2; have hc_ := Ext.cell hw' hc; go_simp <;> first | rfl | exact ⟨rfl, rfl⟩
  simp only [Act.put, List.setIfInBounds_toArray, List.set_cons_zero, List.set_cons_succ]
  refine' wpT_det (o := ⟨some 11, Op.move (Operand.tmp 1), 2, "l06_integers.go:55", #[], none⟩) rfl (by rfl) (by rfl) (fun w' hw' => ?_) ?_; rotate_left
  · go_simp <;> first | rfl | exact ⟨rfl, rfl⟩
  simp only [Act.put, List.setIfInBounds_toArray, List.set_cons_zero, List.set_cons_succ]
  refine' wpT_det (o := ⟨some 12, Op.move (Operand.tmp 0), 62, "l06_integers.go:55", #[], none⟩) rfl (by rfl) (by rfl) (fun w' hw' => ?_) ?_; rotate_left
  · go_simp <;> first | rfl | exact ⟨rfl, rfl⟩
  simp only [Act.put, List.setIfInBounds_toArray, List.set_cons_zero, List.set_cons_succ]
  refine' wpT_det (o := ⟨some 13, Op.nilCheck (Operand.tmp 12), 0, "l06_integers.go:55", #[{ on := 5, ground := Ground.data }], none⟩) rfl (by rfl) (by rfl) (fun w' hw' => ?_) ?_; rotate_left
  · go_simp <;> first | rfl | exact ⟨rfl, rfl⟩
  simp only [Act.put, List.setIfInBounds_toArray, List.set_cons_zero, List.set_cons_succ]
  refine' wpT_det (o := ⟨some 14, Op.fieldAddr 31 (Operand.tmp 13) 1, 0, "l06_integers.go:55", #[{ on := 6, ground := Ground.data }], none⟩) rfl (by rfl) (by rfl) (fun w' hw' => ?_) ?_; rotate_left
  · go_simp <;> first | rfl | exact ⟨rfl, rfl⟩
  simp only [Act.put, List.setIfInBounds_toArray, List.set_cons_zero, List.set_cons_succ]
  refine' wpT_det (o := ⟨some 15, Op.load 2 (Operand.tmp 14), 2, "l06_integers.go:55", #[{ on := 7, ground := Ground.data }], none⟩) rfl (by rfl) (by rfl) (fun w' hw' => ?_) ?_; rotate_left
  · have c1_ := Ext.cell hw' c1; have c2_ := Ext.cell hw' c2; have hc_ := Ext.cell hw' hc; go_simp <;> first | rfl | exact ⟨rfl, rfl⟩
  simp only [Act.put, List.setIfInBounds_toArray, List.set_cons_zero, List.set_cons_succ]
  refine' wpT_det (o := ⟨some 16, Op.binOp BinOp.mul 2 (Operand.tmp 11) (Operand.tmp 15) 2, 2, "l06_integers.go:55", #[{ on := 4, ground := Ground.data }, { on := 8, ground := Ground.data }], none⟩) rfl (by rfl) (by rfl) (fun w' hw' => ?_) ?_; rotate_left
  · go_simp <;> first | rfl | exact ⟨rfl, rfl⟩
  simp only [Act.put, List.setIfInBounds_toArray, List.set_cons_zero, List.set_cons_succ]
  refine' wpT_det (o := ⟨some 17, Op.move (Operand.tmp 2), 2, "l06_integers.go:55", #[], none⟩) rfl (by rfl) (by rfl) (fun w' hw' => ?_) ?_; rotate_left
  · go_simp <;> first | rfl | exact ⟨rfl, rfl⟩
  simp only [Act.put, List.setIfInBounds_toArray, List.set_cons_zero, List.set_cons_succ]
  refine' wpT_det (o := ⟨some 18, Op.binOp BinOp.add 2 (Operand.tmp 16) (Operand.tmp 17) 2, 2, "l06_integers.go:55", #[{ on := 9, ground := Ground.data }, { on := 10, ground := Ground.data }], none⟩) rfl (by rfl) (by rfl) (fun w' hw' => ?_) ?_; rotate_left
  · go_simp <;> first | rfl | exact ⟨rfl, rfl⟩
  simp only [Act.put, List.setIfInBounds_toArray, List.set_cons_zero, List.set_cons_succ]
  refine' wpT_det (o := ⟨some 19, Op.indexAddr 26 (Operand.tmp 10) (Operand.tmp 18), 0, "l06_integers.go:55", #[{ on := 3, ground := Ground.data }, { on := 11, ground := Ground.data }], none⟩) rfl (by rfl) (by rfl) (fun w' hw' => ?_) ?_; rotate_left
  · go_simp <;> first | rfl | exact ⟨rfl, rfl⟩
  simp only [Act.put, List.setIfInBounds_toArray, List.set_cons_zero, List.set_cons_succ]
  refine' wpT_det (o := ⟨some 20, Op.load 2 (Operand.tmp 19), 2, "l06_integers.go:55", #[{ on := 12, ground := Ground.data }], none⟩) rfl (by rfl) (by rfl) (fun w' hw' => ?_) ?_; rotate_left
  · have c1_ := Ext.cell hw' c1; have c2_ := Ext.cell hw' c2; have hc_ := Ext.cell hw' hc; go_simp <;> first | rfl | exact ⟨rfl, rfl⟩
  simp only [Act.put, List.setIfInBounds_toArray, List.set_cons_zero, List.set_cons_succ]
  refine' wpT_det (o := ⟨some 6, Op.assign (Operand.tmp 20), 2, "l06_integers.go:55", #[{ on := 13, ground := Ground.data }, { on := 0, ground := Ground.phase }, { on := 1, ground := Ground.phase }, { on := 2, ground := Ground.phase }, { on := 3, ground := Ground.phase }, { on := 4, ground := Ground.phase }, { on := 5, ground := Ground.phase }, { on := 6, ground := Ground.phase }, { on := 7, ground := Ground.phase }, { on := 8, ground := Ground.phase }, { on := 9, ground := Ground.phase }, { on := 10, ground := Ground.phase }, { on := 11, ground := Ground.phase }, { on := 12, ground := Ground.phase }, { on := 13, ground := Ground.phase }], none⟩) rfl (by rfl) (by rfl) (fun w' hw' => ?_) ?_; rotate_left
  · go_simp <;> first | rfl | exact ⟨rfl, rfl⟩
  simp only [Act.put, List.setIfInBounds_toArray, List.set_cons_zero, List.set_cons_succ]
  refine wpT_nil (fun w' hw' hF => ?_)
  refine wpList_nil ?_
  go_wp2_with fail
  go_ret
  exact ⟨rfl, hw'.undrew⟩

set_option maxHeartbeats 1000000 in
theorem at_any (R C i k n cap : Nat) (A : Option Addr) (xs : List Int) (w : World) (hi : i < R) (hk : k < C) (hR : R ≤ 6) (hC : C ≤ 6) (hn : n = R * C) (hr : Rds w A n (ints xs)) :
    Calls Try.prog 78 #[.agg #[.int .i64 R, .int .i64 C, .slice A n cap], .int .i64 i, .int .i64 k] w fun e w' => e = .returned (.int .i64 (at_ xs C i k)) ∧ Ext w w' := by
  obtain ⟨f1, f2, f3, f4, f5, f6, f7, f8⟩ := ix_facts hi hk hR hC hn
  clear hn
  have hx0 : Ext w (w.alloc (.cells #[.int .i64 R, .int .i64 C, .slice A n cap] 31)) := (Ext.refl _).alloc _
  obtain ⟨ad, rfl, hc⟩ := (hr.below hx0).int _ f3 f4
  rw [f6] at hc
  have hat : at_ xs C i k = rd xs ((i : Int) * C + k) := rfl
  rw [hat]
  clear hat
  go_enter Try.func78, Try.ntmps78
  go_wp2_with fail
  go_ret
  exact ⟨rfl, hx0⟩

/-- A Whole that a function answers, or that it fails. -/
structure WD where
  r : Int
  c : Int
  xs : List Int
  ok : Bool
def WD.bad : WD := ⟨0, 0, [], false⟩
def RetWD (w : World) (d : WD) (e : Ending) (w' : World) : Prop := ∃ A k, e = .returned (.tuple #[.agg #[.int .i64 d.r, .int .i64 d.c, .slice A d.xs.length k], .bool d.ok]) ∧ Own w' w.heap.size 2 (.slice A d.xs.length k) (ints d.xs) ∧ Ext w w'
theorem RetWD.bad {w w' : World} {d : WD} (hd : d = WD.bad) (h : Ext w w') : RetWD w d (.returned (.tuple #[.agg #[.int .i64 0, .int .i64 0, .slice none 0 0], .bool false])) w' := by
  subst hd
  exact ⟨none, 0, rfl, own_nil _ _ _, h⟩

set_option maxHeartbeats 1000000 in
theorem l06Zero_any (R C : Nat) (hR : R ≤ 6) (hC : C ≤ 6) (w : World) :
    Calls Try.prog 105 #[.int .i64 R, .int .i64 C] w (RetWhole w R C (R * C) (List.replicate (R * C) 0)) := by
  have h1 : R * C ≤ 36 := Nat.mul_le_mul hR hC
  have e : (R : Int) * C = ((R * C : Nat) : Int) := by simp
  have hwm : IntKind.i64.wrap ((R : Int) * C) = ((R * C : Nat) : Int) := by rw [e]; exact IntWalk.i64_in _ (by omega)
  obtain ⟨n, hn⟩ : ∃ n, n = R * C := ⟨_, rfl⟩
  rw [← hn] at hwm h1 ⊢
  have Hn := Lib.hid hn
  clear hn e
  have hmk := run_make_row' (P := Try.prog) 26 2 (.int .i64 0) 8 Try.underlying26 info_i64 rfl .i64 .i64 n (by omega) (by omega)
  go_enter Try.func105, Try.ntmps105
  go_wp2_with fail
  refine bodyPost_ret (resW rfl rfl (b := w.heap.size) (v0 := .int .i64 R) (v1 := .int .i64 C) (v2 := .slice (some ⟨w.heap.size + 1, 0, none⟩) n n) (T := 31) ((Blk.new w _ _).ext ((Ext.refl _).alloc _))) rfl ⟨_, n, rfl, ?_, ((Ext.refl _).alloc _).alloc _⟩
  rw [ints_replicate]
  simpa using (Own.made (w.alloc (.cells #[.int .i64 R, .int .i64 C, .slice (some ⟨w.heap.size + 1, 0, none⟩) n n] 31)) 2 (.int .i64 0) n rfl (by omega)).base (b := w.heap.size) (by simp)

/-- A table in which one number is set. -/
theorem tab_set {C m : Nat} {F F' : Nat → Nat → Int} {i k : Nat} {y : Int} (hk : k < C) (hm : i * C + k < m) (hy : F' i k = y) (h : ∀ a b, b < C → (a ≠ i ∨ b ≠ k) → F' a b = F a b) : (tab C F m).set (i * C + k) y = tab C F' m := by
  apply List.ext_getElem
  · simp [tab]
  intro j h1 h2
  have hj : j < m := by simpa [tab] using h2
  rw [List.getElem_set]
  simp only [tab, List.getElem_map, List.getElem_range]
  have hd := Nat.div_add_mod j C
  have hml := Nat.mod_lt j (show 0 < C by omega)
  split
  · rename_i e
    have h1 : (i * C + k) / C = i := by
      rw [Nat.mul_comm, Nat.mul_add_div (by omega), Nat.div_eq_of_lt hk]; rfl
    have h2 : (i * C + k) % C = k := by
      rw [Nat.mul_comm, Nat.mul_add_mod, Nat.mod_eq_of_lt hk]
    rw [← e, h1, h2, hy]
  · rename_i e
    rw [h _ _ hml]
    by_cases e1 : j / C = i
    · right
      intro e2
      apply e
      rw [← hd, e1, e2, Nat.mul_comm]
    · exact .inl e1
theorem tab_const (C m : Nat) (z : Int) : tab C (fun _ _ => z) m = List.replicate m z := by
  simp [tab, List.map_const']
theorem tab_congr {C R : Nat} {F F' : Nat → Nat → Int} (h : ∀ a b, a < R → b < C → F a b = F' a b) : tab C F (R * C) = tab C F' (R * C) := by
  unfold tab
  apply List.map_congr_left
  intro j hj
  rw [List.mem_range] at hj
  have hC : 0 < C := by
    rcases Nat.eq_zero_or_pos C with h0 | h0
    · subst h0; omega
    · exact h0
  exact h _ _ ((Nat.div_lt_iff_lt_mul hC).2 hj) (Nat.mod_lt _ hC)

/-- A Whole of the call's own in block b, and the result's block. -/
def WO (w : World) (b b0 : Nat) (r c : Int) (n : Nat) (xs : List Int) (wr : World) : Prop := ∃ A k, Blk wr b #[.int .i64 r, .int .i64 c, .slice A n k] 31 ∧
  Blk wr b0 #[.int .i64 0, .int .i64 0, .slice none 0 0] 31 ∧ Own wr w.heap.size 2 (.slice A n k) (ints xs) ∧ Ext w wr

theorem WO.put {w wr : World} {b b0 g : Nat} {r c : Int} {n k : Nat} {xs : List Int} (h1 : Blk wr b #[.int .i64 r, .int .i64 c, .slice (some ⟨g, 0, none⟩) n k] 31)
    (h2 : Blk wr b0 #[.int .i64 0, .int .i64 0, .slice none 0 0] 31) (h3 : Own wr w.heap.size 2 (.slice (some ⟨g, 0, none⟩) n k) (ints xs)) (h4 : Ext w wr) (j : Nat) (y : Int) :
    WO w b b0 r c n (xs.set j y) (wr.setCell ⟨g, j, none⟩ (.int .i64 y)) := by
  obtain ⟨o, hw⟩ := h3.stored j (.int .i64 y)
  exact ⟨_, _, h1.wr hw h3 (by decide), h2.wr hw h3 (by decide), by rw [ints_set]; exact o, hw.ext h4 h3⟩
theorem WO.fin {w wr : World} {b0 : Nat} {r c : Int} {n k : Nat} {A : Option Addr} {xs : List Int}
    (h2 : Blk wr b0 #[.int .i64 0, .int .i64 0, .slice none 0 0] 31) (h3 : Own wr w.heap.size 2 (.slice A n k) (ints xs)) (h4 : Ext w wr) (hb : w.heap.size ≤ b0) :
    Own (((wr.setCell ⟨b0, 0, none⟩ (.int .i64 r)).setCell ⟨b0, 1, none⟩ (.int .i64 c)).setCell ⟨b0, 2, none⟩ (.slice A n k)) w.heap.size 2 (.slice A n k) (ints xs) ∧
    Ext w (((wr.setCell ⟨b0, 0, none⟩ (.int .i64 r)).setCell ⟨b0, 1, none⟩ (.int .i64 c)).setCell ⟨b0, 2, none⟩ (.slice A n k)) ∧
    Blk (((wr.setCell ⟨b0, 0, none⟩ (.int .i64 r)).setCell ⟨b0, 1, none⟩ (.int .i64 c)).setCell ⟨b0, 2, none⟩ (.slice A n k)) b0 #[.int .i64 r, .int .i64 c, .slice A n k] 31 :=
  ⟨((h3.setBlk h2 (by decide) _ _).setBlk (h2.set _ _) (by decide) _ _).setBlk ((h2.set _ _).set _ _) (by decide) _ _, ((h4.set hb _).set hb _).set hb _, ((h2.set 0 _).set 1 _).set 2 _⟩

/-- A unit. -/
def unitT (n : Nat) : List Int := tab n (fun i k => if i = k then 1 else 0) (n * n)

set_option maxHeartbeats 1000000 in
theorem l06Unit_any (n : Nat) (hn : n ≤ 6) (w : World) :
    Calls Try.prog 73 #[.int .i64 n] w (RetWhole w n n (n * n) (unitT n)) := by
  go_enter Try.func73, Try.ntmps73
  go_wp2_with fail
  refine (l06Zero_any n n hn hn _).mono ?_
  rintro e w1 ⟨A, c, rfl, ho, hx⟩
  have hsz := hx.size
  simp only [World.size_alloc] at hsz
  have b0 : Blk w1 w.heap.size #[.int .i64 0, .int .i64 0, .slice none 0 0] 31 := (Blk.new w _ _).ext hx
  go_wp2_with fail
  have b1 : Blk (w1.alloc (.cells #[.int .i64 n, .int .i64 n, .slice A (n * n) c] 31)) w1.heap.size #[.int .i64 n, .int .i64 n, .slice A (n * n) c] 31 := Blk.new _ _ _
  have x1 : Ext w1 (w1.alloc (.cells #[.int .i64 n, .int .i64 n, .slice A (n * n) c] 31)) := (Ext.refl _).alloc _
  go_loopw [4] (fun u wr => ∃ i : Nat, i ≤ n ∧ u = .int .i64 i ∧ WO w w1.heap.size w.heap.size n n (n * n) (tab n (fun a b => if a = b ∧ a < i then 1 else 0) (n * n)) wr) (fun u _ => n - (intOf u).toNat)
  case atStart =>
    refine ⟨0, Nat.zero_le _, rfl, A, c, b1, b0.ext x1, ?_, ((Ext.refl w).alloc _).trans (hx.trans x1)⟩
    have e : tab n (fun a b => if a = b ∧ a < 0 then 1 else 0) (n * n) = List.replicate (n * n) 0 := by rw [← tab_const n]; congr 1; funext a b; rw [if_neg (by omega)]
    rw [e]
    exact (ho.ext x1).base (by simp)
  case round =>
    clear b1 x1 ho hx b0
    obtain ⟨i, hi, rfl, A, c, h1, h2, h3, h4⟩ := hrel
    have z0 : wr.cell? ⟨w1.heap.size, 0, none⟩ = some (.int .i64 n) := h1.cell 0 rfl
    have z1 : wr.cell? ⟨w1.heap.size, 1, none⟩ = some (.int .i64 n) := h1.cell 1 rfl
    have z2 : wr.cell? ⟨w1.heap.size, 2, none⟩ = some (.slice A (n * n) c) := h1.cell 2 rfl
    by_cases hlt : i < n
    · obtain ⟨nn, hnn⟩ : ∃ nn, nn = n * n := ⟨_, rfl⟩
      obtain ⟨f1, f2, f3, f4, f5, f6, f7, f8⟩ := ix_facts hlt hlt hn hn hnn
      rw [← hnn] at h1 h3 z2 ⊢
      have Hn := Lib.hid hnn
      clear hnn
      obtain ⟨g, rfl, _⟩ := h3.head (by omega)
      obtain ⟨hc, hf⟩ := h3.at_ (i * n + i) (by omega)
      rw [ints_get (by rw [tab_length]; omega)] at hc
      go_wp2_with fail
      go_roundw
      case rel =>
        refine ⟨i + 1, by omega, by go_num, ?_⟩
        have := WO.put h1 h2 h3 h4 (i * n + i) 1
        rwa [tab_set (F' := fun a b => if a = b ∧ a < i + 1 then 1 else 0) hlt (by omega) (by simp) (by
          intro a b _ hab
          by_cases h : a = b ∧ a < i
          · rw [if_pos h, if_pos ⟨h.1, by omega⟩]
          · rw [if_neg h, if_neg (by omega)])] at this
      case measure => simp [intOf]; omega
    · obtain rfl : i = n := by omega
      have y0 : wr.cell? ⟨w.heap.size, 0, none⟩ = some (.int .i64 0) := h2.cell 0 rfl
      have y1 : wr.cell? ⟨w.heap.size, 1, none⟩ = some (.int .i64 0) := h2.cell 1 rfl
      have y2 : wr.cell? ⟨w.heap.size, 2, none⟩ = some (.slice none 0 0) := h2.cell 2 rfl
      have q0 := h2.free 0
      have q1 := h2.free 1
      have q2 := h2.free 2
      have hq := h2.lt
      go_wp2_with fail
      obtain ⟨k1, k2, k3⟩ := WO.fin (r := i) (c := i) h2 h3 h4 (Nat.le_refl _)
      refine bodyPost_ret (resW rfl rfl k3) rfl ⟨A, c, rfl, ?_, k2⟩
      have e : tab i (fun a b => if a = b ∧ a < i then 1 else 0) (i * i) = unitT i := tab_congr (by
        intro a b ha hb
        by_cases h : a = b
        · rw [if_pos ⟨h, ha⟩, if_pos h]
        · rw [if_neg (fun e => h e.1), if_neg h])
      rw [← e]
      exact k1

set_option maxHeartbeats 400000 in
theorem unitWhole1_any (i k : Nat) (hi : i ≤ 6) (hk : k ≤ 6) (w : World) :
    Calls Try.prog 106 #[.int .i64 i, .int .i64 k] w fun e w' => e = .returned (.int .i64 (if i = k then 1 else 0)) ∧ Ext w w' := by
  by_cases h : i = k
  · have h' : ((i : Int) == (k : Int)) = true := by simp [h]
    rw [if_pos h]
    go_enter Try.func106, Try.ntmps106
    go_wp2_with fail
    go_ret
    exact ⟨rfl, Ext.refl _⟩
  · have h' : ((i : Int) == (k : Int)) = false := by simp; omega
    rw [if_neg h]
    go_enter Try.func106, Try.ntmps106
    go_wp2_with fail
    go_ret
    exact ⟨rfl, Ext.refl _⟩

/-- The three stores into a result's block. -/
theorem Own.res {w wr : World} {b0 : Nat} {u v x a0 a1 a2 : Value} {r : Value} {vs : List Value}
    (h2 : Blk wr b0 #[a0, a1, a2] 31) (h3 : Own wr w.heap.size 2 r vs) (h4 : Ext w wr) (hb : w.heap.size ≤ b0) :
    Own (((wr.setCell ⟨b0, 0, none⟩ u).setCell ⟨b0, 1, none⟩ v).setCell ⟨b0, 2, none⟩ x) w.heap.size 2 r vs ∧
    Ext w (((wr.setCell ⟨b0, 0, none⟩ u).setCell ⟨b0, 1, none⟩ v).setCell ⟨b0, 2, none⟩ x) ∧
    Blk (((wr.setCell ⟨b0, 0, none⟩ u).setCell ⟨b0, 1, none⟩ v).setCell ⟨b0, 2, none⟩ x) b0 #[u, v, x] 31 :=
  ⟨((h3.setBlk h2 (by decide) _ _).setBlk (h2.set _ _) (by decide) _ _).setBlk ((h2.set _ _).set _ _) (by decide) _ _, ((h4.set hb _).set hb _).set hb _, ((h2.set 0 _).set 1 _).set 2 _⟩

set_option maxHeartbeats 1000000 in
theorem unitWhole_any (n : Nat) (hn : n ≤ 6) (w : World) :
    Calls Try.prog 74 #[.int .i64 n] w (RetWhole w n n (n * n) (unitT n)) := by
  go_enter Try.func74, Try.ntmps74
  go_wp2_with fail
  refine (wholeBy_any 106 _ (enters_of Try.func106 (by kernel_rfl) rfl) n n hn hn (fun i k => if i = k then 1 else 0) _ (fun i k W hi hk hW => ?_)).mono ?_
  · exact unitWhole1_any i k (by omega) (by omega) W
  rintro e w1 ⟨A, c, rfl, ho, hx⟩
  have hsz := hx.size
  simp only [World.size_alloc] at hsz
  have b0 : Blk w1 w.heap.size #[.int .i64 0, .int .i64 0, .slice none 0 0] 31 := (Blk.new w _ _).ext hx
  have y0 : w1.cell? ⟨w.heap.size, 0, none⟩ = some (.int .i64 0) := b0.cell 0 rfl
  have y1 : w1.cell? ⟨w.heap.size, 1, none⟩ = some (.int .i64 0) := b0.cell 1 rfl
  have y2 : w1.cell? ⟨w.heap.size, 2, none⟩ = some (.slice none 0 0) := b0.cell 2 rfl
  have q0 := b0.free 0
  have q1 := b0.free 1
  have q2 := b0.free 2
  have hq := b0.lt
  go_wp2_with fail
  obtain ⟨k1, k2, k3⟩ := Own.res (w := w) (u := .int .i64 n) (v := .int .i64 n) (x := .slice A (n * n) c) b0 (ho.base (by simp)) (((Ext.refl _).alloc _).trans hx) (Nat.le_refl _)
  exact bodyPost_ret (resW rfl rfl k3) rfl ⟨A, c, rfl, k1, k2⟩

/-- What UnitWhole answers. -/
def unitD (n : Int) : WD := if inR 1 n 6 then ⟨n, n, unitT n.toNat, true⟩ else WD.bad

set_option maxHeartbeats 1000000 in
theorem implUnitWhole_any (n : Int) (w : World) : Calls Try.prog 32 #[.int .i64 n] w (RetWD w (unitD n)) := by
  cases hin : inR 1 n 6 with
  | false =>
    have hd : unitD n = WD.bad := by simp [unitD, hin]
    go_enter Try.func32, Try.ntmps32
    go_wp2_with fail
    refine (inRange_any _ _ _ _).mono ?_
    rintro e w1 ⟨rfl, rfl⟩
    rw [hin]
    go_wp2_with fail
    exact bodyPost_ret (resWB rfl rfl rfl (Blk.new _ _ _)) rfl (RetWD.bad hd ((Ext.refl _).alloc _))
  | true =>
    obtain ⟨b1, b2⟩ := inR_iff.1 hin
    obtain ⟨m, rfl⟩ : ∃ m : Nat, n = m := ⟨n.toNat, by omega⟩
    have hd : unitD m = ⟨m, m, unitT m, true⟩ := by simp [unitD, hin]
    have hl : (unitT m).length = m * m := tab_length _ _ _
    go_enter Try.func32, Try.ntmps32
    go_wp2_with fail
    refine (inRange_any _ _ _ _).mono ?_
    rintro e w1 ⟨rfl, rfl⟩
    rw [hin]
    go_wp2_with fail
    refine (unitWhole_any m (by omega) _).mono ?_
    rintro e w1 ⟨A, c, rfl, ho, hx⟩
    have hsz := hx.size
    simp only [World.size_alloc] at hsz
    have b0 : Blk w1 w.heap.size #[.int .i64 0, .int .i64 0, .slice none 0 0] 31 := (Blk.new w _ _).ext hx
    have y0 : w1.cell? ⟨w.heap.size, 0, none⟩ = some (.int .i64 0) := b0.cell 0 rfl
    have y1 : w1.cell? ⟨w.heap.size, 1, none⟩ = some (.int .i64 0) := b0.cell 1 rfl
    have y2 : w1.cell? ⟨w.heap.size, 2, none⟩ = some (.slice none 0 0) := b0.cell 2 rfl
    have q0 := b0.free 0
    have q1 := b0.free 1
    have q2 := b0.free 2
    have hq := b0.lt
    go_wp2_with fail
    obtain ⟨k1, k2, k3⟩ := Own.res (w := w) (u := .int .i64 m) (v := .int .i64 m) (x := .slice A (m * m) c) b0 (ho.base (by simp)) (((Ext.refl _).alloc _).trans hx) (Nat.le_refl _)
    refine bodyPost_ret (resWB rfl rfl rfl k3) rfl ?_
    rw [hd]
    exact ⟨A, c, by rw [hl]; rfl, by rw [hl]; exact k1, k2⟩

set_option maxHeartbeats 1000000 in
theorem specUnitWhole_any (n : Int) (w : World) : Calls Try.prog 31 #[.int .i64 n] w (RetWD w (unitD n)) := by
  cases hin : inR 1 n 6 with
  | false =>
    have hd : unitD n = WD.bad := by simp [unitD, hin]
    go_enter Try.func31, Try.ntmps31
    go_wp2_with fail
    refine (l00In_any _ _ _ _).mono ?_
    rintro e w1 ⟨rfl, rfl⟩
    rw [hin]
    go_wp2_with fail
    exact bodyPost_ret (resWB rfl rfl rfl (Blk.new _ _ _)) rfl (RetWD.bad hd ((Ext.refl _).alloc _))
  | true =>
    obtain ⟨b1, b2⟩ := inR_iff.1 hin
    obtain ⟨m, rfl⟩ : ∃ m : Nat, n = m := ⟨n.toNat, by omega⟩
    have hd : unitD m = ⟨m, m, unitT m, true⟩ := by simp [unitD, hin]
    have hl : (unitT m).length = m * m := tab_length _ _ _
    go_enter Try.func31, Try.ntmps31
    go_wp2_with fail
    refine (l00In_any _ _ _ _).mono ?_
    rintro e w1 ⟨rfl, rfl⟩
    rw [hin]
    go_wp2_with fail
    refine (l06Unit_any m (by omega) _).mono ?_
    rintro e w1 ⟨A, c, rfl, ho, hx⟩
    have hsz := hx.size
    simp only [World.size_alloc] at hsz
    have b0 : Blk w1 w.heap.size #[.int .i64 0, .int .i64 0, .slice none 0 0] 31 := (Blk.new w _ _).ext hx
    have y0 : w1.cell? ⟨w.heap.size, 0, none⟩ = some (.int .i64 0) := b0.cell 0 rfl
    have y1 : w1.cell? ⟨w.heap.size, 1, none⟩ = some (.int .i64 0) := b0.cell 1 rfl
    have y2 : w1.cell? ⟨w.heap.size, 2, none⟩ = some (.slice none 0 0) := b0.cell 2 rfl
    have q0 := b0.free 0
    have q1 := b0.free 1
    have q2 := b0.free 2
    have hq := b0.lt
    go_wp2_with fail
    obtain ⟨k1, k2, k3⟩ := Own.res (w := w) (u := .int .i64 m) (v := .int .i64 m) (x := .slice A (m * m) c) b0 (ho.base (by simp)) (((Ext.refl _).alloc _).trans hx) (Nat.le_refl _)
    refine bodyPost_ret (resWB rfl rfl rfl k3) rfl ?_
    rw [hd]
    exact ⟨A, c, by rw [hl]; rfl, by rw [hl]; exact k1, k2⟩

end Go.Proofs.Ytcfimkjkolgboaa
