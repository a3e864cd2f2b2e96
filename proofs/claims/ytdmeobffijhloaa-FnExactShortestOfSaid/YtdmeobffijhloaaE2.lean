
import Derived.Test.YtdmeobffijhloaaE1
set_option linter.unusedVariables false
set_option linter.unusedSimpArgs false

namespace Go.Proofs.Ytdmeobffijhloaa

open Go.RowKit

/-- A Whole in a block. -/
structure WAt (w : World) (b : Nat) (r c : Int) (A : Option Addr) (n cap : Nat) (xs : List Int) : Prop where
  c0 : w.cell? ⟨b, 0, none⟩ = some (.int .i64 r)
  c1 : w.cell? ⟨b, 1, none⟩ = some (.int .i64 c)
  c2 : w.cell? ⟨b, 2, none⟩ = some (.slice A n cap)
  rds : Rds w A n (ints xs)
theorem WAt.ext {w w' : World} {b : Nat} {r c : Int} {A : Option Addr} {n cap : Nat} {xs : List Int} (h : WAt w b r c A n cap xs) (hx : Ext w w') : WAt w' b r c A n cap xs :=
  ⟨hx.cell h.c0, hx.cell h.c1, hx.cell h.c2, h.rds.below hx⟩
theorem WAt.new {w : World} {r c : Int} {A : Option Addr} {n cap : Nat} {xs : List Int} (h : Rds w A n (ints xs)) (T : TypeId) : WAt (w.alloc (.cells #[.int .i64 r, .int .i64 c, .slice A n cap] T)) w.heap.size r c A n cap xs :=
  ⟨by simp, by simp, by simp, h.below ((Ext.refl _).alloc _)⟩

/-- The index of a number. -/
theorem ixI {R C i k n : Nat} (hi : i < R) (hk : k < C) (hR : R ≤ 6) (hC : C ≤ 6) (hn : n = R * C) :
    0 ≤ (i : Int) * C ∧ (i : Int) * C ≤ 30 ∧ 0 ≤ (i : Int) * C + k ∧ (i : Int) * C + k < n ∧ n ≤ 36 ∧ ((i : Int) * C + k).toNat = i * C + k ∧ IntKind.i64.wrap ((i : Int) * C) = (i : Int) * C ∧ IntKind.i64.wrap ((i : Int) * C + k) = (i : Int) * C + k := by
  have h1 : i * C ≤ 5 * C := Nat.mul_le_mul_right _ (by omega)
  have h2 : (i + 1) * C ≤ R * C := Nat.mul_le_mul_right _ (by omega)
  have h3 : R * C ≤ 6 * C := Nat.mul_le_mul_right _ hR
  have e : (i : Int) * C = ((i * C : Nat) : Int) := by simp
  rw [Nat.succ_mul] at h2
  rw [e]
  refine ⟨by omega, by omega, by omega, by omega, by omega, by omega, IntWalk.i64_in _ (by omega), IntWalk.i64_in _ (by omega)⟩

/-- The number in a row and a column. -/
def atI (xs : List Int) (C i k : Nat) : Int := rd xs ((i : Int) * C + k)

set_option maxHeartbeats 1000000 in
theorem l06At_any (b R C i k n cap : Nat) (A : Option Addr) (xs : List Int) (w : World) (hi : i < R) (hk : k < C) (hR : R ≤ 6) (hC : C ≤ 6) (hn : n = R * C) (ha : WAt w b R C A n cap xs) :
    Calls Try.prog 32 #[.pointer (some ⟨b, 0, none⟩), .int .i64 i, .int .i64 k] w fun e w' => e = .returned (.int .i64 (atI xs C i k)) ∧ Ext w w' := by
  obtain ⟨f1, f2, f3, f4, f5, f6, f7, f8⟩ := ixI hi hk hR hC hn
  obtain ⟨c0, c1, c2, hr⟩ := ha
  clear hn
  obtain ⟨ad, rfl, hc⟩ := hr.int _ f3 f4
  rw [f6] at hc
  have hat : atI xs C i k = rd xs ((i : Int) * C + k) := rfl
  rw [hat]
  clear hat
  go_enter Try.func32, Try.ntmps32
  go_wp2_with fail
  refine wp_region_T (cs := []) [0, 1, 2, 3, 4, 5, 6, 7, 8, 9, 10, 11, 12, 13, 14] [] [] [] (fun _ _ => False) (fun _ _ _ => True) (by kernel_rfl) (by kernel_rfl) (fun _ _ _ _ _ _ => trivial) ?_
  refine' wpT_det (o := ⟨some 7, Op.move (Operand.tmp 0), 44, "l06_integers.go:55", #[], none⟩) rfl (by rfl) (by rfl) (fun w' hw' => ?_) ?_; rotate_left
  · go_simp <;> first | rfl | exact ⟨rfl, rfl⟩
  simp only [Act.put, List.setIfInBounds_toArray, List.set_cons_zero, List.set_cons_succ]
  refine' wpT_det (o := ⟨some 8, Op.nilCheck (Operand.tmp 7), 0, "l06_integers.go:55", #[{ on := 0, ground := Ground.data }], none⟩) rfl (by rfl) (by rfl) (fun w' hw' => ?_) ?_; rotate_left
  · go_simp <;> first | rfl | exact ⟨rfl, rfl⟩
  simp only [Act.put, List.setIfInBounds_toArray, List.set_cons_zero, List.set_cons_succ]
  refine' wpT_det (o := ⟨some 9, Op.fieldAddr 31 (Operand.tmp 8) 2, 0, "l06_integers.go:55", #[{ on := 1, ground := Ground.data }], none⟩) rfl (by rfl) (by rfl) (fun w' hw' => ?_) ?_; rotate_left
  · go_simp <;> first | rfl | exact ⟨rfl, rfl⟩
  simp only [Act.put, List.setIfInBounds_toArray, List.set_cons_zero, List.set_cons_succ]
  refine' wpT_det (o := ⟨some 10, Op.load 22 (Operand.tmp 9), 22, "l06_integers.go:55", #[{ on := 2, ground := Ground.data }], none⟩) rfl (by rfl) (by rfl) (fun w' hw' => ?_) ?_; rotate_left
  · have c1_ := Ext.cell hw' c1; have c2_ := Ext.cell hw' c2; have hc_ := Ext.cell hw' hc; go_simp <;> first | rfl | exact ⟨rfl, rfl⟩
  simp only [Act.put, List.setIfInBounds_toArray, List.set_cons_zero, List.set_cons_succ]
  refine' wpT_det (o := ⟨some 11, Op.move (Operand.tmp 1), 2, "l06_integers.go:55", #[], none⟩) rfl (by rfl) (by rfl) (fun w' hw' => ?_) ?_; rotate_left
  · go_simp <;> first | rfl | exact ⟨rfl, rfl⟩
  simp only [Act.put, List.setIfInBounds_toArray, List.set_cons_zero, List.set_cons_succ]
  refine' wpT_det (o := ⟨some 12, Op.move (Operand.tmp 0), 44, "l06_integers.go:55", #[], none⟩) rfl (by rfl) (by rfl) (fun w' hw' => ?_) ?_; rotate_left
  · go_simp <;> first | rfl | exact ⟨rfl, rfl⟩
  simp only [Act.put, List.setIfInBounds_toArray, List.set_cons_zero, List.set_cons_succ]
  refine' wpT_det (o := ⟨some 13, Op.nilCheck (Operand.tmp 12), 0, "l06_integers.go:55", #[{ on := 5, ground := Ground.data }], none⟩) rfl (by rfl) (by rfl) (fun w' hw' => ?_) ?_; rotate_left
  · go_simp <;> first | rfl | exact ⟨rfl, rfl⟩
  simp only [Act.put, List.setIfInBounds_toArray, List.set_cons_zero, List.set_cons_succ]
  refine' wpT_det (o := ⟨some 14, Op.fieldAddr 31 (Operand.tmp 13) 1, 0, "l06_integers.go:55", #[{ on := 6, ground := Ground.data }], none⟩) rfl (by rfl) (by rfl) (fun w' hw' => ?_) ?_; rotate_left
  · go_simp <;> first | rfl | exact ⟨rfl, rfl⟩
  simp only [Act.put, List.setIfInBounds_toArray, List.set_cons_zero, List.set_cons_succ]
  refine' wpT_det (o := ⟨some 15, Op.load 2 (Operand.tmp 14), 2, "l06_integers.go:55", #[{ on := 7, ground := Ground.data }], none⟩) rfl (by rfl) (by rfl) (fun w' hw' => ?_) ?_; rotate_left
  · have c1_ := Ext.cell hw' c1; have c2_ := Ext.cell hw' c2; have hc_ := Ext.cell hw' hc; go_simp <;> first | rfl | exact ⟨rfl, rfl⟩
  simp only [Act.put, List.setIfInBounds_toArray, List.set_cons_zero, List.set_cons_succ]
  refine' wpT_det (o := ⟨some 16, Op.binOp BinOp.mul 2 (Operand.tmp 11) (Operand.tmp 15) 2, 2, "l06_integers.go:55", #[{ on := 4, ground := Ground.data }, { on := 8, ground := Ground.data }], none⟩) rfl (by rfl) (by rfl) (fun w' hw' => ?_) ?_; rotate_left
  · go_simp <;> first | rfl | exact ⟨rfl, rfl⟩
  simp only [Act.put, List.setIfInBounds_toArray, List.set_cons_zero, List.set_cons_succ]
  refine' wpT_det (o := ⟨some 17, Op.move (Operand.tmp 2), 2, "l06_integers.go:55", #[], none⟩) rfl (by rfl) (by rfl) (fun w' hw' => ?_) ?_; rotate_left
  · go_simp <;> first | rfl | exact ⟨rfl, rfl⟩
  simp only [Act.put, List.setIfInBounds_toArray, List.set_cons_zero, List.set_cons_succ]
  refine' wpT_det (o := ⟨some 18, Op.binOp BinOp.add 2 (Operand.tmp 16) (Operand.tmp 17) 2, 2, "l06_integers.go:55", #[{ on := 9, ground := Ground.data }, { on := 10, ground := Ground.data }], none⟩) rfl (by rfl) (by rfl) (fun w' hw' => ?_) ?_; rotate_left
  · go_simp <;> first | rfl | exact ⟨rfl, rfl⟩
  simp only [Act.put, List.setIfInBounds_toArray, List.set_cons_zero, List.set_cons_succ]
  refine' wpT_det (o := ⟨some 19, Op.indexAddr 22 (Operand.tmp 10) (Operand.tmp 18), 0, "l06_integers.go:55", #[{ on := 3, ground := Ground.data }, { on := 11, ground := Ground.data }], none⟩) rfl (by rfl) (by rfl) (fun w' hw' => ?_) ?_; rotate_left
  · go_simp <;> first | rfl | exact ⟨rfl, rfl⟩
  simp only [Act.put, List.setIfInBounds_toArray, List.set_cons_zero, List.set_cons_succ]
  refine' wpT_det (o := ⟨some 20, Op.load 2 (Operand.tmp 19), 2, "l06_integers.go:55", #[{ on := 12, ground := Ground.data }], none⟩) rfl (by rfl) (by rfl) (fun w' hw' => ?_) ?_; rotate_left
  · have c1_ := Ext.cell hw' c1; have c2_ := Ext.cell hw' c2; have hc_ := Ext.cell hw' hc; go_simp <;> first | rfl | exact ⟨rfl, rfl⟩
  simp only [Act.put, List.setIfInBounds_toArray, List.set_cons_zero, List.set_cons_succ]
  refine' wpT_det (o := ⟨some 6, Op.assign (Operand.tmp 20), 2, "l06_integers.go:55", #[{ on := 13, ground := Ground.data }, { on := 0, ground := Ground.phase }, { on := 1, ground := Ground.phase }, { on := 2, ground := Ground.phase }, { on := 3, ground := Ground.phase }, { on := 4, ground := Ground.phase }, { on := 5, ground := Ground.phase }, { on := 6, ground := Ground.phase }, { on := 7, ground := Ground.phase }, { on := 8, ground := Ground.phase }, { on := 9, ground := Ground.phase }, { on := 10, ground := Ground.phase }, { on := 11, ground := Ground.phase }, { on := 12, ground := Ground.phase }, { on := 13, ground := Ground.phase }], none⟩) rfl (by rfl) (by rfl) (fun w' hw' => ?_) ?_; rotate_left
  · go_simp <;> first | rfl | exact ⟨rfl, rfl⟩
  simp only [Act.put, List.setIfInBounds_toArray, List.set_cons_zero, List.set_cons_succ]
  refine wpT_nil (fun w' hw' hF => ?_)
  refine wpList_nil ?_
  go_wp2_with fail
  go_ret
  exact ⟨rfl, hw'.undrew⟩

set_option maxHeartbeats 1000000 in
theorem at_any (R C i k n cap : Nat) (A : Option Addr) (xs : List Int) (w : World) (hi : i < R) (hk : k < C) (hR : R ≤ 6) (hC : C ≤ 6) (hn : n = R * C) (hr : Rds w A n (ints xs)) :
    Calls Try.prog 26 #[.agg #[.int .i64 R, .int .i64 C, .slice A n cap], .int .i64 i, .int .i64 k] w fun e w' => e = .returned (.int .i64 (atI xs C i k)) ∧ Ext w w' := by
  obtain ⟨f1, f2, f3, f4, f5, f6, f7, f8⟩ := ixI hi hk hR hC hn
  clear hn
  have hx0 : Ext w (w.alloc (.cells #[.int .i64 R, .int .i64 C, .slice A n cap] 31)) := (Ext.refl _).alloc _
  obtain ⟨ad, rfl, hc⟩ := (hr.below hx0).int _ f3 f4
  rw [f6] at hc
  have hat : atI xs C i k = rd xs ((i : Int) * C + k) := rfl
  rw [hat]
  clear hat
  go_enter Try.func26, Try.ntmps26
  go_wp2_with fail
  go_ret
  exact ⟨rfl, hx0⟩

/-- A Whole that a function answers, or that it fails. -/
structure WD where
  r : Int
  c : Int
  xs : List Int
  ok : Bool
def WD.bad : WD := ⟨0, 0, [], false⟩
def RetWD (w : World) (d : WD) (e : Ending) (w' : World) : Prop := ∃ A k, e = .returned (.tuple #[.agg #[.int .i64 d.r, .int .i64 d.c, .slice A d.xs.length k], .bool d.ok]) ∧ Own w' w.heap.size 2 (.slice A d.xs.length k) (ints d.xs) ∧ Ext w w'
theorem RetWD.bad {w w' : World} {d : WD} (hd : d = WD.bad) (h : Ext w w') : RetWD w d (.returned (.tuple #[.agg #[.int .i64 0, .int .i64 0, .slice none 0 0], .bool false])) w' := by
  subst hd
  exact ⟨none, 0, rfl, own_nil _ _ _, h⟩

/-- A Whole of the call's own in block b, and the result's block. -/
def WO (w : World) (b b0 : Nat) (r c : Int) (n : Nat) (xs : List Int) (wr : World) : Prop := ∃ A k, Blk wr b #[.int .i64 r, .int .i64 c, .slice A n k] 31 ∧
  Blk wr b0 #[.int .i64 0, .int .i64 0, .slice none 0 0] 31 ∧ Own wr w.heap.size 2 (.slice A n k) (ints xs) ∧ Ext w wr

theorem WO.put {w wr : World} {b b0 g : Nat} {r c : Int} {n k : Nat} {xs : List Int} (h1 : Blk wr b #[.int .i64 r, .int .i64 c, .slice (some ⟨g, 0, none⟩) n k] 31)
    (h2 : Blk wr b0 #[.int .i64 0, .int .i64 0, .slice none 0 0] 31) (h3 : Own wr w.heap.size 2 (.slice (some ⟨g, 0, none⟩) n k) (ints xs)) (h4 : Ext w wr) (j : Nat) (y : Int) :
    WO w b b0 r c n (xs.set j y) (wr.setCell ⟨g, j, none⟩ (.int .i64 y)) := by
  obtain ⟨o, hw⟩ := h3.stored j (.int .i64 y)
  exact ⟨_, _, h1.wr hw h3 (by decide), h2.wr hw h3 (by decide), by rw [ints_set]; exact o, hw.ext h4 h3⟩
theorem WO.fin {w wr : World} {b0 : Nat} {r c : Int} {n k : Nat} {A : Option Addr} {xs : List Int}
    (h2 : Blk wr b0 #[.int .i64 0, .int .i64 0, .slice none 0 0] 31) (h3 : Own wr w.heap.size 2 (.slice A n k) (ints xs)) (h4 : Ext w wr) (hb : w.heap.size ≤ b0) :
    Own (((wr.setCell ⟨b0, 0, none⟩ (.int .i64 r)).setCell ⟨b0, 1, none⟩ (.int .i64 c)).setCell ⟨b0, 2, none⟩ (.slice A n k)) w.heap.size 2 (.slice A n k) (ints xs) ∧
    Ext w (((wr.setCell ⟨b0, 0, none⟩ (.int .i64 r)).setCell ⟨b0, 1, none⟩ (.int .i64 c)).setCell ⟨b0, 2, none⟩ (.slice A n k)) ∧
    Blk (((wr.setCell ⟨b0, 0, none⟩ (.int .i64 r)).setCell ⟨b0, 1, none⟩ (.int .i64 c)).setCell ⟨b0, 2, none⟩ (.slice A n k)) b0 #[.int .i64 r, .int .i64 c, .slice A n k] 31 :=
  ⟨((h3.setBlk h2 (by decide) _ _).setBlk (h2.set _ _) (by decide) _ _).setBlk ((h2.set _ _).set _ _) (by decide) _ _, ((h4.set hb _).set hb _).set hb _, ((h2.set 0 _).set 1 _).set 2 _⟩

/-- A unit. -/
def unitT (n : Nat) : List Int := tab n (fun i k => if i = k then 1 else 0) (n * n)

/-- The three stores into a result's block. -/
theorem Own.res {w wr : World} {b0 : Nat} {u v x a0 a1 a2 : Value} {r : Value} {vs : List Value}
    (h2 : Blk wr b0 #[a0, a1, a2] 31) (h3 : Own wr w.heap.size 2 r vs) (h4 : Ext w wr) (hb : w.heap.size ≤ b0) :
    Own (((wr.setCell ⟨b0, 0, none⟩ u).setCell ⟨b0, 1, none⟩ v).setCell ⟨b0, 2, none⟩ x) w.heap.size 2 r vs ∧
    Ext w (((wr.setCell ⟨b0, 0, none⟩ u).setCell ⟨b0, 1, none⟩ v).setCell ⟨b0, 2, none⟩ x) ∧
    Blk (((wr.setCell ⟨b0, 0, none⟩ u).setCell ⟨b0, 1, none⟩ v).setCell ⟨b0, 2, none⟩ x) b0 #[u, v, x] 31 :=
  ⟨((h3.setBlk h2 (by decide) _ _).setBlk (h2.set _ _) (by decide) _ _).setBlk ((h2.set _ _).set _ _) (by decide) _ _, ((h4.set hb _).set hb _).set hb _, ((h2.set 0 _).set 1 _).set 2 _⟩

/-- What UnitWhole answers. -/
def unitD (n : Int) : WD := if inR 1 n 6 then ⟨n, n, unitT n.toNat, true⟩ else WD.bad

end Go.Proofs.Ytdmeobffijhloaa
