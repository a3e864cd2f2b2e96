
import Derived.Test.YtdmeobffijhloaaM3

import Derived.Test.YtdmeobffijhloaaB3
set_option linter.unusedVariables false
set_option linter.unusedSimpArgs false

namespace Go.Proofs.Ytdmeobffijhloaa

open Go.RowKit

theorem info_f32 : (Try.prog.info? 46).map (fun i => (i.zero, i.size, i.bytes)) = some (some (.float .f32 0), 1, 4) := by kernel_rfl

/-- What a function answers whose result is a matrix in a block. -/
theorem resM {fn : Func} {t : Tmp} (h : fn.results = #[.cell t 28]) {tmps : Array Value} {w : World} {b : Nat} (ht : tmps.getD t undef = .pointer (some ⟨b, 0, none⟩)) {v0 v1 v2 : Value} {T : TypeId} (hb : Blk w b #[v0, v1, v2] T) :
    (results fn tmps).run Try.prog w = .ok (.agg #[v0, v1, v2]) w := by
  have c0 : w.cell? ⟨b, 0, none⟩ = some v0 := hb.cell 0 rfl
  have c1 : w.cell? ⟨b, 1, none⟩ = some v1 := hb.cell 1 rfl
  have c2 : w.cell? ⟨b, 2, none⟩ = some v2 := hb.cell 2 rfl
  rw [Array.getD_eq_getD_getElem?] at ht
  simp only [results, h]
  simp [go_sem, ht, c0, c1, c2]
theorem resMB {fn : Func} {t u : Tmp} (h : fn.results = #[.cell t 28, .tmp u]) {tmps : Array Value} {w : World} {b : Nat} (ht : tmps.getD t undef = .pointer (some ⟨b, 0, none⟩)) {v0 v1 v2 x : Value} {T : TypeId} (hu : tmps.getD u undef = x) (hb : Blk w b #[v0, v1, v2] T) :
    (results fn tmps).run Try.prog w = .ok (.tuple #[.agg #[v0, v1, v2], x]) w := by
  have c0 : w.cell? ⟨b, 0, none⟩ = some v0 := hb.cell 0 rfl
  have c1 : w.cell? ⟨b, 1, none⟩ = some v1 := hb.cell 1 rfl
  have c2 : w.cell? ⟨b, 2, none⟩ = some v2 := hb.cell 2 rfl
  rw [Array.getD_eq_getD_getElem?] at ht hu
  simp only [results, h]
  simp [go_sem, ht, hu, c0, c1, c2]

/-- A matrix with a row of its own. -/
def RetMat (w : World) (r c : Int) (n : Nat) (L : List (Option Nat)) (e : Ending) (w' : World) : Prop := ∃ A k ys, cfs ys = L ∧ e = .returned (.agg #[.int .i64 r, .int .i64 c, .slice A n k]) ∧ Own w' w.heap.size 46 (.slice A n k) (flts ys) ∧ Ext w w'
/-- A list of its own. -/
def RetFs (w : World) (n : Nat) (L : List (Option Nat)) (e : Ending) (w' : World) : Prop := ∃ A k ys, cfs ys = L ∧ e = .returned (.slice A n k) ∧ Own w' w.heap.size 46 (.slice A n k) (flts ys) ∧ Ext w w'
/-- A matrix that a function answers, or that it fails. -/
structure MD where
  r : Int
  c : Int
  xs : List Nat
  ok : Bool
def MD.bad : MD := ⟨0, 0, [], false⟩
def RetMDb (w : World) (base : Nat) (d : MD) (e : Ending) (w' : World) : Prop := ∃ A k, e = .returned (.tuple #[.agg #[.int .i64 d.r, .int .i64 d.c, .slice A d.xs.length k], .bool d.ok]) ∧ Own w' base 46 (.slice A d.xs.length k) (flts d.xs) ∧ Ext w w'
def RetMD (w : World) (d : MD) (e : Ending) (w' : World) : Prop := RetMDb w w.heap.size d e w'
theorem RetMD.bad {w w' : World} {base : Nat} {d : MD} (hd : d = MD.bad) (h : Ext w w') : RetMDb w base d (.returned (.tuple #[.agg #[.int .i64 0, .int .i64 0, .slice none 0 0], .bool false])) w' := by
  subst hd
  exact ⟨none, 0, rfl, own_nil _ _ _, h⟩
/-- The three stores into a result's block. -/
theorem Own.resM {w wr : World} {base b0 : Nat} {u v x a0 a1 a2 : Value} {r : Value} {vs : List Value}
    (h2 : Blk wr b0 #[a0, a1, a2] 28) (h3 : Own wr base 46 r vs) (h4 : Ext w wr) (hb : w.heap.size ≤ b0) :
    Own (((wr.setCell ⟨b0, 0, none⟩ u).setCell ⟨b0, 1, none⟩ v).setCell ⟨b0, 2, none⟩ x) base 46 r vs ∧
    Ext w (((wr.setCell ⟨b0, 0, none⟩ u).setCell ⟨b0, 1, none⟩ v).setCell ⟨b0, 2, none⟩ x) ∧
    Blk (((wr.setCell ⟨b0, 0, none⟩ u).setCell ⟨b0, 1, none⟩ v).setCell ⟨b0, 2, none⟩ x) b0 #[u, v, x] 28 :=
  ⟨((h3.setBlk h2 (by decide) _ _).setBlk (h2.set _ _) (by decide) _ _).setBlk ((h2.set _ _).set _ _) (by decide) _ _, ((h4.set hb _).set hb _).set hb _, ((h2.set 0 _).set 1 _).set 2 _⟩

/-- A matrix of the call's own in block b, and the result's block. -/
def MO (w : World) (b b0 : Nat) (r c : Int) (n : Nat) (L : List (Option Nat)) (wr : World) : Prop := ∃ A k ys, cfs ys = L ∧ Blk wr b #[.int .i64 r, .int .i64 c, .slice A n k] 28 ∧
  Blk wr b0 #[.int .i64 0, .int .i64 0, .slice none 0 0] 28 ∧ Own wr w.heap.size 46 (.slice A n k) (flts ys) ∧ Ext w wr
theorem MO.ext {w : World} {b b0 : Nat} {r c : Int} {n : Nat} {L : List (Option Nat)} {wr w2 : World} (h : MO w b b0 r c n L wr) (hx : Ext wr w2) : MO w b b0 r c n L w2 := by
  obtain ⟨A, k, ys, h1, h2, h3, h4, h5⟩ := h
  exact ⟨A, k, ys, h1, h2.ext hx, h3.ext hx, h4.ext hx, h5.trans hx⟩
theorem MO.put {w wr : World} {b b0 g : Nat} {r c : Int} {n k : Nat} {ys : List Nat} {L : List (Option Nat)} (h0 : cfs ys = L) (h1 : Blk wr b #[.int .i64 r, .int .i64 c, .slice (some ⟨g, 0, none⟩) n k] 28)
    (h2 : Blk wr b0 #[.int .i64 0, .int .i64 0, .slice none 0 0] 28) (h3 : Own wr w.heap.size 46 (.slice (some ⟨g, 0, none⟩) n k) (flts ys)) (h4 : Ext w wr) (j : Nat) (y : Nat) :
    MO w b b0 r c n (L.set j (c32 y)) (wr.setCell ⟨g, j, none⟩ (.float .f32 y)) := by
  obtain ⟨o, hw⟩ := h3.stored j (.float .f32 y)
  exact ⟨_, _, ys.set j y, by rw [cfs_set, h0], h1.wr hw h3 (by decide), h2.wr hw h3 (by decide), by rw [flts_set]; exact o, hw.ext h4 h3⟩
/-- One number more behind the others. -/
theorem MO.app {w wr w3 : World} {b b0 : Nat} {r c : Int} {n k n' k' : Nat} {A A' : Option Addr} {ys : List Nat} {L : List (Option Nat)} {y : Nat} (hb : w.heap.size ≤ b) (hne : b0 ≠ b) (h0 : cfs ys = L) (h1 : Blk wr b #[.int .i64 r, .int .i64 c, .slice A n k] 28)
    (h2 : Blk wr b0 #[.int .i64 0, .int .i64 0, .slice none 0 0] 28) (h3 : Own wr w.heap.size 46 (.slice A n k) (flts ys)) (h4 : Ext w wr)
    (h5 : Own w3 w.heap.size 46 (.slice A' n' k') (flts ys ++ [.float .f32 y])) (h6 : Wr wr w3 (.slice A n k)) :
    MO w b b0 r c n' (L ++ [c32 y]) (w3.setCell ⟨b, 2, none⟩ (.slice A' n' k')) := by
  have b1 := h1.wr h6 h3 (by decide)
  have b2 := h2.wr h6 h3 (by decide)
  refine ⟨A', k', ys ++ [y], by rw [cfs_append, h0]; rfl, b1.set 2 _, b2.other hne _ _, ?_, (h6.ext h4 h3).set hb _⟩
  rw [flts_append]
  exact h5.setBlk b1 (by decide) _ _
/-- Its words. -/
theorem MO.len {ys : List Nat} {L : List (Option Nat)} (h : cfs ys = L) : ys.length = L.length := by rw [← h, cfs_length]

set_option maxHeartbeats 1000000 in
theorem set_any (base R C i k n cap y : Nat) (A : Option Addr) (ys : List Nat) (w : World) (hi : i < R) (hk : k < C) (hR : R ≤ 12) (hC : C ≤ 12) (hn : n = R * C) (ho : Own w base 46 (.slice A n cap) (flts ys)) :
    Calls Try.prog 39 #[.agg #[.int .i64 R, .int .i64 C, .slice A n cap], .int .i64 i, .int .i64 k, .float .f32 y] w fun e w' => e = .returned (.tuple #[]) ∧ Own w' base 46 (.slice A n cap) (flts (ys.set (i * C + k) y)) ∧ Wr w w' (.slice A n cap) := by
  obtain ⟨f1, f2, f3, f4, f5, f6, f7, f8⟩ := ix_facts hi hk hR hC hn
  have hl := ho.reads.flen
  clear hn
  obtain ⟨g, rfl, _⟩ := ho.head (by omega)
  go_enter Try.func39, Try.ntmps39
  go_upto_region 1 with (fail)
  obtain ⟨w0, hw0⟩ : ∃ w0, w0 = w.alloc (.cells #[.int .i64 R, .int .i64 C, .slice (some ⟨g, 0, none⟩) n cap] 28) := ⟨_, rfl⟩
  have c1 : w0.cell? ⟨w.heap.size, 1, none⟩ = some (.int .i64 C) := by subst hw0; simp
  have c2 : w0.cell? ⟨w.heap.size, 2, none⟩ = some (.slice (some ⟨g, 0, none⟩) n cap) := by subst hw0; simp
  have hx0 : Ext w w0 := by subst hw0; exact (Ext.refl _).alloc _
  rw [← hw0]
  clear hw0
  have ho1 := ho.ext hx0
  obtain ⟨hc, hf⟩ := ho1.at_ (i * C + k) (by omega)
  rw [flts_get (by omega)] at hc
  have hst := store_f32 Try.prog y hc hf
  clear ho hl
  go_wp2_with fail
  obtain ⟨o, hw⟩ := ho1.stored (i * C + k) (.float .f32 y)
  refine bodyPost_end (results_none rfl _ _ _) rfl ⟨rfl, by rw [flts_set]; exact o, (Wr.of_ext hx0 _).trans hw⟩

set_option maxHeartbeats 1000000 in
theorem newMatrix_any (R C : Nat) (hR : R ≤ 12) (hC : C ≤ 12) (w : World) :
    Calls Try.prog 38 #[.int .i64 R, .int .i64 C] w (RetMat w R C (R * C) (List.replicate (R * C) (some 0))) := by
  have h1 : R * C ≤ 144 := Nat.mul_le_mul hR hC
  have e : (R : Int) * C = ((R * C : Nat) : Int) := by simp
  have hwm : IntKind.i64.wrap ((R : Int) * C) = ((R * C : Nat) : Int) := by rw [e]; exact IntWalk.i64_in _ (by omega)
  obtain ⟨n, hn⟩ : ∃ n, n = R * C := ⟨_, rfl⟩
  rw [← hn] at hwm h1 ⊢
  have Hn := Lib.hid hn
  clear hn e
  have hmk := run_make_row' (P := Try.prog) 26 46 (.float .f32 0) 4 Try.underlying26 info_f32 rfl .i64 .i64 n (by omega) (by omega)
  go_enter Try.func38, Try.ntmps38
  go_wp2_with fail
  refine bodyPost_ret (resM rfl rfl (b := w.heap.size) (v0 := .int .i64 R) (v1 := .int .i64 C) (v2 := .slice (some ⟨w.heap.size + 1, 0, none⟩) n n) (T := 28) ((Blk.new w _ _).ext ((Ext.refl _).alloc _))) rfl ⟨_, n, List.replicate n 0, by simp [cfs, c32_0], rfl, ?_, ((Ext.refl _).alloc _).alloc _⟩
  rw [flts_replicate]
  simpa using (Own.made (w.alloc (.cells #[.int .i64 R, .int .i64 C, .slice (some ⟨w.heap.size + 1, 0, none⟩) n n] 28)) 46 (.float .f32 0) n rfl (by omega)).base (b := w.heap.size) (by simp)
set_option maxHeartbeats 1000000 in
theorem l02Blank_any (r c : Int) (w : World) :
    Calls Try.prog 21 #[.int .i64 r, .int .i64 c] w (RetMat w r c 0 []) := by
  go_enter Try.func21, Try.ntmps21
  go_wp2_with fail
  refine bodyPost_ret (resM rfl rfl (b := w.heap.size) (v0 := .int .i64 r) (v1 := .int .i64 c) (v2 := .slice (some ⟨w.heap.size + 1, 0, none⟩) 0 0) (T := 28) ((Blk.new w _ _).ext ((Ext.refl _).alloc _))) rfl ⟨_, 0, [], rfl, rfl, ?_, ((Ext.refl _).alloc _).alloc _⟩
  simpa [flts] using (Own.empty (w.alloc (.cells #[.int .i64 r, .int .i64 c, .slice (some ⟨w.heap.size + 1, 0, none⟩) 0 0] 28)) 46).base (b := w.heap.size) (by simp)

/-- What lies done of a table. -/
def doneT (F : Nat → Nat → Option Nat) (i k : Nat) : Nat → Nat → Option Nat := fun a b => if a < i ∨ (a = i ∧ b < k) then F a b else some 0
theorem doneT_row (F : Nat → Nat → Option Nat) (i C R : Nat) : tab C (doneT F i C) (R * C) = tab C (doneT F (i + 1) 0) (R * C) := tab_congr (by
  intro a b _ hb
  unfold doneT
  by_cases h : a < i + 1
  · rw [if_pos (by omega), if_pos (by omega)]
  · rw [if_neg (by omega), if_neg (by omega)])

set_option maxHeartbeats 4000000 in
theorem made_any (g : Nat) (lb : Array Value) (eg : ∀ args w, (callFunc g args).run Try.prog w = .ok (.enter g args) w) (R C : Nat) (hR : R ≤ 12) (hC : C ≤ 12) (F : Nat → Nat → Option Nat) (w : World)
    (hp : Hid (∀ (i k : Nat) (W : World), i < R → k < C → Ext w W → Calls Try.prog g (#[.int .i64 i, .int .i64 k] ++ lb) W (RetF W (F i k)))) (he : Hid (∀ i k, i < R → k < C → ∃ r, c32 r = F i k)) :
    Calls Try.prog 24 #[.int .i64 R, .int .i64 C, .func (.func g) #[] lb] w (RetMat w R C (R * C) (tab C F (R * C))) := by
  have hRC : R * C ≤ 144 := Nat.mul_le_mul hR hC
  have hx0 : Ext w (w.alloc (.cells #[.int .i64 0, .int .i64 0, .slice none 0 0] 28)) := (Ext.refl _).alloc _
  go_enter Try.func24, Try.ntmps24
  go_wp2_with fail
  refine (newMatrix_any R C hR hC _).mono ?_
  rintro e w1 ⟨A, c, ys, hy, rfl, ho, hx⟩
  have b0 : Blk w1 w.heap.size #[.int .i64 0, .int .i64 0, .slice none 0 0] 28 := (Blk.new w _ _).ext hx
  have hsz := hx.size
  simp only [World.size_alloc] at hsz
  go_wp2_with fail
  have hst : MO w w1.heap.size w.heap.size R C (R * C) (tab C (doneT F 0 0) (R * C)) (w1.alloc (.cells #[.int .i64 R, .int .i64 C, .slice A (R * C) c] 28)) := by
    have e : tab C (doneT F 0 0) (R * C) = List.replicate (R * C) (some 0) := by
      rw [← tab_const C]
      congr 1
      funext a b
      unfold doneT
      rw [if_neg (by omega)]
    rw [e]
    exact ⟨A, c, ys, hy, Blk.new _ _ _, b0.ext ((Ext.refl _).alloc _), (ho.ext ((Ext.refl _).alloc _)).base (by simp), (hx0.trans hx).alloc _⟩
  clear ho hy b0
  go_loopw [14] (fun u wr => ∃ i : Nat, i ≤ R ∧ u = .int .i64 i ∧ MO w w1.heap.size w.heap.size R C (R * C) (tab C (doneT F i 0) (R * C)) wr) (fun u _ => R - (intOf u).toNat)
  case atStart => exact ⟨0, Nat.zero_le _, rfl, hst⟩
  case round =>
    clear hst
    obtain ⟨i, hi, rfl, hst⟩ := hrel
    by_cases hlt : i < R
    · go_wp2_with fail
      go_loopw [18] (fun u wr => ∃ k : Nat, k ≤ C ∧ u = .int .i64 k ∧ MO w w1.heap.size w.heap.size R C (R * C) (tab C (doneT F i k) (R * C)) wr) (fun u _ => C - (intOf u).toNat)
      case atStart => exact ⟨0, Nat.zero_le _, rfl, hst⟩
      case round =>
        clear hst
        obtain ⟨k, hk, rfl, hst⟩ := hrel
        by_cases hlk : k < C
        · obtain ⟨A1, c1, ys1, h0, h1, h2, h3, h4⟩ := hst
          have z0 : wr.cell? ⟨w1.heap.size, 0, none⟩ = some (.int .i64 R) := h1.cell 0 rfl
          have z1 : wr.cell? ⟨w1.heap.size, 1, none⟩ = some (.int .i64 C) := h1.cell 1 rfl
          have z2 : wr.cell? ⟨w1.heap.size, 2, none⟩ = some (.slice A1 (R * C) c1) := h1.cell 2 rfl
          go_wp2_with fail
          refine wp_region_T (cs := []) [0, 1, 2, 3, 4, 5, 6] [7] [6] [] (fun i__ v => match i__ with | 6 => ∃ r, v = .float .f32 r ∧ c32 r = F i k | _ => False) (fun _ _ _ => True) (by kernel_rfl) (by kernel_rfl) (fun _ _ _ _ _ _ => trivial) ?_
          refine' wpT_det (o := ⟨some 21, Op.load 28 (Operand.tmp 7), 28, "l02_matrices.go:123", #[], none⟩) rfl (by rfl) (by rfl) (fun w' hw' => ?_) ?_; rotate_left
          · have z0_ := Ext.cell hw' z0; have z1_ := Ext.cell hw' z1; have z2_ := Ext.cell hw' z2; go_simp <;> first | rfl | exact ⟨rfl, rfl⟩
          simp only [Act.put, List.setIfInBounds_toArray, List.set_cons_zero, List.set_cons_succ]
          refine' wpT_det (o := ⟨some 22, Op.move (Operand.tmp 8), 2, "l02_matrices.go:123", #[], none⟩) rfl (by rfl) (by rfl) (fun w' hw' => ?_) ?_; rotate_left
          · go_simp <;> first | rfl | exact ⟨rfl, rfl⟩
          simp only [Act.put, List.setIfInBounds_toArray, List.set_cons_zero, List.set_cons_succ]
          refine' wpT_det (o := ⟨some 23, Op.move (Operand.tmp 9), 2, "l02_matrices.go:123", #[], none⟩) rfl (by rfl) (by rfl) (fun w' hw' => ?_) ?_; rotate_left
          · go_simp <;> first | rfl | exact ⟨rfl, rfl⟩
          simp only [Act.put, List.setIfInBounds_toArray, List.set_cons_zero, List.set_cons_succ]
          refine' wpT_det (o := ⟨some 24, Op.move (Operand.tmp 2), 51, "l02_matrices.go:123", #[], none⟩) rfl (by rfl) (by rfl) (fun w' hw' => ?_) ?_; rotate_left
          · go_simp <;> first | rfl | exact ⟨rfl, rfl⟩
          simp only [Act.put, List.setIfInBounds_toArray, List.set_cons_zero, List.set_cons_succ]
          refine' wpT_det (o := ⟨some 25, Op.move (Operand.tmp 8), 2, "l02_matrices.go:123", #[], none⟩) rfl (by rfl) (by rfl) (fun w' hw' => ?_) ?_; rotate_left
          · go_simp <;> first | rfl | exact ⟨rfl, rfl⟩
          simp only [Act.put, List.setIfInBounds_toArray, List.set_cons_zero, List.set_cons_succ]
          refine' wpT_det (o := ⟨some 26, Op.move (Operand.tmp 9), 2, "l02_matrices.go:123", #[], none⟩) rfl (by rfl) (by rfl) (fun w' hw' => ?_) ?_; rotate_left
          · go_simp <;> first | rfl | exact ⟨rfl, rfl⟩
          simp only [Act.put, List.setIfInBounds_toArray, List.set_cons_zero, List.set_cons_succ]
          refine wpT_nd (o := ⟨some 27, Op.call { callee := Callee.value (Operand.tmp 24), args := #[Operand.tmp 25, Operand.tmp 26], argTypes := #[2, 2] }, 46, "l02_matrices.go:123", #[{ on := 3, ground := Ground.data }, { on := 4, ground := Ground.data }, { on := 5, ground := Ground.data }], none⟩) rfl (by rfl) (by rfl) (fun w' hw' hF R__ hGo => ?_) (by obtain ⟨r, hr⟩ := he.out i k hlt hlk; exact ⟨_, r, rfl, hr⟩) ?_
          · go_simp; exact gives_enter rfl ((hp.out i k w' hlt hlk (h4.trans hw'.undrew)).mono (by rintro e w2 ⟨r, rfl, hr, hx⟩; exact ⟨_, rfl, hGo _ _ hx ⟨_, rfl, hr⟩ trivial⟩))
          rintro _ ⟨y, rfl, hy⟩
          simp only [Act.put, List.setIfInBounds_toArray, List.set_cons_zero, List.set_cons_succ]
          refine wpT_nil (fun w2 hw' hF => ?_)
          show wpList _ _ _ [(⟨some 28, Op.call { callee := Callee.value (Operand.func 39), args := #[Operand.tmp 21, Operand.tmp 22, Operand.tmp 23, Operand.tmp 27], argTypes := #[28, 2, 2, 46] }, 0, "l02_matrices.go:123", #[{ on := 0, ground := Ground.data }, { on := 1, ground := Ground.data }, { on := 2, ground := Ground.data }, { on := 6, ground := Ground.data }, { on := 6, ground := Ground.chain }], none⟩ : Oper)] _ _
          have hx := hw'.undrew
          clear hF hw' z0 z1 z2
          replace h1 := h1.ext hx
          replace h2 := h2.ext hx
          replace h3 := h3.ext hx
          replace h4 := h4.trans hx
          clear hx
          go_wp2_with fail
          refine (set_any w.heap.size R C i k (R * C) c1 y A1 ys1 _ hlt hlk hR hC rfl h3).mono ?_
          rintro e w3 ⟨rfl, o, hw⟩
          go_wp2_with fail
          go_roundw
          case rel =>
            refine ⟨k + 1, by omega, by go_num, A1, c1, _, ?_, h1.wr hw h3 (by decide), h2.wr hw h3 (by decide), o, hw.ext h4 h3⟩
            obtain ⟨f1, f2, f3, f4, f5, f6, f7, f8⟩ := ix_facts hlt hlk hR hC rfl
            rw [cfs_set, h0, hy]
            exact tab_set hlk (by omega) (by unfold doneT; rw [if_pos (by omega)]) (by
              intro a b _ hab
              unfold doneT
              by_cases h : a < i ∨ (a = i ∧ b < k)
              · rw [if_pos h, if_pos (by omega)]
              · rw [if_neg h, if_neg (by omega)])
          case measure => simp [intOf]; omega
        · obtain rfl : k = C := by omega
          go_wp2_with fail
          go_roundw
          case rel => exact ⟨i + 1, by omega, by go_num, by rw [← doneT_row]; exact hst⟩
          case measure => simp [intOf]; omega
    · obtain rfl : i = R := by omega
      obtain ⟨A1, c1, ys1, h0, h1, h2, h3, h4⟩ := hst
      have z0 : wr.cell? ⟨w1.heap.size, 0, none⟩ = some (.int .i64 i) := h1.cell 0 rfl
      have z1 : wr.cell? ⟨w1.heap.size, 1, none⟩ = some (.int .i64 C) := h1.cell 1 rfl
      have z2 : wr.cell? ⟨w1.heap.size, 2, none⟩ = some (.slice A1 (i * C) c1) := h1.cell 2 rfl
      have y0 : wr.cell? ⟨w.heap.size, 0, none⟩ = some (.int .i64 0) := h2.cell 0 rfl
      have y1 : wr.cell? ⟨w.heap.size, 1, none⟩ = some (.int .i64 0) := h2.cell 1 rfl
      have y2 : wr.cell? ⟨w.heap.size, 2, none⟩ = some (.slice none 0 0) := h2.cell 2 rfl
      have q0 := h2.free 0
      have q1 := h2.free 1
      have q2 := h2.free 2
      have hq := h2.lt
      go_wp2_with fail
      obtain ⟨k1, k2, k3⟩ := Own.resM (w := w) (u := .int .i64 i) (v := .int .i64 C) (x := .slice A1 (i * C) c1) h2 h3 h4 (Nat.le_refl _)
      refine bodyPost_ret (resM rfl rfl k3) rfl ⟨A1, c1, ys1, ?_, rfl, k1, k2⟩
      rw [h0]
      exact tab_congr (fun a b ha hb => by unfold doneT; rw [if_pos (by omega)])

end Go.Proofs.Ytdmeobffijhloaa
