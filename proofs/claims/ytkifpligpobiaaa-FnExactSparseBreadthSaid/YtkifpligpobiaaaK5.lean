
/- A function over a row's numbers; the numbers as a map. -/

import Derived.Test.YtkifpligpobiaaaK3

import Derived.Test.YtkifpligpobiaaaK4

import Derived.Test.YtkifpligpobiaaaQ2
set_option linter.unusedVariables false
set_option linter.unusedSimpArgs false

namespace Go.Proofs.Ytkifpligpobiaaa

open Go.RowKit


/-- What a square's rows read in a world. -/
def Rows3 (W : World) (A : Option Addr) (n : Nat) (B : Option Addr) (m : Nat) (V : Option Addr) (p : Nat) (st co : List Int) (va : List Nat) : Prop := Rds W A n (ints st) ∧ Rds W B m (ints co) ∧ Rds W V p (flts va)

set_option maxRecDepth 20000 in
set_option maxHeartbeats 2000000 in
theorem each_any (g : Nat) (lb : Array Value) (eg : ∀ args w, (callFunc g args).run Try.prog w = .ok (.enter g args) w) (sd : Int) (A : Option Addr) (n ca : Nat) (B : Option Addr) (m cb : Nat) (V : Option Addr) (p cv : Nat) (st co : List Int) (va : List Nat) (i s0 s1 : Nat) (w : World) (Φ : Nat → World → Prop)
    (hi : i + 1 < n) (hn : n ≤ 33) (hmp : p = m) (hs0 : rd st i = s0) (hs1 : rd st ((i : Int) + 1) = s1) (h01 : s0 ≤ s1) (h1m : s1 ≤ m) (hm : m ≤ 512)
    (hΦx : ∀ k W W', Φ k W → Ext W W' → Φ k W') (hΦr : ∀ k W, Φ k W → Rows3 W A n B m V p st co va)
    (hp : Hid (∀ (k : Nat) (W : World), s0 ≤ k → k < s1 → w.heap.size < W.heap.size → Φ k W → Calls Try.prog g (#[.int .i64 (rd co k), .float .f32 (rdf va k)] ++ lb) W fun e W' => e = .returned (.tuple #[]) ∧ Φ (k + 1) W' ∧ W.heap.size ≤ W'.heap.size ∧ W'.heap[w.heap.size]? = W.heap[w.heap.size]?))
    (h0 : Φ s0 w) :
    Calls Try.prog 113 #[.agg #[.int .i64 sd, .slice A n ca, .slice B m cb, .slice V p cv], .int .i64 i, .func (.func g) #[] lb] w fun e w' => e = .returned (.tuple #[]) ∧ Φ s1 w' := by
  have HS0 := Lib.hid hs0
  have HS1 := Lib.hid hs1
  have g1 : IntKind.i64.wrap ((i : Int) + 1) = (i : Int) + 1 := IntWalk.i64_in _ (by omega)
  have f2 : (i : Int) < n := by omega
  have f3 : (i : Int) + 1 < n := by omega
  have HMP := Lib.hid hmp
  clear hs0 hs1 hmp
  have hst : Φ s0 (w.alloc (.cells #[.int .i64 sd, .slice A n ca, .slice B m cb, .slice V p cv] 27)) := hΦx _ _ _ h0 ((Ext.refl _).alloc _)
  have b0 := Blk.new w #[.int .i64 sd, .slice A n ca, .slice B m cb, .slice V p cv] 27
  go_enter Try.func113, Try.ntmps113
  go_upto_region 1 with (fail)
  obtain ⟨w0, hw0⟩ : ∃ w0 : World, w0 = w.alloc (.cells #[.int .i64 sd, .slice A n ca, .slice B m cb, .slice V p cv] 27) := ⟨_, rfl⟩
  rw [← hw0] at hst b0 ⊢
  clear hw0 h0
  have a1 := b0.cell 1 rfl
  obtain ⟨ad, rfl, hc⟩ := (hΦr _ _ hst).1.int i (by omega) (by omega)
  rw [HS0.out, Int.toNat_natCast] at hc
  go_wp2_with fail
  clear a1 hc
  go_loopw [6] (fun u wr => ∃ k : Nat, s0 ≤ k ∧ k ≤ s1 ∧ u = .int .i64 k ∧ Φ k wr ∧ Blk wr w.heap.size #[.int .i64 sd, .slice (some ad) n ca, .slice B m cb, .slice V p cv] 27) (fun u _ => s1 - (intOf u).toNat)
  case atStart => exact ⟨s0, Nat.le_refl _, h01, rfl, hst, b0⟩
  case round =>
    clear hst b0
    rename World => wB
    obtain ⟨k, hk0, hk1, rfl, hst, b0⟩ := hrel
    have a1 := b0.cell 1 rfl
    have a2 := b0.cell 2 rfl
    have a3 := b0.cell 3 rfl
    obtain ⟨r1, r2, r3⟩ := hΦr _ _ hst
    obtain ⟨ad', had, hc1⟩ := r1.int ((i : Int) + 1) (by omega) (by omega)
    obtain rfl := Option.some.inj had
    rw [HS1.out, show ((i : Int) + 1).toNat = i + 1 by omega, Addr.add_succ'] at hc1
    clear had
    by_cases hlt : k < s1
    · have hlk' : (k : Int) < s1 := by omega
      have hkm : k < m := by omega
      have hkm' : (k : Int) < m := by omega
      have hkp : k < p := by rw [HMP.out]; exact hkm
      have hkp' : (k : Int) < p := by omega
      have g4 : IntKind.i64.wrap ((k : Int) + 1) = (k : Int) + 1 := IntWalk.i64_in _ (by omega)
      obtain ⟨adc, rfl, hd⟩ := r2.intN k hkm
      obtain ⟨adv, rfl, he⟩ := r3.fltN k hkp
      go_wp2_with fail
      refine wp_region_T (cs := []) [0, 1, 2, 3, 4, 5, 6, 7, 8, 9, 10] [11] [] [] (fun _ _ => False) (fun _ _ _ => True) (by kernel_rfl) (by kernel_rfl) (fun _ _ _ _ _ _ => trivial) ?_
      refine' wpT_det (o := ⟨some 22, Op.move (Operand.tmp 2), 115, "l05_sparse.go:69", #[], none⟩) rfl (by rfl) (by rfl) (fun w' hw' => ?_) ?_; rotate_left
      · go_simp <;> first | rfl | exact ⟨rfl, rfl⟩
      simp only [Act.put, List.setIfInBounds_toArray, List.set_cons_zero, List.set_cons_succ]
      refine' wpT_det (o := ⟨some 23, Op.fieldAddr 27 (Operand.tmp 3) 2, 0, "l05_sparse.go:69", #[], none⟩) rfl (by rfl) (by rfl) (fun w' hw' => ?_) ?_; rotate_left
      · go_simp <;> first | rfl | exact ⟨rfl, rfl⟩
      simp only [Act.put, List.setIfInBounds_toArray, List.set_cons_zero, List.set_cons_succ]
      refine' wpT_det (o := ⟨some 24, Op.load 22 (Operand.tmp 23), 22, "l05_sparse.go:69", #[{ on := 1, ground := Ground.data }], none⟩) rfl (by rfl) (by rfl) (fun w' hw' => ?_) ?_; rotate_left
      · have a2_ := Ext.cell hw' a2; have a3_ := Ext.cell hw' a3; have hd_ := Ext.cell hw' hd; have he_ := Ext.cell hw' he; go_simp <;> first | rfl | exact ⟨rfl, rfl⟩
      simp only [Act.put, List.setIfInBounds_toArray, List.set_cons_zero, List.set_cons_succ]
      refine' wpT_det (o := ⟨some 25, Op.move (Operand.tmp 6), 2, "l05_sparse.go:69", #[], none⟩) rfl (by rfl) (by rfl) (fun w' hw' => ?_) ?_; rotate_left
      · go_simp <;> first | rfl | exact ⟨rfl, rfl⟩
      simp only [Act.put, List.setIfInBounds_toArray, List.set_cons_zero, List.set_cons_succ]
      refine' wpT_det (o := ⟨some 26, Op.indexAddr 22 (Operand.tmp 24) (Operand.tmp 25), 0, "l05_sparse.go:69", #[{ on := 2, ground := Ground.data }, { on := 3, ground := Ground.data }], none⟩) rfl (by rfl) (by rfl) (fun w' hw' => ?_) ?_; rotate_left
      · go_simp <;> first | rfl | exact ⟨rfl, rfl⟩
      simp only [Act.put, List.setIfInBounds_toArray, List.set_cons_zero, List.set_cons_succ]
      refine' wpT_det (o := ⟨some 27, Op.load 2 (Operand.tmp 26), 2, "l05_sparse.go:69", #[{ on := 4, ground := Ground.data }], none⟩) rfl (by rfl) (by rfl) (fun w' hw' => ?_) ?_; rotate_left
      · have a2_ := Ext.cell hw' a2; have a3_ := Ext.cell hw' a3; have hd_ := Ext.cell hw' hd; have he_ := Ext.cell hw' he; go_simp <;> first | rfl | exact ⟨rfl, rfl⟩
      simp only [Act.put, List.setIfInBounds_toArray, List.set_cons_zero, List.set_cons_succ]
      refine' wpT_det (o := ⟨some 28, Op.fieldAddr 27 (Operand.tmp 3) 3, 0, "l05_sparse.go:69", #[], none⟩) rfl (by rfl) (by rfl) (fun w' hw' => ?_) ?_; rotate_left
      · go_simp <;> first | rfl | exact ⟨rfl, rfl⟩
      simp only [Act.put, List.setIfInBounds_toArray, List.set_cons_zero, List.set_cons_succ]
      refine' wpT_det (o := ⟨some 29, Op.load 23 (Operand.tmp 28), 23, "l05_sparse.go:69", #[{ on := 6, ground := Ground.data }], none⟩) rfl (by rfl) (by rfl) (fun w' hw' => ?_) ?_; rotate_left
      · have a2_ := Ext.cell hw' a2; have a3_ := Ext.cell hw' a3; have hd_ := Ext.cell hw' hd; have he_ := Ext.cell hw' he; go_simp <;> first | rfl | exact ⟨rfl, rfl⟩
      simp only [Act.put, List.setIfInBounds_toArray, List.set_cons_zero, List.set_cons_succ]
      refine' wpT_det (o := ⟨some 30, Op.move (Operand.tmp 6), 2, "l05_sparse.go:69", #[], none⟩) rfl (by rfl) (by rfl) (fun w' hw' => ?_) ?_; rotate_left
      · go_simp <;> first | rfl | exact ⟨rfl, rfl⟩
      simp only [Act.put, List.setIfInBounds_toArray, List.set_cons_zero, List.set_cons_succ]
      refine' wpT_det (o := ⟨some 31, Op.indexAddr 23 (Operand.tmp 29) (Operand.tmp 30), 0, "l05_sparse.go:69", #[{ on := 7, ground := Ground.data }, { on := 8, ground := Ground.data }], none⟩) rfl (by rfl) (by rfl) (fun w' hw' => ?_) ?_; rotate_left
      · go_simp <;> first | rfl | exact ⟨rfl, rfl⟩
      simp only [Act.put, List.setIfInBounds_toArray, List.set_cons_zero, List.set_cons_succ]
      refine' wpT_det (o := ⟨some 32, Op.load 43 (Operand.tmp 31), 43, "l05_sparse.go:69", #[{ on := 9, ground := Ground.data }], none⟩) rfl (by rfl) (by rfl) (fun w' hw' => ?_) ?_; rotate_left
      · have a2_ := Ext.cell hw' a2; have a3_ := Ext.cell hw' a3; have hd_ := Ext.cell hw' hd; have he_ := Ext.cell hw' he; go_simp <;> first | rfl | exact ⟨rfl, rfl⟩
      simp only [Act.put, List.setIfInBounds_toArray, List.set_cons_zero, List.set_cons_succ]
      refine wpT_nil (fun w4 hw' hF => ?_)
      show wpList _ _ _ [(⟨some 33, Op.call { callee := Callee.value (Operand.tmp 22), args := #[Operand.tmp 27, Operand.tmp 32], argTypes := #[2, 43] }, 0, "l05_sparse.go:69", #[{ on := 0, ground := Ground.data }, { on := 5, ground := Ground.data }, { on := 10, ground := Ground.data }], none⟩ : Oper)] _ _
      have hx := hw'.undrew
      clear hF hw' a1 a2 a3 hc1 hd he r1 r2 r3
      replace hst := hΦx _ _ _ hst hx
      replace b0 := b0.ext hx
      clear hx
      go_wp2_with fail
      refine (hp.out k _ hk0 hlt b0.lt hst).mono ?_
      rintro e w5 ⟨rfl, hst', hsz, hbk⟩
      have b1 : Blk w5 w.heap.size #[.int .i64 sd, .slice (some ad) n ca, .slice (some adc) m cb, .slice (some adv) p cv] 27 := hbk.trans b0
      go_wp2_with fail
      go_roundw
      case rel => exact ⟨k + 1, by omega, by omega, by go_num, hst', b1⟩
      case measure => simp [intOf]; omega
    · obtain rfl : k = s1 := by omega
      go_wp2_with fail
      refine bodyPost_end (v := .tuple #[]) (by simp only [results, Try.results113]; simp [go_sem]) rfl ⟨rfl, hst⟩

end Go.Proofs.Ytkifpligpobiaaa
