
/- What the laws do with slices of entries. -/

import Derived.Test.YtkifpligpobiaaaEN1

import Derived.Test.YtkifpligpobiaaaB2M

import Derived.Test.YtkifpligpobiaaaM3
set_option linter.unusedVariables false
set_option linter.unusedSimpArgs false

namespace Go.Proofs.Ytkifpligpobiaaa

open Go.RowKit


/-- k, k + 1, ..: n entries of them. -/
def marksE (k : Int) (n : Nat) : List Ent := (List.range n).map fun (j : Nat) => (k + 3 * (j : Int), k + 3 * (j : Int) + 1, floatOfInt .f32 (k + 3 * (j : Int) + 2))
theorem marksE_length (k : Int) (n : Nat) : (marksE k n).length = n := by simp [marksE]
theorem marksE_rd {k : Int} {n j : Nat} (h : j < n) : rdE (marksE k n) j = (k + 3 * (j : Int), k + 3 * (j : Int) + 1, floatOfInt .f32 (k + 3 * (j : Int) + 2)) := by simp [rdE, marksE, h]

set_option maxRecDepth 20000 in
set_option maxHeartbeats 1000000 in
theorem eqEntry_any (a b : Int) (x : Nat) (w : World) :
    Calls Try.prog 115 #[.agg #[.int .i64 a, .int .i64 b, .float .f32 x], .agg #[.int .i64 a, .int .i64 b, .float .f32 x]] w fun e w' => e = .returned (.bool true) ∧ Ext w w' := by
  obtain ⟨wa, hwa⟩ : ∃ wa : World, wa = (w.alloc (.cells #[.int .i64 a, .int .i64 b, .float .f32 x] 113)).alloc (.cells #[.int .i64 a, .int .i64 b, .float .f32 x] 113) := ⟨_, rfl⟩
  have hxa : Ext w wa := by rw [hwa]; exact ((Ext.refl _).alloc _).alloc _
  obtain ⟨r1, w1, hr1, hx1, hc1, hl1⟩ := widen_ x wa
  obtain ⟨r2, w2, hr2, hx2, hc2, hl2⟩ := widen_ x w1
  have b1 : Blk wa w.heap.size #[.int .i64 a, .int .i64 b, .float .f32 x] 113 := by rw [hwa]; exact (Blk.new _ _ _).ext ((Ext.refl _).alloc _)
  have b2 : Blk wa (w.heap.size + 1) #[.int .i64 a, .int .i64 b, .float .f32 x] 113 := by rw [hwa]; simpa using Blk.new (w.alloc (.cells #[.int .i64 a, .int .i64 b, .float .f32 x] 113)) #[.int .i64 a, .int .i64 b, .float .f32 x] 113
  have y0 := b1.cell 0 rfl
  have y1 := b1.cell 1 rfl
  have y2 := b1.cell 2 rfl
  have z0 := b2.cell 0 rfl
  have z1 := b2.cell 1 rfl
  have z2 := b2.cell 2 rfl
  have z3 := (b2.ext hx1).cell 2 rfl
  have HH := Lib.hid hwa
  have hc := hc1.trans hc2.symm
  clear hwa hc1 hc2 hl1 hl2 b1 b2
  go_enter Try.func115, Try.ntmps115
  go_upto_region 1 with (fail)
  rw [← HH.out]
  go_wp2_with fail
  refine (sameFloat_any r1 r2 hc _).mono ?_
  rintro e w3 ⟨rfl, hx⟩
  go_wp2_with fail
  go_ret
  exact ⟨rfl, ((hxa.trans hx1).trans hx2).trans hx⟩

set_option maxRecDepth 20000 in
set_option maxHeartbeats 1000000 in
theorem heldEntryS_any (A : Option Addr) (n cap : Nat) (k : Int) (w : World) (hk : 0 ≤ k ∧ k ≤ 100000000) (hn : n ≤ 1048576) (hr : RdsE w A n (marksE k n)) :
    Calls Try.prog 48 #[.slice A n cap, .int .i64 k] w fun e w' => e = .returned (.int .i64 (k + 3 * (n : Int))) ∧ Ext w w' := by
  go_enter Try.func48, Try.ntmps48
  go_wp2_with fail
  go_loopw [1, 5] (fun q i wr => ∃ j : Nat, j ≤ n ∧ q = .int .i64 (k + 3 * (j : Int)) ∧ i = .int .i64 j ∧ Ext w wr) (fun _ i _ => n - (intOf i).toNat)
  case atStart => exact ⟨0, Nat.zero_le _, by simp, rfl, Ext.refl _⟩
  case round =>
    obtain ⟨j, hj, rfl, rfl, hx⟩ := hrel
    by_cases hlt : j < n
    · obtain ⟨ad, rfl, hc0, hc1, hc2⟩ := (hr.below hx).ent j hlt
      rw [marksE_rd hlt] at hc0 hc1 hc2
      have hoo := order_self (floatOfInt_nan (k + 3 * (j : Int) + 2))
      obtain ⟨K, hK⟩ : ∃ K, K = k + 3 * (j : Int) := ⟨_, rfl⟩
      have hK1 : 0 ≤ K ∧ K ≤ 200000000 := by omega
      dsimp only at hc0 hc1 hc2
      rw [← hK] at hc0 hc1 hc2 hoo ⊢
      have HK := Lib.hid hK
      clear hK
      have g1 : IntKind.i64.wrap (K + 1) = K + 1 := IntWalk.i64_in _ (by omega)
      have g2 : IntKind.i64.wrap (K + 1 + 1) = K + 2 := by rw [IntWalk.i64_in _ (by omega)]; omega
      have g3 : IntKind.i64.wrap (K + 2 + 1) = K + 3 := by rw [IntWalk.i64_in _ (by omega)]; omega
      have g4 : IntKind.i64.wrap ((j : Int) + 1) = (j : Int) + 1 := IntWalk.i64_in _ (by omega)
      go_wp2_with fail
      go_roundw
      case rel => exact ⟨j + 1, by omega, by have := HK.out; go_num, by go_num, hx⟩
      case measure => simp [intOf]; omega
    · obtain rfl : j = n := by omega
      go_wp2_with fail
      go_ret
      exact ⟨rfl, hx⟩


set_option maxRecDepth 20000 in
set_option maxHeartbeats 2000000 in
theorem eqEntryS_any (A B : Option Addr) (n m cap cap' : Nat) (es fs : List Ent) (w : World) (hr : RdsE w A n es) (hq : RdsE w B m fs) (hxy : es = fs) :
    Calls Try.prog 46 #[.slice A n cap, .slice B m cap'] w fun e w' => e = .returned (.bool true) ∧ Ext w w' := by
  have hl := hr.len
  have hl' := hq.len
  subst hxy
  obtain rfl : n = m := by omega
  have hs := hr.small
  go_enter Try.func46, Try.ntmps46
  go_wp2_with fail
  go_loopw [5] (fun i wr => ∃ k : Nat, k ≤ n ∧ i = .int .i64 k ∧ Ext w wr) (fun i _ => n - (intOf i).toNat)
  case atStart => exact ⟨0, Nat.zero_le _, rfl, Ext.refl _⟩
  case round =>
    obtain ⟨k, hk, rfl, hx⟩ := hrel
    by_cases hlt : k < n
    · obtain ⟨ad, rfl, hc0, hc1, hc2⟩ := (hr.below hx).ent k hlt
      obtain ⟨ad', rfl, hd0, hd1, hd2⟩ := (hq.below hx).ent k hlt
      obtain ⟨⟨a, b, x⟩, he⟩ : ∃ e, e = rdE es k := ⟨_, rfl⟩
      rw [← he] at hc0 hc1 hc2 hd0 hd1 hd2
      dsimp only at hc0 hc1 hc2 hd0 hd1 hd2
      clear he
      go_upto_region 6 with (fail)
      refine wp_region_T (cs := []) [0, 1, 2, 3, 4, 5, 6, 7, 8, 9] [] [8] [] (fun i__ v => match i__ with | 8 => v = (.bool true) | _ => False) (fun _ _ _ => True) (by kernel_rfl) (by kernel_rfl) (fun _ _ _ _ _ _ => trivial) ?_
      refine' wpT_det (o := ⟨some 17, Op.move (Operand.tmp 0), 51, "exact.go:449", #[], none⟩) rfl (by rfl) (by rfl) (fun w' hw' => ?_) ?_; rotate_left
      · go_simp <;> first | rfl | exact ⟨rfl, rfl⟩
      simp only [Act.put, List.setIfInBounds_toArray, List.set_cons_zero, List.set_cons_succ]
      refine' wpT_det (o := ⟨some 18, Op.move (Operand.tmp 5), 3, "exact.go:449", #[], none⟩) rfl (by rfl) (by rfl) (fun w' hw' => ?_) ?_; rotate_left
      · go_simp <;> first | rfl | exact ⟨rfl, rfl⟩
      simp only [Act.put, List.setIfInBounds_toArray, List.set_cons_zero, List.set_cons_succ]
      refine' wpT_det (o := ⟨some 19, Op.indexAddr 51 (Operand.tmp 17) (Operand.tmp 18), 0, "exact.go:449", #[{ on := 0, ground := Ground.data }, { on := 1, ground := Ground.data }], none⟩) rfl (by rfl) (by rfl) (fun w' hw' => ?_) ?_; rotate_left
      · go_simp <;> first | rfl | exact ⟨rfl, rfl⟩
      simp only [Act.put, List.setIfInBounds_toArray, List.set_cons_zero, List.set_cons_succ]
      refine' wpT_det (o := ⟨some 20, Op.load 113 (Operand.tmp 19), 113, "exact.go:449", #[{ on := 2, ground := Ground.data }], none⟩) rfl (by rfl) (by rfl) (fun w' hw' => ?_) ?_; rotate_left
      · have hc0_ := Ext.cell hw' hc0; have hc1_ := Ext.cell hw' hc1; have hc2_ := Ext.cell hw' hc2; have hd0_ := Ext.cell hw' hd0; have hd1_ := Ext.cell hw' hd1; have hd2_ := Ext.cell hw' hd2; go_simp <;> first | rfl | exact ⟨rfl, rfl⟩
      simp only [Act.put, List.setIfInBounds_toArray, List.set_cons_zero, List.set_cons_succ]
      refine' wpT_det (o := ⟨some 21, Op.move (Operand.tmp 1), 51, "exact.go:449", #[], none⟩) rfl (by rfl) (by rfl) (fun w' hw' => ?_) ?_; rotate_left
      · go_simp <;> first | rfl | exact ⟨rfl, rfl⟩
      simp only [Act.put, List.setIfInBounds_toArray, List.set_cons_zero, List.set_cons_succ]
      refine' wpT_det (o := ⟨some 22, Op.move (Operand.tmp 5), 3, "exact.go:449", #[], none⟩) rfl (by rfl) (by rfl) (fun w' hw' => ?_) ?_; rotate_left
      · go_simp <;> first | rfl | exact ⟨rfl, rfl⟩
      simp only [Act.put, List.setIfInBounds_toArray, List.set_cons_zero, List.set_cons_succ]
      refine' wpT_det (o := ⟨some 23, Op.indexAddr 51 (Operand.tmp 21) (Operand.tmp 22), 0, "exact.go:449", #[{ on := 4, ground := Ground.data }, { on := 5, ground := Ground.data }], none⟩) rfl (by rfl) (by rfl) (fun w' hw' => ?_) ?_; rotate_left
      · go_simp <;> first | rfl | exact ⟨rfl, rfl⟩
      simp only [Act.put, List.setIfInBounds_toArray, List.set_cons_zero, List.set_cons_succ]
      refine' wpT_det (o := ⟨some 24, Op.load 113 (Operand.tmp 23), 113, "exact.go:449", #[{ on := 6, ground := Ground.data }], none⟩) rfl (by rfl) (by rfl) (fun w' hw' => ?_) ?_; rotate_left
      · have hc0_ := Ext.cell hw' hc0; have hc1_ := Ext.cell hw' hc1; have hc2_ := Ext.cell hw' hc2; have hd0_ := Ext.cell hw' hd0; have hd1_ := Ext.cell hw' hd1; have hd2_ := Ext.cell hw' hd2; go_simp <;> first | rfl | exact ⟨rfl, rfl⟩
      simp only [Act.put, List.setIfInBounds_toArray, List.set_cons_zero, List.set_cons_succ]
      refine wpT_nd (o := ⟨some 25, Op.call { callee := Callee.value (Operand.func 115), args := #[Operand.tmp 20, Operand.tmp 24], argTypes := #[113, 113] }, 4, "exact.go:449", #[{ on := 3, ground := Ground.data }, { on := 7, ground := Ground.data }], none⟩) rfl (by rfl) (by rfl) (fun w' hw' hF R__ hGo => ?_) ⟨_, rfl⟩ ?_
      · go_simp
        refine gives_enter rfl ?_
        refine (eqEntry_any a b x _).mono ?_
        rintro e w2 ⟨rfl, hx⟩
        exact ⟨_, rfl, hGo _ _ hx rfl trivial⟩
      intro v hv
      obtain rfl : v = (.bool true) := hv
      simp only [Act.put, List.setIfInBounds_toArray, List.set_cons_zero, List.set_cons_succ]
      refine' wpT_det (o := ⟨some 26, Op.unOp UnOp.not 4 (Operand.tmp 25), 4, "exact.go:449", #[{ on := 8, ground := Ground.data }], none⟩) rfl (by rfl) (by rfl) (fun w' hw' => ?_) ?_; rotate_left
      · go_simp <;> first | rfl | exact ⟨rfl, rfl⟩
      simp only [Act.put, List.setIfInBounds_toArray, List.set_cons_zero, List.set_cons_succ]
      refine wpT_nil (fun w' hw' hF => ?_)
      refine wpList_nil ?_
      go_wp2_with fail
      go_roundw
      case rel => exact ⟨k + 1, by omega, by go_num, hx.trans hw'.undrew⟩
      case measure => simp [intOf]; omega
    · go_wp2_with fail
      go_ret
      exact ⟨rfl, hx⟩

def mixE (es us : List Ent) (j : Nat) : List Ent := us.take j ++ es.drop j
theorem mixE_zero (es us : List Ent) : mixE es us 0 = es := by simp [mixE]
theorem mixE_all {es us : List Ent} {j : Nat} (h : us.length = es.length) (hj : es.length = j) : mixE es us j = us := by subst hj; simp [mixE, ← h]
theorem mixE_length {es us : List Ent} (h : us.length = es.length) (j : Nat) (hj : j ≤ es.length) : (mixE es us j).length = es.length := by simp [mixE]; omega
theorem mixE_set {es us : List Ent} (h : us.length = es.length) {j : Nat} (hj : j < es.length) (x : Ent) (hx : rdE us j = x) : (mixE es us j).set j x = mixE es us (j + 1) := by
  have hx' : us[j]? = some x := by rw [List.getElem?_eq_getElem (by omega), ← rdE_get (by omega), hx]
  unfold mixE
  apply List.ext_getElem?
  intro i
  rw [List.getElem?_set, List.getElem?_append, List.getElem?_append]
  simp only [List.length_append, List.length_take, List.length_drop, List.getElem?_take, List.getElem?_drop]
  by_cases e : j = i
  · subst e
    rw [if_pos rfl, if_pos (by omega), if_pos (by omega), if_pos (by omega), hx']
  · rw [if_neg e]
    by_cases e2 : i < j
    · repeat rw [if_pos (by omega)]
    · repeat rw [if_neg (by omega)]
      congr 1
      omega
theorem set_set_E (es : List Ent) (j : Nat) (x y : Ent) : (es.set j x).set j y = es.set j y := by simp
theorem rdE_set {es : List Ent} {j : Nat} (h : j < es.length) (x : Ent) : rdE (es.set j x) j = x := by simp [rdE, h]
theorem store_i64 (P : Program) {w : World} {a : Addr} {c : Value} (y : Int) (hc : w.cell? a = some c) (hf : w.frozen? a = false) : (store a (.int .i64 y)).run P w = .ok () (w.setCell a (.int .i64 y)) := by
  rw [run_store P w a _ _ rfl, hc]
  simp [hf]
/-- An entry is written, cell by cell. -/
theorem OwnE.mark {w : World} {base g n cap : Nat} {es : List Ent} (h : OwnE w base (.slice (some ⟨g, 0, none⟩) n cap) es) {j : Nat} (hj : j < n) (a b : Int) (x : Nat) :
    OwnE (((w.setCell ⟨g, j * 3, none⟩ (.int .i64 a)).setCell ⟨g, j * 3 + 1, none⟩ (.int .i64 b)).setCell ⟨g, j * 3 + 2, none⟩ (.float .f32 x)) base (.slice (some ⟨g, 0, none⟩) n cap) (es.set j (a, b, x)) ∧
    Wr w (((w.setCell ⟨g, j * 3, none⟩ (.int .i64 a)).setCell ⟨g, j * 3 + 1, none⟩ (.int .i64 b)).setCell ⟨g, j * 3 + 2, none⟩ (.float .f32 x)) (.slice (some ⟨g, 0, none⟩) n cap) ∧
    ((∃ c, w.cell? ⟨g, j * 3, none⟩ = some c) ∧ w.frozen? ⟨g, j * 3, none⟩ = false) ∧
    ((∃ c, (w.setCell ⟨g, j * 3, none⟩ (.int .i64 a)).cell? ⟨g, j * 3 + 1, none⟩ = some c) ∧ (w.setCell ⟨g, j * 3, none⟩ (.int .i64 a)).frozen? ⟨g, j * 3 + 1, none⟩ = false) ∧
    ((∃ c, ((w.setCell ⟨g, j * 3, none⟩ (.int .i64 a)).setCell ⟨g, j * 3 + 1, none⟩ (.int .i64 b)).cell? ⟨g, j * 3 + 2, none⟩ = some c) ∧ ((w.setCell ⟨g, j * 3, none⟩ (.int .i64 a)).setCell ⟨g, j * 3 + 1, none⟩ (.int .i64 b)).frozen? ⟨g, j * 3 + 2, none⟩ = false) := by
  have hl := h.len
  obtain ⟨p1, q1⟩ := h.put (j * 3) (.int .i64 a) (ents_set0 es j a) (by simp)
  obtain ⟨p2, q2⟩ := p1.put (j * 3 + 1) (.int .i64 b) (ents_set1 _ j b) (by simp)
  obtain ⟨p3, q3⟩ := p2.put (j * 3 + 2) (.float .f32 x) (ents_set2 _ j x) (by simp)
  rw [rdE_set (by omega), set_set_E] at p2
  simp only [rdE_set (show j < es.length by omega), rdE_set (show j < (es.set j (a, (rdE es j).2.1, (rdE es j).2.2)).length by simp; omega), set_set_E] at p3
  obtain ⟨c0, _, _, f0, _, _⟩ := h.cells j hj
  obtain ⟨_, c1, _, _, f1, _⟩ := p1.cells j hj
  obtain ⟨_, _, c2, _, _, f2⟩ := p2.cells j hj
  exact ⟨p3, (q1.trans q2).trans q3, ⟨⟨_, c0⟩, f0⟩, ⟨⟨_, c1⟩, f1⟩, ⟨⟨_, c2⟩, f2⟩⟩

set_option maxRecDepth 20000 in
set_option maxHeartbeats 2000000 in
theorem markEntryS_any (base : Nat) (A : Option Addr) (n cap : Nat) (es : List Ent) (k : Int) (w : World) (hk : 0 ≤ k ∧ k ≤ 100000000) (hown : OwnE w base (.slice A n cap) es) :
    Calls Try.prog 47 #[.slice A n cap, .int .i64 k] w fun e w' => e = .returned (.int .i64 (k + 3 * (n : Int))) ∧ OwnE w' base (.slice A n cap) (marksE k n) ∧ Wr w w' (.slice A n cap) := by
  have hl := hown.len
  have hs := hown.small
  have hul : (marksE k n).length = es.length := by rw [marksE_length, hl]
  have hns : n ≤ 1048576 := by omega
  go_enter Try.func47, Try.ntmps47
  go_wp2_with fail
  go_loopw [1, 5] (fun q i wr => ∃ j : Nat, j ≤ n ∧ q = .int .i64 (k + 3 * (j : Int)) ∧ i = .int .i64 j ∧ OwnE wr base (.slice A n cap) (mixE es (marksE k n) j) ∧ Wr w wr (.slice A n cap)) (fun _ i _ => n - (intOf i).toNat)
  case atStart => exact ⟨0, Nat.zero_le _, by simp, rfl, by rw [mixE_zero]; exact hown, Wr.refl _ _⟩
  case round =>
    obtain ⟨j, hj, rfl, rfl, hown', hx⟩ := hrel
    clear hown
    by_cases hlt : j < n
    · obtain ⟨g, rfl, hg⟩ := hown'.head (by omega)
      obtain ⟨K, hK⟩ : ∃ K, K = k + 3 * (j : Int) := ⟨_, rfl⟩
      have hK1 : 0 ≤ K ∧ K ≤ 200000000 := by omega
      obtain ⟨m1, m2, ⟨⟨d0, c0⟩, f0⟩, ⟨⟨d1, c1⟩, f1⟩, ⟨d2, c2⟩, f2⟩ := hown'.mark hlt K (K + 1) (floatOfInt .f32 (K + 2))
      rw [mixE_set hul (by omega) _ (by rw [marksE_rd hlt, hK])] at m1
      rw [← hK]
      have HK := Lib.hid hK
      have hst0 := store_i64 Try.prog K c0 f0
      have hst1 := store_i64 Try.prog (K + 1) c1 f1
      have hst2 := store_f32 Try.prog (floatOfInt .f32 (K + 2)) c2 f2
      clear hK hown' hl
      have g1 : IntKind.i64.wrap (K + 1) = K + 1 := IntWalk.i64_in _ (by omega)
      have g2 : IntKind.i64.wrap (K + 1 + 1) = K + 2 := by rw [IntWalk.i64_in _ (by omega)]; omega
      have g3 : IntKind.i64.wrap (K + 2 + 1) = K + 3 := by rw [IntWalk.i64_in _ (by omega)]; omega
      have g4 : IntKind.i64.wrap ((j : Int) + 1) = (j : Int) + 1 := IntWalk.i64_in _ (by omega)
      go_wp2_with fail
      go_roundw
      case rel => exact ⟨j + 1, by omega, by have := HK.out; go_num, by go_num, m1, hx.trans m2⟩
      case measure => simp [intOf]; omega
    · obtain rfl : j = n := by omega
      rw [mixE_all hul hl] at hown'
      clear hl
      go_wp2_with fail
      go_ret
      exact ⟨rfl, hown', hx⟩

end Go.Proofs.Ytkifpligpobiaaa
