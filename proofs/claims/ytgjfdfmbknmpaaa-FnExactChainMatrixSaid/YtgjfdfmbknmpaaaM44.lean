import Derived.Test.YtgjfdfmbknmpaaaM43
set_option linter.unusedVariables false
set_option linter.unusedSimpArgs false
namespace Go.Proofs.Ytgjfdfmbknmpaaa
open Go.RowKit

/-- What is done of a chain's matrix. -/
def chaT (xs ys : List Nat) (P : Nat → Nat → Prop) [∀ a b, Decidable (P a b)] (a b : Nat) : Option Nat := if P a b then chaF xs ys a b else some 0
theorem chaT_eq {xs ys : List Nat} {P Q : Nat → Nat → Prop} [∀ a b, Decidable (P a b)] [∀ a b, Decidable (Q a b)] {a b : Nat} (h : (P a b ↔ Q a b) ∨ (a ≠ b ∧ a ≠ b + 1 ∧ b ≠ a + 1)) : chaT xs ys P a b = chaT xs ys Q a b := by
  unfold chaT
  rcases h with h | ⟨h1, h2, h3⟩
  · by_cases hp : P a b
    · rw [if_pos hp, if_pos (h.1 hp)]
    · rw [if_neg hp, if_neg (fun hq => hp (h.2 hq))]
  · rw [chaF_far h1 h2 h3]
    split <;> split <;> rfl
theorem chaT_on {xs ys : List Nat} {P : Nat → Nat → Prop} [∀ a b, Decidable (P a b)] {a b : Nat} (h : P a b) : chaT xs ys P a b = chaF xs ys a b := if_pos h

set_option maxRecDepth 20000 in
set_option maxHeartbeats 8000000 in
theorem specChainMatrix_any (A : Option Addr) (n cap : Nat) (B : Option Addr) (m cap' : Nat) (xs ys : List Nat) (w : World) (hr : Rds w A n (flts xs)) (hq : Rds w B m (flts ys)) :
    Calls Try.prog 76 #[.agg #[.slice A n cap, .slice B m cap']] w (RetMD w (chaD xs ys)) := by
  have HL := Lib.hid hr.flen
  have HL2 := Lib.hid hq.flen
  have hs1 := hr.small
  cases hc : isCh xs ys with
  | false =>
    have hd := cD_bad hc
    go_enter Try.func76, Try.ntmps76
    go_upto_region 1 with (fail)
    obtain ⟨w0, hw0⟩ : ∃ w0, w0 = ((w.alloc (.cells #[.slice A n cap, .slice B m cap'] 27)).alloc (.cells #[.int .i64 0, .int .i64 0, .slice none 0 0] 35)) := ⟨_, rfl⟩
    have hx0 : Ext w w0 := by subst hw0; exact ((Ext.refl _).alloc _).alloc _
    have ba : Blk w0 (w.heap.size) #[.slice A n cap, .slice B m cap'] 27 := by subst hw0; exact (Blk.new w _ _).ext ((Ext.refl _).alloc _)
    have b0 : Blk w0 (w.heap.size + 1) #[.int .i64 0, .int .i64 0, .slice none 0 0] 35 := by subst hw0; simpa using (Blk.new (w.alloc (.cells #[.slice A n cap, .slice B m cap'] 27)) _ _)
    rw [← hw0]
    clear hw0
    go_wp2_with fail
    refine (l04Is_any _ A n cap B m cap' xs ys _ (CAt.of ba (hr.below hx0) (hq.below hx0))).mono ?_
    rintro e w1 ⟨rfl, hx⟩
    rw [hc]
    replace b0 := b0.ext hx
    replace hx0 := hx0.trans hx
    clear  hx
    have y0 : w1.cell? ⟨w.heap.size + 1, 0, none⟩ = some (.int .i64 0) := b0.cell 0 rfl
    have y1 : w1.cell? ⟨w.heap.size + 1, 1, none⟩ = some (.int .i64 0) := b0.cell 1 rfl
    have y2 : w1.cell? ⟨w.heap.size + 1, 2, none⟩ = some (.slice none 0 0) := b0.cell 2 rfl
    have q0 := b0.free 0
    have q1 := b0.free 1
    have q2 := b0.free 2
    have hq := b0.lt
    go_wp2_with fail
    obtain ⟨k1, k2, k3⟩ := Own.resM (w := w) (u := .int .i64 0) (v := .int .i64 0) (x := .slice none 0 0) b0 (own_nil _ w.heap.size _) hx0 (by omega)
    exact bodyPost_ret (resMB (x := .bool false) rfl rfl rfl k3) rfl (RetMD.bad hd k2)
  | true =>
    obtain ⟨hnm, hn1, hn12⟩ := ch_nat hc
    rw [HL.out] at hnm hn1 hn12
    rw [HL2.out] at hnm
    have Hd := Lib.hid (cD_good hc HL.out)
    have Hall := Lib.hid (cha_all hc HL.out)
    have Hl := Lib.hid (cha_len xs ys n)
    go_enter Try.func76, Try.ntmps76
    go_upto_region 1 with (fail)
    obtain ⟨w0, hw0⟩ : ∃ w0, w0 = ((w.alloc (.cells #[.slice A n cap, .slice B m cap'] 27)).alloc (.cells #[.int .i64 0, .int .i64 0, .slice none 0 0] 35)) := ⟨_, rfl⟩
    have hx0 : Ext w w0 := by subst hw0; exact ((Ext.refl _).alloc _).alloc _
    have ba : Blk w0 (w.heap.size) #[.slice A n cap, .slice B m cap'] 27 := by subst hw0; exact (Blk.new w _ _).ext ((Ext.refl _).alloc _)
    have b0 : Blk w0 (w.heap.size + 1) #[.int .i64 0, .int .i64 0, .slice none 0 0] 35 := by subst hw0; simpa using (Blk.new (w.alloc (.cells #[.slice A n cap, .slice B m cap'] 27)) _ _)
    rw [← hw0]
    clear hw0
    go_wp2_with fail
    refine (l04Is_any _ A n cap B m cap' xs ys _ (CAt.of ba (hr.below hx0) (hq.below hx0))).mono ?_
    rintro e w1 ⟨rfl, hx⟩
    rw [hc]
    replace b0 := b0.ext hx
    replace ba := ba.ext hx
    replace hx0 := hx0.trans hx
    clear  hx
    have a0 := ba.cell 0 rfl
    go_wp2_with fail
    refine (l02Zero_any n n hn12 hn12 _).mono ?_
    rintro e w2 ⟨A1, c1, ys1, hy, rfl, ho, hx⟩
    have hsz0 := hx0.size
    have b0' := b0.ext hx
    clear a0
    go_wp2_with fail
    obtain ⟨N, hN⟩ : ∃ N, N = n * n := ⟨_, rfl⟩
    have hst : MO w1 w2.heap.size (w.heap.size + 1) n n N (tab n (chaT xs ys (fun a b => a < 0 ∧ b < 0)) N) (w2.alloc (.cells #[.int .i64 n, .int .i64 n, .slice A1 N c1] 35)) := by
      have e : tab n (chaT xs ys (fun a b => a < 0 ∧ b < 0)) N = List.replicate N (some 0) := by
        rw [← tab_const n]
        refine congrArg (fun F => tab n F N) ?_
        funext a b
        exact if_neg (by omega)
      rw [e, hN]
      exact ⟨A1, c1, ys1, hy, Blk.new _ _ _, b0'.ext ((Ext.refl _).alloc _), ho.ext ((Ext.refl _).alloc _), hx.alloc _⟩
    rw [← hN] at Hl ⊢
    have HN := Lib.hid hN
    have hN1 : 1 ≤ N := by rw [hN]; exact Nat.mul_pos hn1 hn1
    have hsz : w1.heap.size ≤ w2.heap.size := hx.size
    have hb01 : w.heap.size + 1 < w1.heap.size := b0.lt
    clear ho hy b0' hx hN hc
    go_loopw [6] (fun u wr => ∃ j : Nat, j ≤ n ∧ u = .int .i64 j ∧ MO w1 w2.heap.size (w.heap.size + 1) n n N (tab n (chaT xs ys (fun a b => a < j ∧ b < j)) N) wr) (fun u _ => n - (intOf u).toNat)
    case atStart => exact ⟨0, Nat.zero_le _, rfl, hst⟩
    case round =>
      clear hst
      obtain ⟨j, hj, rfl, hst⟩ := hrel
      by_cases hlt : j < n
      · obtain ⟨f1, f2, f3, f4, f5, f6, f7, f8⟩ := ix_facts hlt hlt hn12 hn12 HN.out
        obtain ⟨A1, k1, zs, h0, h1, h2, h3, h4⟩ := hst
        have zl : zs.length = N := h3.reads.flen
        obtain ⟨c0, c1, hrd, hrq⟩ := (CAt.of ba (hr.below hx0) (hq.below hx0)).ext h4
        obtain ⟨ad, rfl, hca⟩ := hrd.fltN j hlt
        obtain ⟨q, hq'⟩ : ∃ q, q = rdf xs j := ⟨_, rfl⟩
        rw [← hq'] at hca
        have HQ := Lib.hid hq'
        obtain ⟨g, rfl, _⟩ := h3.head (by omega)
        have z2 : wr.cell? ⟨w2.heap.size, 2, none⟩ = some (.slice (some ⟨g, 0, none⟩) N k1) := h1.cell 2 rfl
        clear hq' hrd hrq
        go_upto_region 8 with (fail)
        refine wp_region_T (cs := []) [0, 1, 2, 3, 4, 5, 6, 7, 8, 9, 10, 11] [12, 13] [] [] (fun _ _ => False) (fun _ _ _ => True) (by kernel_rfl) (by kernel_rfl) (fun _ _ _ _ _ _ => trivial) ?_
        refine' wpT_det (o := ⟨some 21, Op.fieldAddr 35 (Operand.tmp 5) 2, 0, "l04_values.go:27", #[], none⟩) rfl (by rfl) (by rfl) (fun w' hw' => ?_) ?_; rotate_left
        · go_simp <;> first | rfl | exact ⟨rfl, rfl⟩
        simp only [Act.put, List.setIfInBounds_toArray, List.set_cons_zero, List.set_cons_succ]
        refine' wpT_det (o := ⟨some 22, Op.load 22 (Operand.tmp 21), 22, "l04_values.go:27", #[{ on := 0, ground := Ground.data }], none⟩) rfl (by rfl) (by rfl) (fun w' hw' => ?_) ?_; rotate_left
        · have z2_ := Ext.cell hw' z2; have c0_ := Ext.cell hw' c0; have hca_ := Ext.cell hw' hca; go_simp <;> first | rfl | exact ⟨rfl, rfl⟩
        simp only [Act.put, List.setIfInBounds_toArray, List.set_cons_zero, List.set_cons_succ]
        refine' wpT_det (o := ⟨some 23, Op.move (Operand.tmp 6), 2, "l04_values.go:27", #[], none⟩) rfl (by rfl) (by rfl) (fun w' hw' => ?_) ?_; rotate_left
        · go_simp <;> first | rfl | exact ⟨rfl, rfl⟩
        simp only [Act.put, List.setIfInBounds_toArray, List.set_cons_zero, List.set_cons_succ]
        refine' wpT_det (o := ⟨some 24, Op.move (Operand.tmp 4), 2, "l04_values.go:27", #[], none⟩) rfl (by rfl) (by rfl) (fun w' hw' => ?_) ?_; rotate_left
        · go_simp <;> first | rfl | exact ⟨rfl, rfl⟩
        simp only [Act.put, List.setIfInBounds_toArray, List.set_cons_zero, List.set_cons_succ]
        refine' wpT_det (o := ⟨some 25, Op.binOp BinOp.mul 2 (Operand.tmp 23) (Operand.tmp 24) 2, 2, "l04_values.go:27", #[{ on := 2, ground := Ground.data }, { on := 3, ground := Ground.data }], none⟩) rfl (by rfl) (by rfl) (fun w' hw' => ?_) ?_; rotate_left
        · go_simp <;> first | rfl | exact ⟨rfl, rfl⟩
        simp only [Act.put, List.setIfInBounds_toArray, List.set_cons_zero, List.set_cons_succ]
        refine' wpT_det (o := ⟨some 26, Op.move (Operand.tmp 6), 2, "l04_values.go:27", #[], none⟩) rfl (by rfl) (by rfl) (fun w' hw' => ?_) ?_; rotate_left
        · go_simp <;> first | rfl | exact ⟨rfl, rfl⟩
        simp only [Act.put, List.setIfInBounds_toArray, List.set_cons_zero, List.set_cons_succ]
        refine' wpT_det (o := ⟨some 27, Op.binOp BinOp.add 2 (Operand.tmp 25) (Operand.tmp 26) 2, 2, "l04_values.go:27", #[{ on := 4, ground := Ground.data }, { on := 5, ground := Ground.data }], none⟩) rfl (by rfl) (by rfl) (fun w' hw' => ?_) ?_; rotate_left
        · go_simp <;> first | rfl | exact ⟨rfl, rfl⟩
        simp only [Act.put, List.setIfInBounds_toArray, List.set_cons_zero, List.set_cons_succ]
        refine' wpT_det (o := ⟨some 28, Op.fieldAddr 27 (Operand.tmp 1) 0, 0, "l04_values.go:27", #[], none⟩) rfl (by rfl) (by rfl) (fun w' hw' => ?_) ?_; rotate_left
        · go_simp <;> first | rfl | exact ⟨rfl, rfl⟩
        simp only [Act.put, List.setIfInBounds_toArray, List.set_cons_zero, List.set_cons_succ]
        refine' wpT_det (o := ⟨some 29, Op.load 22 (Operand.tmp 28), 22, "l04_values.go:27", #[{ on := 7, ground := Ground.data }], none⟩) rfl (by rfl) (by rfl) (fun w' hw' => ?_) ?_; rotate_left
        · have z2_ := Ext.cell hw' z2; have c0_ := Ext.cell hw' c0; have hca_ := Ext.cell hw' hca; go_simp <;> first | rfl | exact ⟨rfl, rfl⟩
        simp only [Act.put, List.setIfInBounds_toArray, List.set_cons_zero, List.set_cons_succ]
        refine' wpT_det (o := ⟨some 30, Op.move (Operand.tmp 6), 2, "l04_values.go:27", #[], none⟩) rfl (by rfl) (by rfl) (fun w' hw' => ?_) ?_; rotate_left
        · go_simp <;> first | rfl | exact ⟨rfl, rfl⟩
        simp only [Act.put, List.setIfInBounds_toArray, List.set_cons_zero, List.set_cons_succ]
        refine' wpT_det (o := ⟨some 31, Op.indexAddr 22 (Operand.tmp 29) (Operand.tmp 30), 0, "l04_values.go:27", #[{ on := 8, ground := Ground.data }, { on := 9, ground := Ground.data }], none⟩) rfl (by rfl) (by rfl) (fun w' hw' => ?_) ?_; rotate_left
        · go_simp <;> first | rfl | exact ⟨rfl, rfl⟩
        simp only [Act.put, List.setIfInBounds_toArray, List.set_cons_zero, List.set_cons_succ]
        refine' wpT_det (o := ⟨some 32, Op.load 39 (Operand.tmp 31), 39, "l04_values.go:27", #[{ on := 10, ground := Ground.data }], none⟩) rfl (by rfl) (by rfl) (fun w' hw' => ?_) ?_; rotate_left
        · have z2_ := Ext.cell hw' z2; have c0_ := Ext.cell hw' c0; have hca_ := Ext.cell hw' hca; go_simp <;> first | rfl | exact ⟨rfl, rfl⟩
        simp only [Act.put, List.setIfInBounds_toArray, List.set_cons_zero, List.set_cons_succ]
        refine wpT_nil (fun w4 hw' hF => ?_)
        show wpList _ _ _ [(⟨some 33, Op.indexAddr 22 (Operand.tmp 22) (Operand.tmp 27), 0, "l04_values.go:27", #[{ on := 1, ground := Ground.data }, { on := 6, ground := Ground.data }, { on := 0, ground := Ground.phase }, { on := 1, ground := Ground.phase }, { on := 2, ground := Ground.phase }, { on := 3, ground := Ground.phase }, { on := 4, ground := Ground.phase }, { on := 5, ground := Ground.phase }, { on := 6, ground := Ground.phase }, { on := 7, ground := Ground.phase }, { on := 8, ground := Ground.phase }, { on := 9, ground := Ground.phase }, { on := 10, ground := Ground.phase }, { on := 11, ground := Ground.phase }], none⟩ : Oper), (⟨none, Op.store 39 (Operand.tmp 33) (Operand.tmp 32), 0, "l04_values.go:27", #[{ on := 12, ground := Ground.data }, { on := 11, ground := Ground.data }, { on := 0, ground := Ground.phase }, { on := 1, ground := Ground.phase }, { on := 2, ground := Ground.phase }, { on := 3, ground := Ground.phase }, { on := 4, ground := Ground.phase }, { on := 5, ground := Ground.phase }, { on := 6, ground := Ground.phase }, { on := 7, ground := Ground.phase }, { on := 8, ground := Ground.phase }, { on := 9, ground := Ground.phase }, { on := 10, ground := Ground.phase }, { on := 11, ground := Ground.phase }], none⟩ : Oper)] _ _
        have hx := hw'.undrew
        clear hF hw' z2 c0 c1 hca
        replace h1 := h1.ext hx
        replace h2 := h2.ext hx
        replace h3 := h3.ext hx
        replace h4 := h4.trans hx
        clear hx
        obtain ⟨hc, hf⟩ := h3.at_ (j * n + j) (by omega)
        rw [flts_get (by omega)] at hc
        have hst := store_f32 Try.prog q hc hf
        have hm := MO.put h0 h1 h2 h3 h4 (j * n + j) q
        rw [tab_set (F' := chaT xs ys (fun a b => (a < j ∧ b < j) ∨ (a = j ∧ b = j))) hlt (by omega) (by rw [chaT_on (.inr ⟨rfl, rfl⟩), chaF_mid rfl, HQ.out]) (fun a b _ hab => chaT_eq (.inl (by omega)))] at hm
        by_cases hj0 : j = 0
        · have hj1 : ¬ (0 : Int) < j := by omega
          have HJ := Lib.hid hj0
          clear hj0
          go_wp2_with fail
          go_roundw
          case rel =>
            have hj0 := HJ.out
            refine ⟨j + 1, by omega, by go_num, ?_⟩
            rw [HN.out] at hm ⊢
            rwa [tab_congr (F' := chaT xs ys (fun a b => (a < j ∧ b < j) ∨ (a = j ∧ b = j))) (fun a b _ _ => chaT_eq (.inl (by omega)))]
          case measure => simp [intOf]; omega
        · have hj1 : (0 : Int) < j := by omega
          go_upto_region 10 with (fail)
          obtain ⟨w5, hw5⟩ : ∃ v : World, v = w4.setCell ⟨g, j * n + j, none⟩ (.float .f32 q) := ⟨_, rfl⟩
          rw [← hw5] at hm ⊢
          clear hw5 h0 h1 h2 h3 h4 zl hst hc hf
          obtain ⟨A1, k1, zs, h0, h1, h2, h3, h4⟩ := hm
          have zl : zs.length = N := h3.reads.flen
          obtain ⟨c0, c1, hrd, hrq⟩ := (CAt.of ba (hr.below hx0) (hq.below hx0)).ext h4
          obtain ⟨ad', rfl, hcb⟩ := hrq.fltN (j - 1) (by omega)
          have ei : (((j - 1 : Nat) : Nat) : Int) = (j : Int) - 1 := by omega
          obtain ⟨y, hy'⟩ : ∃ y, y = rdf ys ((j - 1 : Nat) : Int) := ⟨_, rfl⟩
          rw [← hy'] at hcb
          have HY := Lib.hid hy'
          obtain ⟨g, rfl, _⟩ := h3.head (by omega)
          have z2 : w5.cell? ⟨w2.heap.size, 2, none⟩ = some (.slice (some ⟨g, 0, none⟩) N k1) := h1.cell 2 rfl
          have g1 : IntKind.i64.wrap ((j : Int) - 1) = (j : Int) - 1 := IntWalk.i64_in _ (by omega)
          have g2 : (1 : Int) ≤ (j : Int) := by omega
          have g3 : (j : Int) - 1 < (m : Int) := by omega
          obtain ⟨e1, e2, e3, e4, e5, e6, e7, e8⟩ := ix_facts (i := j - 1) (k := j) (by omega) hlt hn12 hn12 HN.out
          obtain ⟨i1, i2, i3, i4, i5, i6, i7, i8⟩ := ix_facts (i := j) (k := j - 1) hlt (by omega) hn12 hn12 HN.out
          rw [ei] at e1 e2 e3 e4 e6 e7 e8
          have ea : (j : Int) * n + ((j - 1 : Nat) : Int) = (j : Int) * n + j - 1 := by omega
          rw [ea] at i3 i4 i6 i8
          clear hy' hrd hrq ea i7 f1 f2 f3 f4 f5 f6 ei
          refine wp_region_T (cs := []) [0, 1, 2, 3, 4, 5, 6, 7, 8, 9, 10, 11, 12, 13] [14, 15] [] [] (fun _ _ => False) (fun _ _ _ => True) (by kernel_rfl) (by kernel_rfl) (fun _ _ _ _ _ _ => trivial) ?_
          refine' wpT_det (o := ⟨some 36, Op.fieldAddr 35 (Operand.tmp 5) 2, 0, "l04_values.go:29", #[], none⟩) rfl (by rfl) (by rfl) (fun w' hw' => ?_) ?_; rotate_left
          · go_simp <;> first | rfl | exact ⟨rfl, rfl⟩
          simp only [Act.put, List.setIfInBounds_toArray, List.set_cons_zero, List.set_cons_succ]
          refine' wpT_det (o := ⟨some 37, Op.load 22 (Operand.tmp 36), 22, "l04_values.go:29", #[{ on := 0, ground := Ground.data }], none⟩) rfl (by rfl) (by rfl) (fun w' hw' => ?_) ?_; rotate_left
          · have z2_ := Ext.cell hw' z2; have c1_ := Ext.cell hw' c1; have hcb_ := Ext.cell hw' hcb; go_simp <;> first | rfl | exact ⟨rfl, rfl⟩
          simp only [Act.put, List.setIfInBounds_toArray, List.set_cons_zero, List.set_cons_succ]
          refine' wpT_det (o := ⟨some 38, Op.move (Operand.tmp 6), 2, "l04_values.go:29", #[], none⟩) rfl (by rfl) (by rfl) (fun w' hw' => ?_) ?_; rotate_left
          · go_simp <;> first | rfl | exact ⟨rfl, rfl⟩
          simp only [Act.put, List.setIfInBounds_toArray, List.set_cons_zero, List.set_cons_succ]
          refine' wpT_det (o := ⟨some 39, Op.move (Operand.tmp 4), 2, "l04_values.go:29", #[], none⟩) rfl (by rfl) (by rfl) (fun w' hw' => ?_) ?_; rotate_left
          · go_simp <;> first | rfl | exact ⟨rfl, rfl⟩
          simp only [Act.put, List.setIfInBounds_toArray, List.set_cons_zero, List.set_cons_succ]
          refine' wpT_det (o := ⟨some 40, Op.binOp BinOp.mul 2 (Operand.tmp 38) (Operand.tmp 39) 2, 2, "l04_values.go:29", #[{ on := 2, ground := Ground.data }, { on := 3, ground := Ground.data }], none⟩) rfl (by rfl) (by rfl) (fun w' hw' => ?_) ?_; rotate_left
          · go_simp <;> first | rfl | exact ⟨rfl, rfl⟩
          simp only [Act.put, List.setIfInBounds_toArray, List.set_cons_zero, List.set_cons_succ]
          refine' wpT_det (o := ⟨some 41, Op.move (Operand.tmp 6), 2, "l04_values.go:29", #[], none⟩) rfl (by rfl) (by rfl) (fun w' hw' => ?_) ?_; rotate_left
          · go_simp <;> first | rfl | exact ⟨rfl, rfl⟩
          simp only [Act.put, List.setIfInBounds_toArray, List.set_cons_zero, List.set_cons_succ]
          refine' wpT_det (o := ⟨some 42, Op.binOp BinOp.add 2 (Operand.tmp 40) (Operand.tmp 41) 2, 2, "l04_values.go:29", #[{ on := 4, ground := Ground.data }, { on := 5, ground := Ground.data }], none⟩) rfl (by rfl) (by rfl) (fun w' hw' => ?_) ?_; rotate_left
          · go_simp <;> first | rfl | exact ⟨rfl, rfl⟩
          simp only [Act.put, List.setIfInBounds_toArray, List.set_cons_zero, List.set_cons_succ]
          refine' wpT_det (o := ⟨some 43, Op.binOp BinOp.sub 2 (Operand.tmp 42) (Operand.const (Value.int IntKind.i64 1)) 2, 2, "l04_values.go:29", #[{ on := 6, ground := Ground.data }], none⟩) rfl (by rfl) (by rfl) (fun w' hw' => ?_) ?_; rotate_left
          · go_simp <;> first | rfl | exact ⟨rfl, rfl⟩
          simp only [Act.put, List.setIfInBounds_toArray, List.set_cons_zero, List.set_cons_succ]
          refine' wpT_det (o := ⟨some 44, Op.fieldAddr 27 (Operand.tmp 1) 1, 0, "l04_values.go:29", #[], none⟩) rfl (by rfl) (by rfl) (fun w' hw' => ?_) ?_; rotate_left
          · go_simp <;> first | rfl | exact ⟨rfl, rfl⟩
          simp only [Act.put, List.setIfInBounds_toArray, List.set_cons_zero, List.set_cons_succ]
          refine' wpT_det (o := ⟨some 45, Op.load 22 (Operand.tmp 44), 22, "l04_values.go:29", #[{ on := 8, ground := Ground.data }], none⟩) rfl (by rfl) (by rfl) (fun w' hw' => ?_) ?_; rotate_left
          · have z2_ := Ext.cell hw' z2; have c1_ := Ext.cell hw' c1; have hcb_ := Ext.cell hw' hcb; go_simp <;> first | rfl | exact ⟨rfl, rfl⟩
          simp only [Act.put, List.setIfInBounds_toArray, List.set_cons_zero, List.set_cons_succ]
          refine' wpT_det (o := ⟨some 46, Op.move (Operand.tmp 6), 2, "l04_values.go:29", #[], none⟩) rfl (by rfl) (by rfl) (fun w' hw' => ?_) ?_; rotate_left
          · go_simp <;> first | rfl | exact ⟨rfl, rfl⟩
          simp only [Act.put, List.setIfInBounds_toArray, List.set_cons_zero, List.set_cons_succ]
          refine' wpT_det (o := ⟨some 47, Op.binOp BinOp.sub 2 (Operand.tmp 46) (Operand.const (Value.int IntKind.i64 1)) 2, 2, "l04_values.go:29", #[{ on := 10, ground := Ground.data }], none⟩) rfl (by rfl) (by rfl) (fun w' hw' => ?_) ?_; rotate_left
          · go_simp <;> first | rfl | exact ⟨rfl, rfl⟩
          simp only [Act.put, List.setIfInBounds_toArray, List.set_cons_zero, List.set_cons_succ]
          refine' wpT_det (o := ⟨some 48, Op.indexAddr 22 (Operand.tmp 45) (Operand.tmp 47), 0, "l04_values.go:29", #[{ on := 9, ground := Ground.data }, { on := 11, ground := Ground.data }], none⟩) rfl (by rfl) (by rfl) (fun w' hw' => ?_) ?_; rotate_left
          · go_simp <;> first | rfl | exact ⟨rfl, rfl⟩
          simp only [Act.put, List.setIfInBounds_toArray, List.set_cons_zero, List.set_cons_succ]
          refine' wpT_det (o := ⟨some 49, Op.load 39 (Operand.tmp 48), 39, "l04_values.go:29", #[{ on := 12, ground := Ground.data }], none⟩) rfl (by rfl) (by rfl) (fun w' hw' => ?_) ?_; rotate_left
          · have z2_ := Ext.cell hw' z2; have c1_ := Ext.cell hw' c1; have hcb_ := Ext.cell hw' hcb; go_simp <;> first | rfl | exact ⟨rfl, rfl⟩
          simp only [Act.put, List.setIfInBounds_toArray, List.set_cons_zero, List.set_cons_succ]
          refine wpT_nil (fun w6 hw' hF => ?_)
          show wpList _ _ _ [(⟨some 50, Op.indexAddr 22 (Operand.tmp 37) (Operand.tmp 43), 0, "l04_values.go:29", #[{ on := 1, ground := Ground.data }, { on := 7, ground := Ground.data }, { on := 0, ground := Ground.phase }, { on := 1, ground := Ground.phase }, { on := 2, ground := Ground.phase }, { on := 3, ground := Ground.phase }, { on := 4, ground := Ground.phase }, { on := 5, ground := Ground.phase }, { on := 6, ground := Ground.phase }, { on := 7, ground := Ground.phase }, { on := 8, ground := Ground.phase }, { on := 9, ground := Ground.phase }, { on := 10, ground := Ground.phase }, { on := 11, ground := Ground.phase }, { on := 12, ground := Ground.phase }, { on := 13, ground := Ground.phase }], none⟩ : Oper), (⟨none, Op.store 39 (Operand.tmp 50) (Operand.tmp 49), 0, "l04_values.go:29", #[{ on := 14, ground := Ground.data }, { on := 13, ground := Ground.data }, { on := 0, ground := Ground.phase }, { on := 1, ground := Ground.phase }, { on := 2, ground := Ground.phase }, { on := 3, ground := Ground.phase }, { on := 4, ground := Ground.phase }, { on := 5, ground := Ground.phase }, { on := 6, ground := Ground.phase }, { on := 7, ground := Ground.phase }, { on := 8, ground := Ground.phase }, { on := 9, ground := Ground.phase }, { on := 10, ground := Ground.phase }, { on := 11, ground := Ground.phase }, { on := 12, ground := Ground.phase }, { on := 13, ground := Ground.phase }], none⟩ : Oper)] _ _
          have hx := hw'.undrew
          clear hF hw' z2 c0 c1 hcb
          replace h1 := h1.ext hx
          replace h2 := h2.ext hx
          replace h3 := h3.ext hx
          replace h4 := h4.trans hx
          clear hx
          obtain ⟨hc, hf⟩ := h3.at_ (j * n + (j - 1)) (by omega)
          rw [flts_get (by omega)] at hc
          have hst := store_f32 Try.prog y hc hf
          have hm := MO.put h0 h1 h2 h3 h4 (j * n + (j - 1)) y
          rw [tab_set (F' := chaT xs ys (fun a b => ((a < j ∧ b < j) ∨ (a = j ∧ b = j)) ∨ (a = j ∧ b = j - 1))) (by omega) (by omega) (by rw [chaT_on (.inr ⟨rfl, rfl⟩), chaF_low (by omega), HY.out]) (fun a b _ hab => chaT_eq (.inl (by omega)))] at hm
          go_upto_region 11 with (fail)
          obtain ⟨w7, hw7⟩ : ∃ v : World, v = w6.setCell ⟨g, j * n + (j - 1), none⟩ (.float .f32 y) := ⟨_, rfl⟩
          rw [← hw7] at hm ⊢
          clear hw7 h0 h1 h2 h3 h4 zl hst hc hf i1 i2 i3 i4 i5 i6 i8
          obtain ⟨A1, k1, zs, h0, h1, h2, h3, h4⟩ := hm
          have zl : zs.length = N := h3.reads.flen
          obtain ⟨c0, c1, hrd, hrq⟩ := (CAt.of ba (hr.below hx0) (hq.below hx0)).ext h4
          obtain ⟨ad2, hAd, hcb⟩ := hrq.fltN (j - 1) (by omega)
          obtain rfl := Option.some.inj hAd
          rw [← HY.out] at hcb
          obtain ⟨g, rfl, _⟩ := h3.head (by omega)
          have z2 : w7.cell? ⟨w2.heap.size, 2, none⟩ = some (.slice (some ⟨g, 0, none⟩) N k1) := h1.cell 2 rfl
          clear hrd hrq hAd f7 f8
          refine wp_region_T (cs := []) [0, 1, 2, 3, 4, 5, 6, 7, 8, 9, 10, 11, 12, 13] [14, 15] [] [] (fun _ _ => False) (fun _ _ _ => True) (by kernel_rfl) (by kernel_rfl) (fun _ _ _ _ _ _ => trivial) ?_
          refine' wpT_det (o := ⟨some 51, Op.fieldAddr 35 (Operand.tmp 5) 2, 0, "l04_values.go:30", #[], none⟩) rfl (by rfl) (by rfl) (fun w' hw' => ?_) ?_; rotate_left
          · go_simp <;> first | rfl | exact ⟨rfl, rfl⟩
          simp only [Act.put, List.setIfInBounds_toArray, List.set_cons_zero, List.set_cons_succ]
          refine' wpT_det (o := ⟨some 52, Op.load 22 (Operand.tmp 51), 22, "l04_values.go:30", #[{ on := 0, ground := Ground.data }], none⟩) rfl (by rfl) (by rfl) (fun w' hw' => ?_) ?_; rotate_left
          · have z2_ := Ext.cell hw' z2; have c1_ := Ext.cell hw' c1; have hcb_ := Ext.cell hw' hcb; go_simp <;> first | rfl | exact ⟨rfl, rfl⟩
          simp only [Act.put, List.setIfInBounds_toArray, List.set_cons_zero, List.set_cons_succ]
          refine' wpT_det (o := ⟨some 53, Op.move (Operand.tmp 6), 2, "l04_values.go:30", #[], none⟩) rfl (by rfl) (by rfl) (fun w' hw' => ?_) ?_; rotate_left
          · go_simp <;> first | rfl | exact ⟨rfl, rfl⟩
          simp only [Act.put, List.setIfInBounds_toArray, List.set_cons_zero, List.set_cons_succ]
          refine' wpT_det (o := ⟨some 54, Op.binOp BinOp.sub 2 (Operand.tmp 53) (Operand.const (Value.int IntKind.i64 1)) 2, 2, "l04_values.go:30", #[{ on := 2, ground := Ground.data }], none⟩) rfl (by rfl) (by rfl) (fun w' hw' => ?_) ?_; rotate_left
          · go_simp <;> first | rfl | exact ⟨rfl, rfl⟩
          simp only [Act.put, List.setIfInBounds_toArray, List.set_cons_zero, List.set_cons_succ]
          refine' wpT_det (o := ⟨some 55, Op.move (Operand.tmp 4), 2, "l04_values.go:30", #[], none⟩) rfl (by rfl) (by rfl) (fun w' hw' => ?_) ?_; rotate_left
          · go_simp <;> first | rfl | exact ⟨rfl, rfl⟩
          simp only [Act.put, List.setIfInBounds_toArray, List.set_cons_zero, List.set_cons_succ]
          refine' wpT_det (o := ⟨some 56, Op.binOp BinOp.mul 2 (Operand.tmp 54) (Operand.tmp 55) 2, 2, "l04_values.go:30", #[{ on := 3, ground := Ground.data }, { on := 4, ground := Ground.data }], none⟩) rfl (by rfl) (by rfl) (fun w' hw' => ?_) ?_; rotate_left
          · go_simp <;> first | rfl | exact ⟨rfl, rfl⟩
          simp only [Act.put, List.setIfInBounds_toArray, List.set_cons_zero, List.set_cons_succ]
          refine' wpT_det (o := ⟨some 57, Op.move (Operand.tmp 6), 2, "l04_values.go:30", #[], none⟩) rfl (by rfl) (by rfl) (fun w' hw' => ?_) ?_; rotate_left
          · go_simp <;> first | rfl | exact ⟨rfl, rfl⟩
          simp only [Act.put, List.setIfInBounds_toArray, List.set_cons_zero, List.set_cons_succ]
          refine' wpT_det (o := ⟨some 58, Op.binOp BinOp.add 2 (Operand.tmp 56) (Operand.tmp 57) 2, 2, "l04_values.go:30", #[{ on := 5, ground := Ground.data }, { on := 6, ground := Ground.data }], none⟩) rfl (by rfl) (by rfl) (fun w' hw' => ?_) ?_; rotate_left
          · go_simp <;> first | rfl | exact ⟨rfl, rfl⟩
          simp only [Act.put, List.setIfInBounds_toArray, List.set_cons_zero, List.set_cons_succ]
          refine' wpT_det (o := ⟨some 59, Op.fieldAddr 27 (Operand.tmp 1) 1, 0, "l04_values.go:30", #[], none⟩) rfl (by rfl) (by rfl) (fun w' hw' => ?_) ?_; rotate_left
          · go_simp <;> first | rfl | exact ⟨rfl, rfl⟩
          simp only [Act.put, List.setIfInBounds_toArray, List.set_cons_zero, List.set_cons_succ]
          refine' wpT_det (o := ⟨some 60, Op.load 22 (Operand.tmp 59), 22, "l04_values.go:30", #[{ on := 8, ground := Ground.data }], none⟩) rfl (by rfl) (by rfl) (fun w' hw' => ?_) ?_; rotate_left
          · have z2_ := Ext.cell hw' z2; have c1_ := Ext.cell hw' c1; have hcb_ := Ext.cell hw' hcb; go_simp <;> first | rfl | exact ⟨rfl, rfl⟩
          simp only [Act.put, List.setIfInBounds_toArray, List.set_cons_zero, List.set_cons_succ]
          refine' wpT_det (o := ⟨some 61, Op.move (Operand.tmp 6), 2, "l04_values.go:30", #[], none⟩) rfl (by rfl) (by rfl) (fun w' hw' => ?_) ?_; rotate_left
          · go_simp <;> first | rfl | exact ⟨rfl, rfl⟩
          simp only [Act.put, List.setIfInBounds_toArray, List.set_cons_zero, List.set_cons_succ]
          refine' wpT_det (o := ⟨some 62, Op.binOp BinOp.sub 2 (Operand.tmp 61) (Operand.const (Value.int IntKind.i64 1)) 2, 2, "l04_values.go:30", #[{ on := 10, ground := Ground.data }], none⟩) rfl (by rfl) (by rfl) (fun w' hw' => ?_) ?_; rotate_left
          · go_simp <;> first | rfl | exact ⟨rfl, rfl⟩
          simp only [Act.put, List.setIfInBounds_toArray, List.set_cons_zero, List.set_cons_succ]
          refine' wpT_det (o := ⟨some 63, Op.indexAddr 22 (Operand.tmp 60) (Operand.tmp 62), 0, "l04_values.go:30", #[{ on := 9, ground := Ground.data }, { on := 11, ground := Ground.data }], none⟩) rfl (by rfl) (by rfl) (fun w' hw' => ?_) ?_; rotate_left
          · go_simp <;> first | rfl | exact ⟨rfl, rfl⟩
          simp only [Act.put, List.setIfInBounds_toArray, List.set_cons_zero, List.set_cons_succ]
          refine' wpT_det (o := ⟨some 64, Op.load 39 (Operand.tmp 63), 39, "l04_values.go:30", #[{ on := 12, ground := Ground.data }], none⟩) rfl (by rfl) (by rfl) (fun w' hw' => ?_) ?_; rotate_left
          · have z2_ := Ext.cell hw' z2; have c1_ := Ext.cell hw' c1; have hcb_ := Ext.cell hw' hcb; go_simp <;> first | rfl | exact ⟨rfl, rfl⟩
          simp only [Act.put, List.setIfInBounds_toArray, List.set_cons_zero, List.set_cons_succ]
          refine wpT_nil (fun w8 hw' hF => ?_)
          show wpList _ _ _ [(⟨some 65, Op.indexAddr 22 (Operand.tmp 52) (Operand.tmp 58), 0, "l04_values.go:30", #[{ on := 1, ground := Ground.data }, { on := 7, ground := Ground.data }, { on := 0, ground := Ground.phase }, { on := 1, ground := Ground.phase }, { on := 2, ground := Ground.phase }, { on := 3, ground := Ground.phase }, { on := 4, ground := Ground.phase }, { on := 5, ground := Ground.phase }, { on := 6, ground := Ground.phase }, { on := 7, ground := Ground.phase }, { on := 8, ground := Ground.phase }, { on := 9, ground := Ground.phase }, { on := 10, ground := Ground.phase }, { on := 11, ground := Ground.phase }, { on := 12, ground := Ground.phase }, { on := 13, ground := Ground.phase }], none⟩ : Oper), (⟨none, Op.store 39 (Operand.tmp 65) (Operand.tmp 64), 0, "l04_values.go:30", #[{ on := 14, ground := Ground.data }, { on := 13, ground := Ground.data }, { on := 0, ground := Ground.phase }, { on := 1, ground := Ground.phase }, { on := 2, ground := Ground.phase }, { on := 3, ground := Ground.phase }, { on := 4, ground := Ground.phase }, { on := 5, ground := Ground.phase }, { on := 6, ground := Ground.phase }, { on := 7, ground := Ground.phase }, { on := 8, ground := Ground.phase }, { on := 9, ground := Ground.phase }, { on := 10, ground := Ground.phase }, { on := 11, ground := Ground.phase }, { on := 12, ground := Ground.phase }, { on := 13, ground := Ground.phase }], none⟩ : Oper)] _ _
          have hx := hw'.undrew
          clear hF hw' z2 c0 c1 hcb
          replace h1 := h1.ext hx
          replace h2 := h2.ext hx
          replace h3 := h3.ext hx
          replace h4 := h4.trans hx
          clear hx
          obtain ⟨hc, hf⟩ := h3.at_ ((j - 1) * n + j) (by omega)
          rw [flts_get (by omega)] at hc
          have hst := store_f32 Try.prog y hc hf
          have hm := MO.put h0 h1 h2 h3 h4 ((j - 1) * n + j) y
          rw [tab_set (F' := chaT xs ys (fun a b => a < j + 1 ∧ b < j + 1)) hlt (by omega) (by rw [chaT_on (by omega), chaF_up (by omega), HY.out]) (fun a b _ hab => chaT_eq (by omega))] at hm
          go_wp2_with fail
          go_roundw
          case rel => exact ⟨j + 1, by omega, by go_num, hm⟩
          case measure => simp [intOf]; omega
      · obtain rfl : j = n := by omega
        obtain ⟨A1, k1, zs, h0, h1, h2, h3, h4⟩ := hst
        have z0 : wr.cell? ⟨w2.heap.size, 0, none⟩ = some (.int .i64 j) := h1.cell 0 rfl
        have z1 : wr.cell? ⟨w2.heap.size, 1, none⟩ = some (.int .i64 j) := h1.cell 1 rfl
        have z2 : wr.cell? ⟨w2.heap.size, 2, none⟩ = some (.slice A1 N k1) := h1.cell 2 rfl
        have hfin : tab j (chaT xs ys (fun a b => a < j ∧ b < j)) N = chaL xs ys j := by
          rw [HN.out]
          exact tab_congr (fun a b ha hb => chaT_on ⟨ha, hb⟩)
        rw [hfin] at h0
        obtain rfl := cfs_all h0 Hall.out
        clear hfin h0
        have y0 : wr.cell? ⟨w.heap.size + 1, 0, none⟩ = some (.int .i64 0) := h2.cell 0 rfl
        have y1 : wr.cell? ⟨w.heap.size + 1, 1, none⟩ = some (.int .i64 0) := h2.cell 1 rfl
        have y2 : wr.cell? ⟨w.heap.size + 1, 2, none⟩ = some (.slice none 0 0) := h2.cell 2 rfl
        have q0 := h2.free 0
        have q1 := h2.free 1
        have q2 := h2.free 2
        have hq := h2.lt
        go_wp2_with fail
        obtain ⟨k1', k2', k3'⟩ := Own.resM (w := w) (u := .int .i64 j) (v := .int .i64 j) (x := .slice A1 N k1) h2 (h3.base hx0.size) (hx0.trans h4) (by omega)
        refine bodyPost_ret (resMB rfl rfl rfl k3') rfl ?_
        rw [Hd.out]
        exact ⟨A1, k1, by rw [Hl.out]; rfl, by rw [Hl.out]; exact k1', k2'⟩

end Go.Proofs.Ytgjfdfmbknmpaaa
