import Derived.Test.YtgjfdfmbknmpaaaM27
set_option linter.unusedVariables false
set_option linter.unusedSimpArgs false
namespace Go.Proofs.Ytgjfdfmbknmpaaa
open Go.RowKit

set_option maxRecDepth 20000 in
set_option maxHeartbeats 8000000 in
theorem specOuterMatrix_any (A : Option Addr) (n cap : Nat) (B : Option Addr) (m cap' : Nat) (vs ws : List Nat) (w : World) (hr : Rds w A n (flts vs)) (hq : Rds w B m (flts ws)) :
    Calls Try.prog 54 #[.slice A n cap, .slice B m cap'] w (RetMD w (outD vs ws)) := by
  have HL := Lib.hid hr.flen
  have HL' := Lib.hid hq.flen
  have hs1 := hr.small
  have hs2 := hq.small
  cases hv : isVec vs with
  | false =>
    have hd := oD_bad (vs := vs) (ws := ws) (by unfold outB; rw [hv]; rfl)
    go_enter Try.func54, Try.ntmps54
    go_upto_region 1 with (fail)
    obtain ⟨w0, hw0⟩ : ∃ w0, w0 = (w.alloc (.cells #[.int .i64 0, .int .i64 0, .slice none 0 0] 35)) := ⟨_, rfl⟩
    have hx0 : Ext w w0 := by subst hw0; exact (Ext.refl _).alloc _
    have b0 : Blk w0 (w.heap.size) #[.int .i64 0, .int .i64 0, .slice none 0 0] 35 := by subst hw0; exact (Blk.new w _ _)
    rw [← hw0]
    clear hw0
    go_wp2_with fail
    refine (l02Vector_any A n cap vs _ (hr.below hx0)).mono ?_
    rintro e w1 ⟨rfl, hx⟩
    rw [hv]
    replace b0 := b0.ext hx
    replace hx0 := hx0.trans hx
    clear  hx
    have y0 : w1.cell? ⟨w.heap.size, 0, none⟩ = some (.int .i64 0) := b0.cell 0 rfl
    have y1 : w1.cell? ⟨w.heap.size, 1, none⟩ = some (.int .i64 0) := b0.cell 1 rfl
    have y2 : w1.cell? ⟨w.heap.size, 2, none⟩ = some (.slice none 0 0) := b0.cell 2 rfl
    have q0 := b0.free 0
    have q1 := b0.free 1
    have q2 := b0.free 2
    have hq := b0.lt
    go_wp2_with fail
    obtain ⟨k1, k2, k3⟩ := Own.resM (w := w) (u := .int .i64 0) (v := .int .i64 0) (x := .slice none 0 0) b0 (own_nil _ w.heap.size _) hx0 (by omega)
    exact bodyPost_ret (resMB (x := .bool false) rfl rfl rfl k3) rfl (RetMD.bad hd k2)
  | true =>
    cases hv' : isVec ws with
    | false =>
      have hd := oD_bad (vs := vs) (ws := ws) (by unfold outB; rw [hv, hv']; rfl)
      go_enter Try.func54, Try.ntmps54
      go_upto_region 1 with (fail)
      obtain ⟨w0, hw0⟩ : ∃ w0, w0 = (w.alloc (.cells #[.int .i64 0, .int .i64 0, .slice none 0 0] 35)) := ⟨_, rfl⟩
      have hx0 : Ext w w0 := by subst hw0; exact (Ext.refl _).alloc _
      have b0 : Blk w0 (w.heap.size) #[.int .i64 0, .int .i64 0, .slice none 0 0] 35 := by subst hw0; exact (Blk.new w _ _)
      rw [← hw0]
      clear hw0
      go_wp2_with fail
      refine (l02Vector_any A n cap vs _ (hr.below hx0)).mono ?_
      rintro e w1 ⟨rfl, hx⟩
      rw [hv]
      replace b0 := b0.ext hx
      replace hx0 := hx0.trans hx
      clear  hx
      go_wp2_with fail
      refine (l02Vector_any B m cap' ws _ (hq.below hx0)).mono ?_
      rintro e w2 ⟨rfl, hx⟩
      rw [hv']
      replace b0 := b0.ext hx
      replace hx0 := hx0.trans hx
      clear  hx
      have y0 : w2.cell? ⟨w.heap.size, 0, none⟩ = some (.int .i64 0) := b0.cell 0 rfl
      have y1 : w2.cell? ⟨w.heap.size, 1, none⟩ = some (.int .i64 0) := b0.cell 1 rfl
      have y2 : w2.cell? ⟨w.heap.size, 2, none⟩ = some (.slice none 0 0) := b0.cell 2 rfl
      have q0 := b0.free 0
      have q1 := b0.free 1
      have q2 := b0.free 2
      have hq := b0.lt
      go_wp2_with fail
      obtain ⟨k1, k2, k3⟩ := Own.resM (w := w) (u := .int .i64 0) (v := .int .i64 0) (x := .slice none 0 0) b0 (own_nil _ w.heap.size _) hx0 (by omega)
      exact bodyPost_ret (resMB (x := .bool false) rfl rfl rfl k3) rfl (RetMD.bad hd k2)
    | true =>
      cases ht : (inR 1 n 12 && inR 1 m 12) with
      | false =>
        have hd := oD_bad (vs := vs) (ws := ws) (by unfold outB; rw [Bool.and_assoc, HL.out, HL'.out, ht, hv, hv']; rfl)
        go_enter Try.func54, Try.ntmps54
        go_upto_region 1 with (fail)
        obtain ⟨w0, hw0⟩ : ∃ w0, w0 = (w.alloc (.cells #[.int .i64 0, .int .i64 0, .slice none 0 0] 35)) := ⟨_, rfl⟩
        have hx0 : Ext w w0 := by subst hw0; exact (Ext.refl _).alloc _
        have b0 : Blk w0 (w.heap.size) #[.int .i64 0, .int .i64 0, .slice none 0 0] 35 := by subst hw0; exact (Blk.new w _ _)
        rw [← hw0]
        clear hw0
        go_wp2_with fail
        refine (l02Vector_any A n cap vs _ (hr.below hx0)).mono ?_
        rintro e w1 ⟨rfl, hx⟩
        rw [hv]
        replace b0 := b0.ext hx
        replace hx0 := hx0.trans hx
        clear  hx
        go_wp2_with fail
        refine (l02Vector_any B m cap' ws _ (hq.below hx0)).mono ?_
        rintro e w2 ⟨rfl, hx⟩
        rw [hv']
        replace b0 := b0.ext hx
        replace hx0 := hx0.trans hx
        clear  hx
        go_wp2_with fail
        refine (l02Sides_any _ _ _).mono ?_
        rintro e w9 ⟨rfl, rfl⟩
        rw [ht]
        have y0 : w2.cell? ⟨w.heap.size, 0, none⟩ = some (.int .i64 0) := b0.cell 0 rfl
        have y1 : w2.cell? ⟨w.heap.size, 1, none⟩ = some (.int .i64 0) := b0.cell 1 rfl
        have y2 : w2.cell? ⟨w.heap.size, 2, none⟩ = some (.slice none 0 0) := b0.cell 2 rfl
        have q0 := b0.free 0
        have q1 := b0.free 1
        have q2 := b0.free 2
        have hq := b0.lt
        go_wp2_with fail
        obtain ⟨k1, k2, k3⟩ := Own.resM (w := w) (u := .int .i64 0) (v := .int .i64 0) (x := .slice none 0 0) b0 (own_nil _ w.heap.size _) hx0 (by omega)
        exact bodyPost_ret (resMB (x := .bool false) rfl rfl rfl k3) rfl (RetMD.bad hd k2)
      | true =>
        have ht' := ht
        rw [Bool.and_eq_true] at ht'
        have hn12 : n ≤ 12 := by have := inR_iff.1 ht'.1; omega
        have hm12 : m ≤ 12 := by have := inR_iff.1 ht'.2; omega
        clear ht'
        obtain ⟨d, hd⟩ : ∃ d, d = outD vs ws := ⟨_, rfl⟩
        have hd' : d = giveM n m (tab m (outF vs ws) (n * m)) := by
          have hb : outB vs ws = true := by unfold outB; rw [Bool.and_assoc, HL.out, HL'.out, ht, hv, hv']; rfl
          rw [hd]; unfold outD; rw [hb, if_pos rfl, HL.out, HL'.out]
        have HD := Lib.hid hd'
        rw [← hd]
        clear hd hd'
        go_enter Try.func54, Try.ntmps54
        go_upto_region 1 with (fail)
        obtain ⟨w0, hw0⟩ : ∃ w0, w0 = (w.alloc (.cells #[.int .i64 0, .int .i64 0, .slice none 0 0] 35)) := ⟨_, rfl⟩
        have hx0 : Ext w w0 := by subst hw0; exact (Ext.refl _).alloc _
        have b0 : Blk w0 (w.heap.size) #[.int .i64 0, .int .i64 0, .slice none 0 0] 35 := by subst hw0; exact (Blk.new w _ _)
        rw [← hw0]
        clear hw0
        go_wp2_with fail
        refine (l02Vector_any A n cap vs _ (hr.below hx0)).mono ?_
        rintro e w1 ⟨rfl, hx⟩
        rw [hv]
        replace b0 := b0.ext hx
        replace hx0 := hx0.trans hx
        clear  hx
        go_wp2_with fail
        refine (l02Vector_any B m cap' ws _ (hq.below hx0)).mono ?_
        rintro e w4 ⟨rfl, hx⟩
        rw [hv']
        replace b0 := b0.ext hx
        replace hx0 := hx0.trans hx
        clear  hx
        go_wp2_with fail
        refine (l02Sides_any _ _ _).mono ?_
        rintro e w9 ⟨rfl, rfl⟩
        rw [ht]
        go_wp2_with fail
        refine (l02Blank_any n m _).mono ?_
        rintro e w5 ⟨A1, k1, zs, hz, rfl, o1, hx⟩
        obtain rfl : zs = [] := List.length_eq_zero_iff.1 (by rw [MO.len hz]; rfl)
        have hne : w.heap.size ≠ w5.heap.size := by have := b0.lt; have := hx.size; omega
        have hle : w4.heap.size ≤ w5.heap.size := hx.size
        have hsz4 : w.heap.size ≤ w4.heap.size := hx0.size
        go_wp2_with fail
        have hst : MO w4 w5.heap.size w.heap.size n m 0 (tab m (outF vs ws) 0) (w5.alloc (.cells #[.int .i64 n, .int .i64 m, .slice A1 0 k1] 35)) :=
          ⟨A1, k1, [], rfl, Blk.new _ _ _, (b0.ext hx).ext ((Ext.refl _).alloc _), o1.ext ((Ext.refl _).alloc _), hx.alloc _⟩
        clear o1 hx hz
        go_loopw [7] (fun u wr => ∃ i : Nat, i ≤ n ∧ u = .int .i64 i ∧ MO w4 w5.heap.size w.heap.size n m (i * m) (tab m (outF vs ws) (i * m)) wr) (fun u _ => n - (intOf u).toNat)
        case atStart => exact ⟨0, Nat.zero_le _, rfl, by rw [Nat.zero_mul]; exact hst⟩
        case round =>
          clear hst
          obtain ⟨i, hi, rfl, hst⟩ := hrel
          by_cases hlt : i < n
          · go_wp2_with fail
            go_loopw [8] (fun u wr => ∃ k : Nat, k ≤ m ∧ u = .int .i64 k ∧ MO w4 w5.heap.size w.heap.size n m (i * m + k) (tab m (outF vs ws) (i * m + k)) wr) (fun u _ => m - (intOf u).toNat)
            case atStart => exact ⟨0, Nat.zero_le _, rfl, hst⟩
            case round =>
              clear hst
              obtain ⟨k, hk, rfl, A2, k2, zs, hz, h1, h2, h3, h4⟩ := hrel
              by_cases hlk : k < m
              · obtain ⟨ad, rfl, hca⟩ := ((hr.below hx0).below h4).fltN i hlt
                obtain ⟨ad', rfl, hcb⟩ := ((hq.below hx0).below h4).fltN k hlk
                have z2 : wr.cell? ⟨w5.heap.size, 2, none⟩ = some (.slice A2 (i * m + k) k2) := h1.cell 2 rfl
                have hit : i * m + k ≤ 156 := by
                  have : i * m ≤ 12 * 12 := Nat.mul_le_mul (by omega) (by omega)
                  omega
                go_upto_region 10 with (fail)
                refine wp_region_T (cs := []) [0, 1, 2, 3, 4, 5, 6, 7, 8, 9, 10, 11] [12, 13, 14] [10, 11] [] (fun i__ v => match i__ with | 10 => ∃ r, v = .float .f32 r ∧ c32 r = (outF vs ws i k) | 11 => ∃ g, v = .slice (some ⟨g, 0, none⟩) 1 1 | _ => False) (fun i__ v w' => match i__ with | 11 => OneF w' v (outF vs ws i k) 39 | _ => True) (by kernel_rfl) (by kernel_rfl) (by intro i v w' w2 h hx; revert h; (try dsimp only); split <;> intro h <;> first | trivial | exact OneF.ext h hx) ?_
                refine' wpT_det (o := ⟨some 43, Op.fieldAddr 35 (Operand.tmp 6) 2, 0, "l02_matrices.go:279", #[], none⟩) rfl (by rfl) (by rfl) (fun w' hw' => ?_) ?_; rotate_left
                · go_simp <;> first | rfl | exact ⟨rfl, rfl⟩
                simp only [Act.put, List.setIfInBounds_toArray, List.set_cons_zero, List.set_cons_succ]
                refine' wpT_det (o := ⟨some 44, Op.load 22 (Operand.tmp 43), 22, "l02_matrices.go:279", #[{ on := 0, ground := Ground.data }], none⟩) rfl (by rfl) (by rfl) (fun w' hw' => ?_) ?_; rotate_left
                · have hca_ := Ext.cell hw' hca; have hcb_ := Ext.cell hw' hcb; have z2_ := Ext.cell hw' z2; go_simp <;> first | rfl | exact ⟨rfl, rfl⟩
                simp only [Act.put, List.setIfInBounds_toArray, List.set_cons_zero, List.set_cons_succ]
                refine' wpT_det (o := ⟨some 45, Op.move (Operand.tmp 0), 22, "l02_matrices.go:279", #[], none⟩) rfl (by rfl) (by rfl) (fun w' hw' => ?_) ?_; rotate_left
                · go_simp <;> first | rfl | exact ⟨rfl, rfl⟩
                simp only [Act.put, List.setIfInBounds_toArray, List.set_cons_zero, List.set_cons_succ]
                refine' wpT_det (o := ⟨some 46, Op.move (Operand.tmp 7), 3, "l02_matrices.go:279", #[], none⟩) rfl (by rfl) (by rfl) (fun w' hw' => ?_) ?_; rotate_left
                · go_simp <;> first | rfl | exact ⟨rfl, rfl⟩
                simp only [Act.put, List.setIfInBounds_toArray, List.set_cons_zero, List.set_cons_succ]
                refine' wpT_det (o := ⟨some 47, Op.indexAddr 22 (Operand.tmp 45) (Operand.tmp 46), 0, "l02_matrices.go:279", #[{ on := 2, ground := Ground.data }, { on := 3, ground := Ground.data }], none⟩) rfl (by rfl) (by rfl) (fun w' hw' => ?_) ?_; rotate_left
                · go_simp <;> first | rfl | exact ⟨rfl, rfl⟩
                simp only [Act.put, List.setIfInBounds_toArray, List.set_cons_zero, List.set_cons_succ]
                refine' wpT_det (o := ⟨some 48, Op.load 39 (Operand.tmp 47), 39, "l02_matrices.go:279", #[{ on := 4, ground := Ground.data }], none⟩) rfl (by rfl) (by rfl) (fun w' hw' => ?_) ?_; rotate_left
                · have hca_ := Ext.cell hw' hca; have hcb_ := Ext.cell hw' hcb; have z2_ := Ext.cell hw' z2; go_simp <;> first | rfl | exact ⟨rfl, rfl⟩
                simp only [Act.put, List.setIfInBounds_toArray, List.set_cons_zero, List.set_cons_succ]
                refine' wpT_det (o := ⟨some 49, Op.move (Operand.tmp 1), 22, "l02_matrices.go:279", #[], none⟩) rfl (by rfl) (by rfl) (fun w' hw' => ?_) ?_; rotate_left
                · go_simp <;> first | rfl | exact ⟨rfl, rfl⟩
                simp only [Act.put, List.setIfInBounds_toArray, List.set_cons_zero, List.set_cons_succ]
                refine' wpT_det (o := ⟨some 50, Op.move (Operand.tmp 8), 3, "l02_matrices.go:279", #[], none⟩) rfl (by rfl) (by rfl) (fun w' hw' => ?_) ?_; rotate_left
                · go_simp <;> first | rfl | exact ⟨rfl, rfl⟩
                simp only [Act.put, List.setIfInBounds_toArray, List.set_cons_zero, List.set_cons_succ]
                refine' wpT_det (o := ⟨some 51, Op.indexAddr 22 (Operand.tmp 49) (Operand.tmp 50), 0, "l02_matrices.go:279", #[{ on := 6, ground := Ground.data }, { on := 7, ground := Ground.data }], none⟩) rfl (by rfl) (by rfl) (fun w' hw' => ?_) ?_; rotate_left
                · go_simp <;> first | rfl | exact ⟨rfl, rfl⟩
                simp only [Act.put, List.setIfInBounds_toArray, List.set_cons_zero, List.set_cons_succ]
                refine' wpT_det (o := ⟨some 52, Op.load 39 (Operand.tmp 51), 39, "l02_matrices.go:279", #[{ on := 8, ground := Ground.data }], none⟩) rfl (by rfl) (by rfl) (fun w' hw' => ?_) ?_; rotate_left
                · have hca_ := Ext.cell hw' hca; have hcb_ := Ext.cell hw' hcb; have z2_ := Ext.cell hw' z2; go_simp <;> first | rfl | exact ⟨rfl, rfl⟩
                simp only [Act.put, List.setIfInBounds_toArray, List.set_cons_zero, List.set_cons_succ]
                refine wpT_nd (o := ⟨some 53, Op.binOp BinOp.mul 39 (Operand.tmp 48) (Operand.tmp 52) 39, 39, "l02_matrices.go:279", #[{ on := 5, ground := Ground.data }, { on := 9, ground := Ground.data }], none⟩) rfl (by rfl) (by rfl) (fun w' hw' hF R__ hGo => ?_) (by obtain ⟨r, hr⟩ := ex_d .mul (rfl : fop .mul .f32 (c32 (rdf vs i)) (c32 (rdf ws k)) = (outF vs ws i k)); exact ⟨_, r, rfl, hr⟩) ?_
                · exact gives_f .mul (.inr (.inr (.inl rfl))) _ _ _ _ rfl (rdf vs i) (rdf ws k) rfl rfl (outF vs ws i k) rfl (fun r w2 hx hc => hGo _ _ hx ⟨r, rfl, hc⟩ trivial)
                rintro _ ⟨f10, rfl, hf10⟩
                simp only [Act.put, List.setIfInBounds_toArray, List.set_cons_zero, List.set_cons_succ]
                refine wpT_nd (o := ⟨some 54, Op.buildSlice 22 1 #[(0, Operand.tmp 53)], 22, "l02_matrices.go:279", #[{ on := 10, ground := Ground.data }], none⟩) rfl (by rfl) (by rfl) (fun w' hw' hF R__ hGo => ?_) ⟨_, 0, rfl⟩ ?_
                · go_simp; exact gives_value rfl (hGo _ _ ((Ext.refl _).alloc _) ⟨_, rfl⟩ ⟨f10, hf10, One.new _ _ _⟩)
                rintro _ ⟨g1', rfl⟩
                simp only [Act.put, List.setIfInBounds_toArray, List.set_cons_zero, List.set_cons_succ]
                refine wpT_nil (fun w6 hw' hF => ?_)
                show wpList _ _ _ [(⟨some 55, Op.call { callee := Callee.builtin Builtin.append, args := #[Operand.tmp 44, Operand.tmp 54], argTypes := #[22, 22] }, 22, "l02_matrices.go:279", #[{ on := 1, ground := Ground.data }, { on := 11, ground := Ground.data }], none⟩ : Oper), (⟨some 56, Op.fieldAddr 35 (Operand.tmp 6) 2, 0, "l02_matrices.go:279", #[{ on := 0, ground := Ground.phase }, { on := 1, ground := Ground.phase }, { on := 2, ground := Ground.phase }, { on := 3, ground := Ground.phase }, { on := 4, ground := Ground.phase }, { on := 5, ground := Ground.phase }, { on := 6, ground := Ground.phase }, { on := 7, ground := Ground.phase }, { on := 8, ground := Ground.phase }, { on := 9, ground := Ground.phase }, { on := 10, ground := Ground.phase }, { on := 11, ground := Ground.phase }, { on := 12, ground := Ground.phase }], none⟩ : Oper), (⟨none, Op.store 22 (Operand.tmp 56) (Operand.tmp 55), 0, "l02_matrices.go:279", #[{ on := 13, ground := Ground.data }, { on := 12, ground := Ground.data }, { on := 12, ground := Ground.chain }, { on := 0, ground := Ground.phase }, { on := 1, ground := Ground.phase }, { on := 2, ground := Ground.phase }, { on := 3, ground := Ground.phase }, { on := 4, ground := Ground.phase }, { on := 5, ground := Ground.phase }, { on := 6, ground := Ground.phase }, { on := 7, ground := Ground.phase }, { on := 8, ground := Ground.phase }, { on := 9, ground := Ground.phase }, { on := 10, ground := Ground.phase }, { on := 11, ground := Ground.phase }, { on := 12, ground := Ground.phase }], none⟩ : Oper)] _ _
                obtain ⟨r, hr', hg⟩ : OneF w6 (.slice (some ⟨g1', 0, none⟩) 1 1) (outF vs ws i k) 39 := hF 11 _ rfl
                have hx := hw'.undrew
                clear hF hw' z2 hca hcb
                replace h1 := h1.ext hx
                replace h2 := h2.ext hx
                replace h3 := h3.ext hx
                replace h4 := h4.trans hx
                clear hx
                have hsz := h4.size
                have hl0 := h3.len
                have hlc : (flts zs).length = (i * m + k) := hl0
                have hf := h1.free 2
                have hc := h1.cell 2 rfl
                go_wp2_with (at_builtin; go_loud (refine wpList_app1 rfl _ _ _ rfl w6 w4.heap.size 39 (.float .f32 0) 4 Try.underlying22 info_f32 rfl (by decide) (.slice A2 (i * m + k) k2) (flts zs) rfl g1' (.float .f32 r) rfl hg h3 rfl (by omega) hsz ?_); rw [hl0]; intro A' c' w7 h5 h6 h7; clear hf hc; have b1 := h1.wr h6 h3 (by decide); have hf := b1.free 2; have hq := b1.lt; have hc := b1.cell 2 rfl)
                go_roundw
                case rel =>
                  refine ⟨k + 1, by omega, by go_num, ?_⟩
                  have := MO.app hle hne hz h1 h2 h3 h4 h5 h6
                  rwa [hr', tab_succ (outF vs ws) i k hlk] at this
                case measure => simp [intOf]; omega
              · obtain rfl : k = m := by omega
                go_wp2_with fail
                go_roundw
                case rel => exact ⟨i + 1, by omega, by go_num, by rw [Nat.succ_mul]; exact ⟨A2, k2, zs, hz, h1, h2, h3, h4⟩⟩
                case measure => simp [intOf]; omega
          · obtain rfl : i = n := by omega
            obtain ⟨A2, k2, zs, hz, h1, h2, h3, h4⟩ := hst
            have z0 : wr.cell? ⟨w5.heap.size, 0, none⟩ = some (.int .i64 i) := h1.cell 0 rfl
            have z1 : wr.cell? ⟨w5.heap.size, 1, none⟩ = some (.int .i64 m) := h1.cell 1 rfl
            have z2 : wr.cell? ⟨w5.heap.size, 2, none⟩ = some (.slice A2 (i * m) k2) := h1.cell 2 rfl
            go_wp2_with fail
            refine (l02Give_any w4.heap.size i m A2 (i * m) k2 zs _ h3 h4.size).mono ?_
            have HD' : Hid (d = giveM i m (cfs zs)) := by rw [hz]; exact HD.out
            rw [← HD'.out]
            rintro e w8 ⟨A3, k3, rfl, ho, hx⟩
            replace b0 := h2.ext hx
            replace hx0 := (hx0.trans h4).trans hx
            have ho' := ho.base hsz4
            clear z0 z1 z2
            have y0 : w8.cell? ⟨w.heap.size, 0, none⟩ = some (.int .i64 0) := b0.cell 0 rfl
            have y1 : w8.cell? ⟨w.heap.size, 1, none⟩ = some (.int .i64 0) := b0.cell 1 rfl
            have y2 : w8.cell? ⟨w.heap.size, 2, none⟩ = some (.slice none 0 0) := b0.cell 2 rfl
            have q0 := b0.free 0
            have q1 := b0.free 1
            have q2 := b0.free 2
            have hq := b0.lt
            go_wp2_with fail
            obtain ⟨j1, j2, j3⟩ := Own.resM (w := w) (u := .int .i64 d.r) (v := .int .i64 d.c) (x := .slice A3 d.xs.length k3) b0 ho' hx0 (by omega)
            exact bodyPost_ret (resMB (x := .bool d.ok) rfl rfl rfl j3) rfl ⟨A3, k3, rfl, j1, j2⟩

end Go.Proofs.Ytgjfdfmbknmpaaa
