
import Derived.Test.YtkifpligpobiaaaQ1
set_option linter.unusedVariables false
set_option linter.unusedSimpArgs false

namespace Go.Proofs.Ytkifpligpobiaaa

open Go.RowKit


/-- A full square in a block, told by M1, with the numbers of M2. -/
def FU (w0 : World) (b n N : Nat) (M1 M2 : Sqr) (w : World) : Prop := ∃ A k V q ys, cfs ys = nb n M2 ∧ Blk w b #[.int .i64 n, .slice A N k, .slice V N q] 71 ∧ Own w w0.heap.size 4 (.slice A N k) (bools (tb n M1)) ∧ Own w w0.heap.size 43 (.slice V N q) (flts ys) ∧ Ext w0 w
section

variable {w0 w : World} {b n N k q : Nat} {M1 M2 : Sqr} {ys : List Nat}

theorem FU.putT {g : Nat} {V : Option Addr} (h0 : cfs ys = nb n M2) (h1 : Blk w b #[.int .i64 n, .slice (some ⟨g, 0, none⟩) N k, .slice V N q] 71) (h2 : Own w w0.heap.size 4 (.slice (some ⟨g, 0, none⟩) N k) (bools (tb n M1))) (h3 : Own w w0.heap.size 43 (.slice V N q) (flts ys)) (h4 : Ext w0 w)
    (t : Nat) (x : Bool) {M1' : Sqr} (e : (tb n M1).set t x = tb n M1') : FU w0 b n N M1' M2 (w.setCell ⟨g, t, none⟩ (.bool x)) := by
  obtain ⟨s1, s2⟩ := h2.stored t (.bool x)
  exact ⟨_, _, _, _, ys, h0, h1.wr s2 h2 (by decide), by rw [← e, bools_set]; exact s1, h3.other s2 (h2.apart h3 (by decide)).2, s2.ext h4 h2⟩
theorem FU.putN {g : Nat} {A : Option Addr} (h0 : cfs ys = nb n M2) (h1 : Blk w b #[.int .i64 n, .slice A N k, .slice (some ⟨g, 0, none⟩) N q] 71) (h2 : Own w w0.heap.size 4 (.slice A N k) (bools (tb n M1))) (h3 : Own w w0.heap.size 43 (.slice (some ⟨g, 0, none⟩) N q) (flts ys)) (h4 : Ext w0 w)
    (t : Nat) (x : Nat) {M2' : Sqr} (e : (nb n M2).set t (c32 x) = nb n M2') : FU w0 b n N M1 M2' (w.setCell ⟨g, t, none⟩ (.float .f32 x)) := by
  obtain ⟨s1, s2⟩ := h3.stored t (.float .f32 x)
  exact ⟨_, _, _, _, ys.set t x, by rw [cfs_set, h0, e], h1.wr s2 h3 (by decide), h2.other s2 (h2.apart h3 (by decide)).1, by rw [flts_set]; exact s1, s2.ext h4 h3⟩
end

theorem store_bool (P : Program) {w : World} {a : Addr} {c : Value} (y : Bool) (hc : w.cell? a = some c) (hf : w.frozen? a = false) : (store a (.bool y)).run P w = .ok () (w.setCell a (.bool y)) := by
  rw [run_store P w a _ _ rfl, hc]
  simp [hf]

set_option maxRecDepth 20000 in
set_option maxHeartbeats 4000000 in
theorem l05Open_any (b n : Nat) (A : Option Addr) (a ca : Nat) (B : Option Addr) (m cb : Nat) (V : Option Addr) (p cv : Nat) (st co : List Int) (va : List Nat) (hsp : IsSp n st co va) (w : World) (ha : SAt w b n A a ca B m cb V p cv st co va) :
    Calls Try.prog 72 #[.pointer (some ⟨b, 0, none⟩)] w (RetFu w n (vw st co va m)) := by
  obtain ⟨a0, a1, a2, a3, hr, hq, hv⟩ := ha
  have HSP := Lib.hid hsp
  have hn1 : 1 ≤ n := by have := hsp.s1; omega
  have hn32 : n ≤ 32 := by have := hsp.s1; omega
  have ham : a = n + 1 := by have := hsp.s2; rw [hr.ilen] at this; omega
  have hpm : p = m := by have := hsp.s4; rw [hv.flen, hq.ilen] at this; exact this
  have HM := Lib.hid hq.ilen
  have hm512 : m ≤ 512 := by have := hsp.s3; rw [hq.ilen] at this; exact this
  obtain ⟨N, hN⟩ : ∃ N, N = n * n := ⟨_, rfl⟩
  unfold RetFu
  rw [← hN]
  have HN := Lib.hid hN
  have hN1 : 1 ≤ N := by rw [hN]; exact Nat.mul_pos hn1 hn1
  clear hN hsp
  go_enter Try.func72, Try.ntmps72
  go_upto_region 1 with (fail)
  go_upto_region 1 with (fail)
  have hx0 : Ext w (w.alloc (.cells #[.int .i64 0, .slice none 0 0, .slice none 0 0] 71)) := (Ext.refl _).alloc _
  have b0 := Blk.new w #[.int .i64 0, .slice none 0 0, .slice none 0 0] 71
  obtain ⟨w0, hw0⟩ : ∃ w0 : World, w0 = w.alloc (.cells #[.int .i64 0, .slice none 0 0, .slice none 0 0] 71) := ⟨_, rfl⟩
  rw [← hw0] at hx0 b0 ⊢
  clear hw0
  have A0 := a0
  replace a0 := hx0.cell a0
  go_wp2_with fail
  refine (l05Blank_any n hn32 _).mono ?_
  rintro e w1 ⟨T, k, U, q, ys, rfl, hy, o1, o2, hx⟩
  rw [← HN.out] at o1 o2
  rw [← HN.out]
  go_upto_region 2 with (fail)
  have hst : FU w0 w1.heap.size n N (vw st co va 0) (vw st co va 0) (w1.alloc (.cells #[.int .i64 n, .slice T N k, .slice U N q] 71)) := ⟨T, k, U, q, ys, hy, Blk.new _ _ _, o1.ext ((Ext.refl _).alloc _), o2.ext ((Ext.refl _).alloc _), hx.alloc _⟩
  obtain ⟨w2, hw2⟩ : ∃ v : World, v = w1.alloc (.cells #[.int .i64 n, .slice T N k, .slice U N q] 71) := ⟨_, rfl⟩
  rw [← hw2] at hst ⊢
  have hle : w0.heap.size ≤ w1.heap.size := hx.size
  clear hw2 o1 o2 hx hy a0
  have hcw := hx0
  go_wp2_with fail
  go_loopw [4] (fun u wr => ∃ i : Nat, i ≤ n ∧ u = .int .i64 i ∧ FU w0 w1.heap.size n N (vw st co va (rd st i).toNat) (vw st co va (rd st i).toNat) wr) (fun u _ => n - (intOf u).toNat)
  case atStart =>
    refine ⟨0, Nat.zero_le _, rfl, ?_⟩
    have e0 : rd st ((0 : Nat) : Int) = 0 := HSP.out.s6
    rw [e0]
    exact hst
  case round =>
    rename World => wA
    clear hst
    obtain ⟨i, hi, rfl, hst⟩ := hrel
    have xA : Ext w wA := by obtain ⟨_, _, _, _, _, _, _, _, _, h4⟩ := hst; exact hx0.trans h4
    have c0 := xA.cell A0
    have c1 := xA.cell a1
    have c2 := xA.cell a2
    by_cases hlt : i < n
    · have g1 : IntKind.i64.wrap ((i : Int) + 1) = (i : Int) + 1 := IntWalk.i64_in _ (by omega)
      have r0 := HSP.out.range (i := i) (by omega)
      have r1 := HSP.out.range (i := i + 1) (by omega)
      have e1 : ((i + 1 : Nat) : Int) = (i : Int) + 1 := by omega
      rw [HM.out] at r0 r1
      rw [e1] at r1
      have hup : rd st i ≤ rd st ((i : Int) + 1) := HSP.out.s8 i (by omega)
      obtain ⟨s0, hs0⟩ : ∃ s0 : Nat, rd st i = s0 := ⟨(rd st i).toNat, by omega⟩
      obtain ⟨s1, hs1⟩ : ∃ s1 : Nat, rd st ((i : Int) + 1) = s1 := ⟨(rd st ((i : Int) + 1)).toNat, by omega⟩
      have q1 := (hr.below xA).int i (by omega) (by omega)
      have q2 := (hr.below xA).int ((i : Int) + 1) (by omega) (by omega)
      obtain ⟨ad, rfl, hc⟩ := q1
      obtain ⟨ad', had, hc1⟩ := q2
      obtain rfl := Option.some.inj had
      rw [hs0, Int.toNat_natCast] at hc
      rw [hs1, show ((i : Int) + 1).toNat = i + 1 by omega, Addr.add_succ'] at hc1
      rw [hs0] at r0 hup hst
      rw [hs1] at r1 hup
      have HS0 := Lib.hid hs0
      have HS1 := Lib.hid hs1
      have f1 : (i : Int) < n := by omega
      have f2 : (i : Int) < a := by omega
      have f3 : (i : Int) + 1 < a := by omega
      rw [Int.toNat_natCast] at hst
      clear had hs0 hs1 e1
      go_wp2_with fail
      go_loopw [5] (fun u wr => ∃ k : Nat, s0 ≤ k ∧ k ≤ s1 ∧ u = .int .i64 k ∧ FU w0 w1.heap.size n N (vw st co va k) (vw st co va k) wr) (fun u _ => s1 - (intOf u).toNat)
      case atStart => exact ⟨s0, Nat.le_refl _, by omega, rfl, hst⟩
      case round =>
        rename World => wB
        clear hst hc hc1 c0 c1 c2 xA
        obtain ⟨k, hk0, hk1, rfl, hst⟩ := hrel
        have xB : Ext w wB := by obtain ⟨_, _, _, _, _, _, _, _, _, h4⟩ := hst; exact hx0.trans h4
        have c0 := xB.cell A0
        have c1 := xB.cell a1
        have c2 := xB.cell a2
        have q1 := (hr.below xB).int i (by omega) (by omega)
        have q2 := (hr.below xB).int ((i : Int) + 1) (by omega) (by omega)
        obtain ⟨ad', had, hc⟩ := q1
        obtain rfl := Option.some.inj had
        clear had
        obtain ⟨ad', had, hc1⟩ := q2
        obtain rfl := Option.some.inj had
        clear had
        rw [HS0.out, Int.toNat_natCast] at hc
        rw [HS1.out, show ((i : Int) + 1).toNat = i + 1 by omega, Addr.add_succ'] at hc1
        by_cases hlk : k < s1
        · have hlk' : (k : Int) < s1 := by omega
          have hkm : k < m := by omega
          have hkm' : (k : Int) < m := by omega
          have hkp' : (k : Int) < p := by omega
          have hcr := HSP.out.s9 k (by rw [HM.out]; exact hkm)
          obtain ⟨j, hj⟩ : ∃ j : Nat, rd co k = j := ⟨(rd co k).toNat, by omega⟩
          rw [hj] at hcr
          have HJ := Lib.hid hj
          have hjn : j < n := by omega
          obtain ⟨adc, rfl, hd⟩ := (hq.below xB).intN k hkm
          rw [hj] at hd
          obtain ⟨adv, rfl, he⟩ := (hv.below xB).fltN k (by omega)
          obtain ⟨x, hxv⟩ : ∃ x, x = rdf va k := ⟨_, rfl⟩
          rw [← hxv] at he
          have HX := Lib.hid hxv
          obtain ⟨i1, i2, i3, i4, i5, i6⟩ := ix32 hlt hjn hn32
          rw [← HN.out] at i4 i6
          have i7 : i * n + j < N := by omega
          have g4 : IntKind.i64.wrap ((k : Int) + 1) = (k : Int) + 1 := IntWalk.i64_in _ (by omega)
          have HT : Hid ((tb n (vw st co va k)).set (i * n + j) true = tb n (vw st co va (k + 1))) :=
            (tb_set (M' := updM (vw st co va k) i j (some (c32 (rdf va k)))) hlt hjn (by rw [updM_same]; rfl) (fun a b h => by rw [updM_other _ h])).trans (tb_congr fun a b ha hb => by rw [vw_next HSP.out hlt (by rw [HS0.out]; omega) (by rw [HS1.out]; omega) HJ.out ha])
          have HNB : Hid ((nb n (vw st co va k)).set (i * n + j) (c32 x) = nb n (vw st co va (k + 1))) :=
            (nb_set (M' := updM (vw st co va k) i j (some (c32 (rdf va k)))) hlt hjn (by rw [updM_same, HX.out]; rfl) (fun a b h => by rw [updM_other _ h])).trans (nb_congr fun a b ha hb => by rw [vw_next HSP.out hlt (by rw [HS0.out]; omega) (by rw [HS1.out]; omega) HJ.out ha])
          obtain ⟨T1, k1, U1, q1, zs, h0, h1, h2, h3, h4⟩ := hst
          have lt := h2.reads.blen
          have lz := h3.reads.flen
          obtain ⟨g, rfl, _⟩ := h2.head (by omega)
          have z1 : wB.cell? ⟨w1.heap.size, 1, none⟩ = some (.slice (some ⟨g, 0, none⟩) N k1) := h1.cell 1 rfl
          clear hj hxv
          go_upto_region 8 with (fail)
          refine wp_region_T (cs := []) [0, 1, 2, 3, 4, 5, 6, 7, 8, 9, 10, 11, 12, 13, 14, 15, 16] [17] [] [] (fun _ _ => False) (fun _ _ _ => True) (by kernel_rfl) (by kernel_rfl) (fun _ _ _ _ _ _ => trivial) ?_
          refine' wpT_det (o := ⟨some 38, Op.fieldAddr 71 (Operand.tmp 3) 1, 0, "l05_sparse.go:50", #[], none⟩) rfl (by rfl) (by rfl) (fun w' hw' => ?_) ?_; rotate_left
          · go_simp <;> first | rfl | exact ⟨rfl, rfl⟩
          simp only [Act.put, List.setIfInBounds_toArray, List.set_cons_zero, List.set_cons_succ]
          refine' wpT_det (o := ⟨some 39, Op.load 69 (Operand.tmp 38), 69, "l05_sparse.go:50", #[{ on := 0, ground := Ground.data }], none⟩) rfl (by rfl) (by rfl) (fun w' hw' => ?_) ?_; rotate_left
          · have z1_ := Ext.cell hw' z1; have c0_ := Ext.cell hw' c0; have c2_ := Ext.cell hw' c2; have hd_ := Ext.cell hw' hd; go_simp <;> first | rfl | exact ⟨rfl, rfl⟩
          simp only [Act.put, List.setIfInBounds_toArray, List.set_cons_zero, List.set_cons_succ]
          refine' wpT_det (o := ⟨some 40, Op.move (Operand.tmp 4), 2, "l05_sparse.go:50", #[], none⟩) rfl (by rfl) (by rfl) (fun w' hw' => ?_) ?_; rotate_left
          · go_simp <;> first | rfl | exact ⟨rfl, rfl⟩
          simp only [Act.put, List.setIfInBounds_toArray, List.set_cons_zero, List.set_cons_succ]
          refine' wpT_det (o := ⟨some 41, Op.move (Operand.tmp 0), 68, "l05_sparse.go:50", #[], none⟩) rfl (by rfl) (by rfl) (fun w' hw' => ?_) ?_; rotate_left
          · go_simp <;> first | rfl | exact ⟨rfl, rfl⟩
          simp only [Act.put, List.setIfInBounds_toArray, List.set_cons_zero, List.set_cons_succ]
          refine' wpT_det (o := ⟨some 42, Op.nilCheck (Operand.tmp 41), 0, "l05_sparse.go:50", #[{ on := 3, ground := Ground.data }], none⟩) rfl (by rfl) (by rfl) (fun w' hw' => ?_) ?_; rotate_left
          · go_simp <;> first | rfl | exact ⟨rfl, rfl⟩
          simp only [Act.put, List.setIfInBounds_toArray, List.set_cons_zero, List.set_cons_succ]
          refine' wpT_det (o := ⟨some 43, Op.fieldAddr 27 (Operand.tmp 42) 0, 0, "l05_sparse.go:50", #[{ on := 4, ground := Ground.data }], none⟩) rfl (by rfl) (by rfl) (fun w' hw' => ?_) ?_; rotate_left
          · go_simp <;> first | rfl | exact ⟨rfl, rfl⟩
          simp only [Act.put, List.setIfInBounds_toArray, List.set_cons_zero, List.set_cons_succ]
          refine' wpT_det (o := ⟨some 44, Op.load 2 (Operand.tmp 43), 2, "l05_sparse.go:50", #[{ on := 5, ground := Ground.data }], none⟩) rfl (by rfl) (by rfl) (fun w' hw' => ?_) ?_; rotate_left
          · have z1_ := Ext.cell hw' z1; have c0_ := Ext.cell hw' c0; have c2_ := Ext.cell hw' c2; have hd_ := Ext.cell hw' hd; go_simp <;> first | rfl | exact ⟨rfl, rfl⟩
          simp only [Act.put, List.setIfInBounds_toArray, List.set_cons_zero, List.set_cons_succ]
          refine' wpT_det (o := ⟨some 45, Op.binOp BinOp.mul 2 (Operand.tmp 40) (Operand.tmp 44) 2, 2, "l05_sparse.go:50", #[{ on := 2, ground := Ground.data }, { on := 6, ground := Ground.data }], none⟩) rfl (by rfl) (by rfl) (fun w' hw' => ?_) ?_; rotate_left
          · go_simp <;> first | rfl | exact ⟨rfl, rfl⟩
          simp only [Act.put, List.setIfInBounds_toArray, List.set_cons_zero, List.set_cons_succ]
          refine' wpT_det (o := ⟨some 46, Op.move (Operand.tmp 0), 68, "l05_sparse.go:50", #[], none⟩) rfl (by rfl) (by rfl) (fun w' hw' => ?_) ?_; rotate_left
          · go_simp <;> first | rfl | exact ⟨rfl, rfl⟩
          simp only [Act.put, List.setIfInBounds_toArray, List.set_cons_zero, List.set_cons_succ]
          refine' wpT_det (o := ⟨some 47, Op.nilCheck (Operand.tmp 46), 0, "l05_sparse.go:50", #[{ on := 8, ground := Ground.data }], none⟩) rfl (by rfl) (by rfl) (fun w' hw' => ?_) ?_; rotate_left
          · go_simp <;> first | rfl | exact ⟨rfl, rfl⟩
          simp only [Act.put, List.setIfInBounds_toArray, List.set_cons_zero, List.set_cons_succ]
          refine' wpT_det (o := ⟨some 48, Op.fieldAddr 27 (Operand.tmp 47) 2, 0, "l05_sparse.go:50", #[{ on := 9, ground := Ground.data }], none⟩) rfl (by rfl) (by rfl) (fun w' hw' => ?_) ?_; rotate_left
          · go_simp <;> first | rfl | exact ⟨rfl, rfl⟩
          simp only [Act.put, List.setIfInBounds_toArray, List.set_cons_zero, List.set_cons_succ]
          refine' wpT_det (o := ⟨some 49, Op.load 22 (Operand.tmp 48), 22, "l05_sparse.go:50", #[{ on := 10, ground := Ground.data }], none⟩) rfl (by rfl) (by rfl) (fun w' hw' => ?_) ?_; rotate_left
          · have z1_ := Ext.cell hw' z1; have c0_ := Ext.cell hw' c0; have c2_ := Ext.cell hw' c2; have hd_ := Ext.cell hw' hd; go_simp <;> first | rfl | exact ⟨rfl, rfl⟩
          simp only [Act.put, List.setIfInBounds_toArray, List.set_cons_zero, List.set_cons_succ]
          refine' wpT_det (o := ⟨some 50, Op.move (Operand.tmp 5), 2, "l05_sparse.go:50", #[], none⟩) rfl (by rfl) (by rfl) (fun w' hw' => ?_) ?_; rotate_left
          · go_simp <;> first | rfl | exact ⟨rfl, rfl⟩
          simp only [Act.put, List.setIfInBounds_toArray, List.set_cons_zero, List.set_cons_succ]
          refine' wpT_det (o := ⟨some 51, Op.indexAddr 22 (Operand.tmp 49) (Operand.tmp 50), 0, "l05_sparse.go:50", #[{ on := 11, ground := Ground.data }, { on := 12, ground := Ground.data }], none⟩) rfl (by rfl) (by rfl) (fun w' hw' => ?_) ?_; rotate_left
          · go_simp <;> first | rfl | exact ⟨rfl, rfl⟩
          simp only [Act.put, List.setIfInBounds_toArray, List.set_cons_zero, List.set_cons_succ]
          refine' wpT_det (o := ⟨some 52, Op.load 2 (Operand.tmp 51), 2, "l05_sparse.go:50", #[{ on := 13, ground := Ground.data }], none⟩) rfl (by rfl) (by rfl) (fun w' hw' => ?_) ?_; rotate_left
          · have z1_ := Ext.cell hw' z1; have c0_ := Ext.cell hw' c0; have c2_ := Ext.cell hw' c2; have hd_ := Ext.cell hw' hd; go_simp <;> first | rfl | exact ⟨rfl, rfl⟩
          simp only [Act.put, List.setIfInBounds_toArray, List.set_cons_zero, List.set_cons_succ]
          refine' wpT_det (o := ⟨some 53, Op.binOp BinOp.add 2 (Operand.tmp 45) (Operand.tmp 52) 2, 2, "l05_sparse.go:50", #[{ on := 7, ground := Ground.data }, { on := 14, ground := Ground.data }], none⟩) rfl (by rfl) (by rfl) (fun w' hw' => ?_) ?_; rotate_left
          · go_simp <;> first | rfl | exact ⟨rfl, rfl⟩
          simp only [Act.put, List.setIfInBounds_toArray, List.set_cons_zero, List.set_cons_succ]
          refine' wpT_det (o := ⟨some 54, Op.indexAddr 69 (Operand.tmp 39) (Operand.tmp 53), 0, "l05_sparse.go:50", #[{ on := 1, ground := Ground.data }, { on := 15, ground := Ground.data }, { on := 0, ground := Ground.phase }, { on := 1, ground := Ground.phase }, { on := 2, ground := Ground.phase }, { on := 3, ground := Ground.phase }, { on := 4, ground := Ground.phase }, { on := 5, ground := Ground.phase }, { on := 6, ground := Ground.phase }, { on := 7, ground := Ground.phase }, { on := 8, ground := Ground.phase }, { on := 9, ground := Ground.phase }, { on := 10, ground := Ground.phase }, { on := 11, ground := Ground.phase }, { on := 12, ground := Ground.phase }, { on := 13, ground := Ground.phase }, { on := 14, ground := Ground.phase }, { on := 15, ground := Ground.phase }], none⟩) rfl (by rfl) (by rfl) (fun w' hw' => ?_) ?_; rotate_left
          · go_simp <;> first | rfl | exact ⟨rfl, rfl⟩
          simp only [Act.put, List.setIfInBounds_toArray, List.set_cons_zero, List.set_cons_succ]
          refine wpT_nil (fun w4 hw' hF => ?_)
          show wpList _ _ _ [(⟨none, Op.store 4 (Operand.tmp 54) (Operand.const (Value.bool true)), 0, "l05_sparse.go:50", #[{ on := 16, ground := Ground.data }, { on := 0, ground := Ground.phase }, { on := 1, ground := Ground.phase }, { on := 2, ground := Ground.phase }, { on := 3, ground := Ground.phase }, { on := 4, ground := Ground.phase }, { on := 5, ground := Ground.phase }, { on := 6, ground := Ground.phase }, { on := 7, ground := Ground.phase }, { on := 8, ground := Ground.phase }, { on := 9, ground := Ground.phase }, { on := 10, ground := Ground.phase }, { on := 11, ground := Ground.phase }, { on := 12, ground := Ground.phase }, { on := 13, ground := Ground.phase }, { on := 14, ground := Ground.phase }, { on := 15, ground := Ground.phase }], none⟩ : Oper)] _ _
          have hx := hw'.undrew
          clear hF hw' z1
          replace h1 := h1.ext hx
          replace h2 := h2.ext hx
          replace h3 := h3.ext hx
          replace h4 := h4.trans hx
          clear hx
          obtain ⟨hcb, hf⟩ := h2.at_ (i * n + j) (by omega)
          rw [bools_get (by omega)] at hcb
          have hsb := store_bool Try.prog true hcb hf
          have hm := FU.putT h0 h1 h2 h3 h4 (i * n + j) true HT.out
          go_upto_region 9 with (fail)
          obtain ⟨w5, hw5⟩ : ∃ v : World, v = w4.setCell ⟨g, i * n + j, none⟩ (.bool true) := ⟨_, rfl⟩
          rw [← hw5] at hm ⊢
          clear hw5 h0 h1 h2 h3 h4 lt lz hcb hf hsb c0 c1 c2 hc hc1 hd he xB
          obtain ⟨T1, k1, U1, q1, zs, h0, h1, h2, h3, h4⟩ := hm
          have xB := hx0.trans h4
          have c0 := xB.cell A0
          have c2 := xB.cell a2
          have c3 := xB.cell a3
          obtain ⟨ad', had, hd⟩ := (hq.below xB).intN k hkm
          obtain rfl := Option.some.inj had
          clear had
          rw [HJ.out] at hd
          obtain ⟨ad', had, he⟩ := (hv.below xB).fltN k (by omega)
          obtain rfl := Option.some.inj had
          clear had
          rw [← HX.out] at he
          have lz := h3.reads.flen
          obtain ⟨g2, rfl, _⟩ := h3.head (by omega)
          have z2 : w5.cell? ⟨w1.heap.size, 2, none⟩ = some (.slice (some ⟨g2, 0, none⟩) N q1) := h1.cell 2 rfl
          refine wp_region_T (cs := []) [0, 1, 2, 3, 4, 5, 6, 7, 8, 9, 10, 11, 12, 13, 14, 15, 16, 17, 18, 19, 20, 21, 22] [23, 24] [] [] (fun _ _ => False) (fun _ _ _ => True) (by kernel_rfl) (by kernel_rfl) (fun _ _ _ _ _ _ => trivial) ?_
          refine' wpT_det (o := ⟨some 55, Op.fieldAddr 71 (Operand.tmp 3) 2, 0, "l05_sparse.go:51", #[], none⟩) rfl (by rfl) (by rfl) (fun w' hw' => ?_) ?_; rotate_left
          · go_simp <;> first | rfl | exact ⟨rfl, rfl⟩
          simp only [Act.put, List.setIfInBounds_toArray, List.set_cons_zero, List.set_cons_succ]
          refine' wpT_det (o := ⟨some 56, Op.load 23 (Operand.tmp 55), 23, "l05_sparse.go:51", #[{ on := 0, ground := Ground.data }], none⟩) rfl (by rfl) (by rfl) (fun w' hw' => ?_) ?_; rotate_left
          · have z2_ := Ext.cell hw' z2; have c0_ := Ext.cell hw' c0; have c2_ := Ext.cell hw' c2; have c3_ := Ext.cell hw' c3; have hd_ := Ext.cell hw' hd; have he_ := Ext.cell hw' he; go_simp <;> first | rfl | exact ⟨rfl, rfl⟩
          simp only [Act.put, List.setIfInBounds_toArray, List.set_cons_zero, List.set_cons_succ]
          refine' wpT_det (o := ⟨some 57, Op.move (Operand.tmp 4), 2, "l05_sparse.go:51", #[], none⟩) rfl (by rfl) (by rfl) (fun w' hw' => ?_) ?_; rotate_left
          · go_simp <;> first | rfl | exact ⟨rfl, rfl⟩
          simp only [Act.put, List.setIfInBounds_toArray, List.set_cons_zero, List.set_cons_succ]
          refine' wpT_det (o := ⟨some 58, Op.move (Operand.tmp 0), 68, "l05_sparse.go:51", #[], none⟩) rfl (by rfl) (by rfl) (fun w' hw' => ?_) ?_; rotate_left
          · go_simp <;> first | rfl | exact ⟨rfl, rfl⟩
          simp only [Act.put, List.setIfInBounds_toArray, List.set_cons_zero, List.set_cons_succ]
          refine' wpT_det (o := ⟨some 59, Op.nilCheck (Operand.tmp 58), 0, "l05_sparse.go:51", #[{ on := 3, ground := Ground.data }], none⟩) rfl (by rfl) (by rfl) (fun w' hw' => ?_) ?_; rotate_left
          · go_simp <;> first | rfl | exact ⟨rfl, rfl⟩
          simp only [Act.put, List.setIfInBounds_toArray, List.set_cons_zero, List.set_cons_succ]
          refine' wpT_det (o := ⟨some 60, Op.fieldAddr 27 (Operand.tmp 59) 0, 0, "l05_sparse.go:51", #[{ on := 4, ground := Ground.data }], none⟩) rfl (by rfl) (by rfl) (fun w' hw' => ?_) ?_; rotate_left
          · go_simp <;> first | rfl | exact ⟨rfl, rfl⟩
          simp only [Act.put, List.setIfInBounds_toArray, List.set_cons_zero, List.set_cons_succ]
          refine' wpT_det (o := ⟨some 61, Op.load 2 (Operand.tmp 60), 2, "l05_sparse.go:51", #[{ on := 5, ground := Ground.data }], none⟩) rfl (by rfl) (by rfl) (fun w' hw' => ?_) ?_; rotate_left
          · have z2_ := Ext.cell hw' z2; have c0_ := Ext.cell hw' c0; have c2_ := Ext.cell hw' c2; have c3_ := Ext.cell hw' c3; have hd_ := Ext.cell hw' hd; have he_ := Ext.cell hw' he; go_simp <;> first | rfl | exact ⟨rfl, rfl⟩
          simp only [Act.put, List.setIfInBounds_toArray, List.set_cons_zero, List.set_cons_succ]
          refine' wpT_det (o := ⟨some 62, Op.binOp BinOp.mul 2 (Operand.tmp 57) (Operand.tmp 61) 2, 2, "l05_sparse.go:51", #[{ on := 2, ground := Ground.data }, { on := 6, ground := Ground.data }], none⟩) rfl (by rfl) (by rfl) (fun w' hw' => ?_) ?_; rotate_left
          · go_simp <;> first | rfl | exact ⟨rfl, rfl⟩
          simp only [Act.put, List.setIfInBounds_toArray, List.set_cons_zero, List.set_cons_succ]
          refine' wpT_det (o := ⟨some 63, Op.move (Operand.tmp 0), 68, "l05_sparse.go:51", #[], none⟩) rfl (by rfl) (by rfl) (fun w' hw' => ?_) ?_; rotate_left
          · go_simp <;> first | rfl | exact ⟨rfl, rfl⟩
          simp only [Act.put, List.setIfInBounds_toArray, List.set_cons_zero, List.set_cons_succ]
          refine' wpT_det (o := ⟨some 64, Op.nilCheck (Operand.tmp 63), 0, "l05_sparse.go:51", #[{ on := 8, ground := Ground.data }], none⟩) rfl (by rfl) (by rfl) (fun w' hw' => ?_) ?_; rotate_left
          · go_simp <;> first | rfl | exact ⟨rfl, rfl⟩
          simp only [Act.put, List.setIfInBounds_toArray, List.set_cons_zero, List.set_cons_succ]
          refine' wpT_det (o := ⟨some 65, Op.fieldAddr 27 (Operand.tmp 64) 2, 0, "l05_sparse.go:51", #[{ on := 9, ground := Ground.data }], none⟩) rfl (by rfl) (by rfl) (fun w' hw' => ?_) ?_; rotate_left
          · go_simp <;> first | rfl | exact ⟨rfl, rfl⟩
          simp only [Act.put, List.setIfInBounds_toArray, List.set_cons_zero, List.set_cons_succ]
          refine' wpT_det (o := ⟨some 66, Op.load 22 (Operand.tmp 65), 22, "l05_sparse.go:51", #[{ on := 10, ground := Ground.data }], none⟩) rfl (by rfl) (by rfl) (fun w' hw' => ?_) ?_; rotate_left
          · have z2_ := Ext.cell hw' z2; have c0_ := Ext.cell hw' c0; have c2_ := Ext.cell hw' c2; have c3_ := Ext.cell hw' c3; have hd_ := Ext.cell hw' hd; have he_ := Ext.cell hw' he; go_simp <;> first | rfl | exact ⟨rfl, rfl⟩
          simp only [Act.put, List.setIfInBounds_toArray, List.set_cons_zero, List.set_cons_succ]
          refine' wpT_det (o := ⟨some 67, Op.move (Operand.tmp 5), 2, "l05_sparse.go:51", #[], none⟩) rfl (by rfl) (by rfl) (fun w' hw' => ?_) ?_; rotate_left
          · go_simp <;> first | rfl | exact ⟨rfl, rfl⟩
          simp only [Act.put, List.setIfInBounds_toArray, List.set_cons_zero, List.set_cons_succ]
          refine' wpT_det (o := ⟨some 68, Op.indexAddr 22 (Operand.tmp 66) (Operand.tmp 67), 0, "l05_sparse.go:51", #[{ on := 11, ground := Ground.data }, { on := 12, ground := Ground.data }], none⟩) rfl (by rfl) (by rfl) (fun w' hw' => ?_) ?_; rotate_left
          · go_simp <;> first | rfl | exact ⟨rfl, rfl⟩
          simp only [Act.put, List.setIfInBounds_toArray, List.set_cons_zero, List.set_cons_succ]
          refine' wpT_det (o := ⟨some 69, Op.load 2 (Operand.tmp 68), 2, "l05_sparse.go:51", #[{ on := 13, ground := Ground.data }], none⟩) rfl (by rfl) (by rfl) (fun w' hw' => ?_) ?_; rotate_left
          · have z2_ := Ext.cell hw' z2; have c0_ := Ext.cell hw' c0; have c2_ := Ext.cell hw' c2; have c3_ := Ext.cell hw' c3; have hd_ := Ext.cell hw' hd; have he_ := Ext.cell hw' he; go_simp <;> first | rfl | exact ⟨rfl, rfl⟩
          simp only [Act.put, List.setIfInBounds_toArray, List.set_cons_zero, List.set_cons_succ]
          refine' wpT_det (o := ⟨some 70, Op.binOp BinOp.add 2 (Operand.tmp 62) (Operand.tmp 69) 2, 2, "l05_sparse.go:51", #[{ on := 7, ground := Ground.data }, { on := 14, ground := Ground.data }], none⟩) rfl (by rfl) (by rfl) (fun w' hw' => ?_) ?_; rotate_left
          · go_simp <;> first | rfl | exact ⟨rfl, rfl⟩
          simp only [Act.put, List.setIfInBounds_toArray, List.set_cons_zero, List.set_cons_succ]
          refine' wpT_det (o := ⟨some 71, Op.move (Operand.tmp 0), 68, "l05_sparse.go:51", #[], none⟩) rfl (by rfl) (by rfl) (fun w' hw' => ?_) ?_; rotate_left
          · go_simp <;> first | rfl | exact ⟨rfl, rfl⟩
          simp only [Act.put, List.setIfInBounds_toArray, List.set_cons_zero, List.set_cons_succ]
          refine' wpT_det (o := ⟨some 72, Op.nilCheck (Operand.tmp 71), 0, "l05_sparse.go:51", #[{ on := 16, ground := Ground.data }], none⟩) rfl (by rfl) (by rfl) (fun w' hw' => ?_) ?_; rotate_left
          · go_simp <;> first | rfl | exact ⟨rfl, rfl⟩
          simp only [Act.put, List.setIfInBounds_toArray, List.set_cons_zero, List.set_cons_succ]
          refine' wpT_det (o := ⟨some 73, Op.fieldAddr 27 (Operand.tmp 72) 3, 0, "l05_sparse.go:51", #[{ on := 17, ground := Ground.data }], none⟩) rfl (by rfl) (by rfl) (fun w' hw' => ?_) ?_; rotate_left
          · go_simp <;> first | rfl | exact ⟨rfl, rfl⟩
          simp only [Act.put, List.setIfInBounds_toArray, List.set_cons_zero, List.set_cons_succ]
          refine' wpT_det (o := ⟨some 74, Op.load 23 (Operand.tmp 73), 23, "l05_sparse.go:51", #[{ on := 18, ground := Ground.data }], none⟩) rfl (by rfl) (by rfl) (fun w' hw' => ?_) ?_; rotate_left
          · have z2_ := Ext.cell hw' z2; have c0_ := Ext.cell hw' c0; have c2_ := Ext.cell hw' c2; have c3_ := Ext.cell hw' c3; have hd_ := Ext.cell hw' hd; have he_ := Ext.cell hw' he; go_simp <;> first | rfl | exact ⟨rfl, rfl⟩
          simp only [Act.put, List.setIfInBounds_toArray, List.set_cons_zero, List.set_cons_succ]
          refine' wpT_det (o := ⟨some 75, Op.move (Operand.tmp 5), 2, "l05_sparse.go:51", #[], none⟩) rfl (by rfl) (by rfl) (fun w' hw' => ?_) ?_; rotate_left
          · go_simp <;> first | rfl | exact ⟨rfl, rfl⟩
          simp only [Act.put, List.setIfInBounds_toArray, List.set_cons_zero, List.set_cons_succ]
          refine' wpT_det (o := ⟨some 76, Op.indexAddr 23 (Operand.tmp 74) (Operand.tmp 75), 0, "l05_sparse.go:51", #[{ on := 19, ground := Ground.data }, { on := 20, ground := Ground.data }], none⟩) rfl (by rfl) (by rfl) (fun w' hw' => ?_) ?_; rotate_left
          · go_simp <;> first | rfl | exact ⟨rfl, rfl⟩
          simp only [Act.put, List.setIfInBounds_toArray, List.set_cons_zero, List.set_cons_succ]
          refine' wpT_det (o := ⟨some 77, Op.load 43 (Operand.tmp 76), 43, "l05_sparse.go:51", #[{ on := 21, ground := Ground.data }], none⟩) rfl (by rfl) (by rfl) (fun w' hw' => ?_) ?_; rotate_left
          · have z2_ := Ext.cell hw' z2; have c0_ := Ext.cell hw' c0; have c2_ := Ext.cell hw' c2; have c3_ := Ext.cell hw' c3; have hd_ := Ext.cell hw' hd; have he_ := Ext.cell hw' he; go_simp <;> first | rfl | exact ⟨rfl, rfl⟩
          simp only [Act.put, List.setIfInBounds_toArray, List.set_cons_zero, List.set_cons_succ]
          refine wpT_nil (fun w6 hw' hF => ?_)
          show wpList _ _ _ [(⟨some 78, Op.indexAddr 23 (Operand.tmp 56) (Operand.tmp 70), 0, "l05_sparse.go:51", #[{ on := 1, ground := Ground.data }, { on := 15, ground := Ground.data }, { on := 0, ground := Ground.phase }, { on := 1, ground := Ground.phase }, { on := 2, ground := Ground.phase }, { on := 3, ground := Ground.phase }, { on := 4, ground := Ground.phase }, { on := 5, ground := Ground.phase }, { on := 6, ground := Ground.phase }, { on := 7, ground := Ground.phase }, { on := 8, ground := Ground.phase }, { on := 9, ground := Ground.phase }, { on := 10, ground := Ground.phase }, { on := 11, ground := Ground.phase }, { on := 12, ground := Ground.phase }, { on := 13, ground := Ground.phase }, { on := 14, ground := Ground.phase }, { on := 15, ground := Ground.phase }, { on := 16, ground := Ground.phase }, { on := 17, ground := Ground.phase }, { on := 18, ground := Ground.phase }, { on := 19, ground := Ground.phase }, { on := 20, ground := Ground.phase }, { on := 21, ground := Ground.phase }, { on := 22, ground := Ground.phase }], none⟩ : Oper), (⟨none, Op.store 43 (Operand.tmp 78) (Operand.tmp 77), 0, "l05_sparse.go:51", #[{ on := 23, ground := Ground.data }, { on := 22, ground := Ground.data }, { on := 0, ground := Ground.phase }, { on := 1, ground := Ground.phase }, { on := 2, ground := Ground.phase }, { on := 3, ground := Ground.phase }, { on := 4, ground := Ground.phase }, { on := 5, ground := Ground.phase }, { on := 6, ground := Ground.phase }, { on := 7, ground := Ground.phase }, { on := 8, ground := Ground.phase }, { on := 9, ground := Ground.phase }, { on := 10, ground := Ground.phase }, { on := 11, ground := Ground.phase }, { on := 12, ground := Ground.phase }, { on := 13, ground := Ground.phase }, { on := 14, ground := Ground.phase }, { on := 15, ground := Ground.phase }, { on := 16, ground := Ground.phase }, { on := 17, ground := Ground.phase }, { on := 18, ground := Ground.phase }, { on := 19, ground := Ground.phase }, { on := 20, ground := Ground.phase }, { on := 21, ground := Ground.phase }, { on := 22, ground := Ground.phase }], none⟩ : Oper)] _ _
          have hx := hw'.undrew
          clear hF hw' z2 c0 c2 c3 hd he
          replace h1 := h1.ext hx
          replace h2 := h2.ext hx
          replace h3 := h3.ext hx
          replace h4 := h4.trans hx
          clear hx
          obtain ⟨hcb, hf⟩ := h3.at_ (i * n + j) (by omega)
          rw [flts_get (by omega)] at hcb
          have hsf := store_f32 Try.prog x hcb hf
          have hm := FU.putN h0 h1 h2 h3 h4 (i * n + j) x HNB.out
          go_wp2_with fail
          go_roundw
          case rel => exact ⟨k + 1, by omega, by omega, by go_num, hm⟩
          case measure => simp [intOf]; omega
        · obtain rfl : k = s1 := by omega
          go_wp2_with fail
          go_roundw
          case rel =>
            have e1 : ((i + 1 : Nat) : Int) = (i : Int) + 1 := by omega
            refine ⟨i + 1, by omega, by go_num, ?_⟩
            rw [e1, HS1.out, Int.toNat_natCast]
            exact hst
          case measure => simp [intOf]; omega
    · obtain rfl : i = n := by omega
      have em : (rd st i).toNat = m := by rw [HSP.out.s7, HM.out]; omega
      rw [em] at hst
      obtain ⟨T1, k1, U1, q1, zs, h0, h1, h2, h3, h4⟩ := hst
      have z0 := h1.cell 0 rfl
      have z1 := h1.cell 1 rfl
      have z2 := h1.cell 2 rfl
      replace b0 := b0.ext h4
      have y0 := b0.cell 0 rfl
      have y1 := b0.cell 1 rfl
      have y2 := b0.cell 2 rfl
      have f0 := b0.free 0
      have f1 := b0.free 1
      have f2 := b0.free 2
      have hq0 := b0.lt
      replace h2 := h2.base hx0.size
      replace h3 := h3.base hx0.size
      clear em
      go_wp2_with fail
      have d0 := b0.set 0 (.int .i64 i)
      have d1 := d0.set 1 (.slice T1 N k1)
      have d2 := d1.set 2 (.slice U1 N q1)
      have p1 := ((h2.setBlk b0 (by decide) 0 (.int .i64 i)).setBlk d0 (by decide) 1 (.slice T1 N k1)).setBlk d1 (by decide) 2 (.slice U1 N q1)
      have p2 := ((h3.setBlk b0 (by decide) 0 (.int .i64 i)).setBlk d0 (by decide) 1 (.slice T1 N k1)).setBlk d1 (by decide) 2 (.slice U1 N q1)
      have x2 := ((xA.set (p := ⟨w.heap.size, 0, none⟩) (Nat.le_refl _) (.int .i64 i)).set (p := ⟨w.heap.size, 1, none⟩) (Nat.le_refl _) (.slice T1 N k1)).set (p := ⟨w.heap.size, 2, none⟩) (Nat.le_refl _) (.slice U1 N q1)
      have r0 := d2.cell 0 rfl
      have r1 := d2.cell 1 rfl
      have r2 := d2.cell 2 rfl
      refine bodyPost_ret (v := .agg #[.int .i64 i, .slice T1 N k1, .slice U1 N q1]) (by simp only [results, Try.results72]; simp [go_sem, r0, r1, r2]) rfl ⟨_, _, _, _, zs, rfl, h0, p1, p2, x2⟩

end Go.Proofs.Ytkifpligpobiaaa
