
/- SparseLeast, the program. -/

import Derived.Test.YtkifpligpobiaaaH14

import Derived.Test.YtkifpligpobiaaaH6

import Derived.Test.YtkifpligpobiaaaReg3
set_option linter.unusedVariables false
set_option linter.unusedSimpArgs false

namespace Go.Proofs.Ytkifpligpobiaaa

open Go.RowKit


def lenV : Value → Nat
  | .slice _ n _ => n
  | _ => 0
def lesL (n : Nat) (B : Grf) : List Nat := (lsSt n B n).out

/-- What SparseLeast answers. -/
noncomputable def lesD (sd : Int) (st co : List Int) (va : List Nat) : List Int × Bool := if isSp sd st co va then (natI (lesL sd.toNat (nbM (vw st co va co.length))), true) else ([], false)

theorem shl64' {n : Nat} (h1 : 1 ≤ n) (h : n ≤ 32) : IntKind.u64.wrap ((2 : Int) ^ n) = ((2 ^ n : Nat) : Int) := by
  have h1 : 2 ^ n ≤ 2 ^ 32 := Nat.pow_le_pow_right (by omega) h
  have e : ((2 ^ n : Nat) : Int) = (2 : Int) ^ n := by rw [Int.natCast_pow]; rfl
  rw [← e]
  obtain ⟨q, hq⟩ : ∃ q, q = 2 ^ n := ⟨_, rfl⟩
  rw [← hq] at h1 ⊢
  have h2 : q ≤ 4294967296 := h1
  rw [IntKind.wrap_u64]
  omega
theorem all_sub (n : Nat) (h : n ≤ 32) : IntKind.u64.wrap ((2 : Int) ^ n - 1) = ((msk n (fun _ => true) : Nat) : Int) := by
  have e : ((2 ^ n : Nat) : Int) = (2 : Int) ^ n := by rw [Int.natCast_pow]; rfl
  rw [← msk_all, ← e]
  have h1 : 2 ^ n ≤ 2 ^ 32 := Nat.pow_le_pow_right (by omega) h
  have h0 : 0 < 2 ^ n := Nat.two_pow_pos n
  obtain ⟨q, hq⟩ : ∃ q, q = 2 ^ n := ⟨_, rfl⟩
  rw [← hq] at h1 h0 ⊢
  have h2 : q ≤ 4294967296 := h1
  rw [IntKind.wrap_u64]
  omega

theorem msk_nil' {n : Nat} {f : Nat → Bool} (h : lsB n f = []) : msk n f = 0 := by
  rw [← msk_false n]
  apply msk_congr
  intro k hk
  cases hf : f k with
  | false => rfl
  | true =>
    have : k ∈ lsB n f := lsB_mem.2 ⟨hk, hf⟩
    rw [h] at this
    cases this
theorem msk_cons' {n x : Nat} {f : Nat → Bool} {l : List Nat} (h : lsB n f = x :: l) : msk n f ≠ 0 := by
  intro h0
  have : x ∈ lsB n f := by rw [h]; exact List.mem_cons_self
  have h1 := lsB_mem.1 this
  have := msk_zero h0 h1.1
  rw [h1.2] at this
  cases this
theorem not_one {n j : Nat} (hn : n ≤ 32) (hj : j < n) (f : Nat → Bool) : ∃ pj : Nat, IntKind.u64.wrap ((2 : Int) ^ j) = (pj : Int) ∧ bits .andNot .u64 ((msk n f : Nat) : Int) (pj : Int) = ((msk n (fun b => f b && !decide (b = j)) : Nat) : Int) :=
  ⟨2 ^ j, shl64 (by omega), by rw [msk_one hj]; exact u64_not hn f _⟩

set_option maxRecDepth 20000 in
set_option maxHeartbeats 8000000 in
theorem implSparseLeast_any (sd : Int) (A : Option Addr) (n ca : Nat) (B : Option Addr) (m cb : Nat) (V : Option Addr) (p cv : Nat) (st co : List Int) (va : List Nat) (w : World) (hr : Rds w A n (ints st)) (hq : Rds w B m (ints co)) (hv : Rds w V p (flts va)) :
    Calls Try.prog 66 #[.agg #[.int .i64 sd, .slice A n ca, .slice B m cb, .slice V p cv]] w (RetLB w (lesD sd st co va)) := by
  have HM := Lib.hid hq.ilen
  cases hs : isSp sd st co va with
  | false =>
    have hd : lesD sd st co va = ([], false) := by unfold lesD; rw [hs]; rfl
    rw [hd]
    clear hd
    go_enter Try.func66, Try.ntmps66
    go_upto_region 1 with (fail)
    obtain ⟨w0, hw0⟩ : ∃ w0, w0 = (w.alloc (.cells #[.int .i64 sd, .slice A n ca, .slice B m cb, .slice V p cv] 27)) := ⟨_, rfl⟩
    have hx0 : Ext w w0 := by subst hw0; exact (Ext.refl _).alloc _
    have ba : Blk w0 (w.heap.size) #[.int .i64 sd, .slice A n ca, .slice B m cb, .slice V p cv] 27 := by subst hw0; exact (Blk.new w _ _)
    rw [← hw0]
    clear hw0
    have c0 := ba.cell 0 rfl
    have c1 := ba.cell 1 rfl
    have c2 := ba.cell 2 rfl
    have c3 := ba.cell 3 rfl
    go_wp2_with fail
    refine (implValidSparse_any sd A n ca B m cb V p cv st co va _ (hr.below hx0) (hq.below hx0) (hv.below hx0)).mono ?_
    rintro e w1 ⟨rfl, hx⟩
    rw [hs]
    replace ba := ba.ext hx
    replace hx0 := hx0.trans hx
    clear hx c0 c1 c2 c3
    go_wp2_with fail
    refine bodyPost_ret (v := .tuple #[.slice none 0 0, .bool false]) (by simp only [results, Try.results66]; simp [go_sem]) rfl ⟨none, 0, rfl, Own.nil _ _ _, hx0⟩
  | true =>
    have hsp := isSp_iff.1 hs
    obtain ⟨N, rfl⟩ : ∃ N : Nat, sd = N := ⟨sd.toNat, by have := hsp.s1; omega⟩
    have hn1 : 1 ≤ N := by have := hsp.s1; omega
    have hn32 : N ≤ 32 := by have := hsp.s1; omega
    have hd : lesD N st co va = (natI (lesL N (nbM (vw st co va m))), true) := by unfold lesD; rw [hs, HM.out]; rfl
    rw [hd]
    clear hd
    obtain ⟨G, hG⟩ : ∃ G, G = nbM (vw st co va m) := ⟨_, rfl⟩
    have HSY : Hid (SymB N G) := by rw [hG]; exact nbM_sym N _
    rw [← hG]
    have HG := Lib.hid hG
    have HSP := Lib.hid hsp
    clear hG hsp
    go_enter Try.func66, Try.ntmps66
    go_upto_region 1 with (fail)
    obtain ⟨w0, hw0⟩ : ∃ w0, w0 = (w.alloc (.cells #[.int .i64 N, .slice A n ca, .slice B m cb, .slice V p cv] 27)) := ⟨_, rfl⟩
    have hx0 : Ext w w0 := by subst hw0; exact (Ext.refl _).alloc _
    have ba : Blk w0 (w.heap.size) #[.int .i64 N, .slice A n ca, .slice B m cb, .slice V p cv] 27 := by subst hw0; exact (Blk.new w _ _)
    rw [← hw0]
    clear hw0
    have c0 := ba.cell 0 rfl
    have c1 := ba.cell 1 rfl
    have c2 := ba.cell 2 rfl
    have c3 := ba.cell 3 rfl
    go_wp2_with fail
    refine (implValidSparse_any N A n ca B m cb V p cv st co va _ (hr.below hx0) (hq.below hx0) (hv.below hx0)).mono ?_
    rintro e w1 ⟨rfl, hx⟩
    rw [hs]
    replace ba := ba.ext hx
    replace hx0 := hx0.trans hx
    clear hx c0 c1 c2 c3
    have c0 := ba.cell 0 rfl
    have c1 := ba.cell 1 rfl
    have c2 := ba.cell 2 rfl
    have c3 := ba.cell 3 rfl

    have hsh := shl64' hn1 hn32
    have hsh2 := all_sub N hn32
    obtain ⟨al, hal⟩ : ∃ al, al = msk N (fun _ => true) := ⟨_, rfl⟩
    rw [← hal] at hsh2
    have HAL := Lib.hid hal
    clear hal
    go_wp2_with fail
    refine R3.wp_region_T (cs := [(8, [7])]) [0, 1, 2, 3, 4, 5, 6, 7, 8, 9] [10] [1, 6, 7, 8] [(8, [7, 1])] (fun i__ v => match i__ with | 1 => ∃ (A : Option Addr) (k : Nat), v = .slice A N k | 6 => ∃ b, v = .slice (some ⟨b, 0, none⟩) 0 0 | 7 => ∃ b, v = .pointer (some ⟨b, 0, none⟩) | 8 => v = undef | _ => False) (fun i__ ψ__ v w' => match i__ with | 1 => OwnF w' w1.heap.size 86 v [] (u64s (gl N G)) | 6 => OwnF w' w1.heap.size 2 v [] [] | 7 => BlkF w' v w1.heap.size #[.slice none 0 0] 81 | 8 => ∀ b A k, ψ__ 7 = some (.pointer (some ⟨b, 0, none⟩)) → ψ__ 1 = some (.slice A N k) → Blk w' b #[.slice A N k] 81 ∧ w1.heap.size ≤ b | _ => True) (fun _ _ _ _ => True) (by kernel_rfl) (by kernel_rfl) (by intro i ψ__ v w' w2 h hx; revert h; (try dsimp only); split <;> intro h <;> first | trivial | exact (by first | exact OwnF.ext h hx | exact BlkF.ext h hx | exact (fun b A k e1 e2 => ⟨(h b A k e1 e2).1.ext hx, (h b A k e1 e2).2⟩))) ?_
    refine' R3.wpT_det (o := ⟨some 11, Op.load 27 (Operand.tmp 1), 27, "l05_sparse.go:270", #[], none⟩) rfl (by rfl) (by rfl) (fun w' hw' => ?_) ?_; rotate_left
    · have c0_ := Ext.cell hw' c0; have c1_ := Ext.cell hw' c1; have c2_ := Ext.cell hw' c2; have c3_ := Ext.cell hw' c3; go_simp <;> first | rfl | exact ⟨rfl, rfl⟩
    simp only [Act.put, List.setIfInBounds_toArray, List.set_cons_zero, List.set_cons_succ]
    refine R3.wpT_nd (o := ⟨some 12, Op.call { callee := Callee.value (Operand.func 79), args := #[Operand.tmp 11], argTypes := #[27] }, 81, "l05_sparse.go:270", #[{ on := 0, ground := Ground.data }], none⟩) rfl (by rfl) (by rfl) (fun w' hw' hF R__ hGo => ?_) ⟨_, none, 0, rfl⟩ ?_
    · go_simp
      refine R3.gives_enter rfl ?_
      refine (neighbours_any N A n ca B m cb V p cv st co va HSP.out _ (hr.below (hx0.trans hw'.undrew)) (hq.below (hx0.trans hw'.undrew)) (hv.below (hx0.trans hw'.undrew))).mono ?_
      rw [← HG.out]
      rintro e w2 ⟨GA, gc, rfl, og, hx⟩
      exact ⟨_, rfl, hGo _ _ hx ⟨_, _, rfl⟩ (OwnF.of (og.base hw'.size) rfl) (fun _ _ _ _ _ _ => trivial)⟩
    rintro _ ⟨GA, gc, rfl⟩
    simp only [Act.put, List.setIfInBounds_toArray, List.set_cons_zero, List.set_cons_succ]
    refine' R3.wpT_det (o := ⟨some 13, Op.fieldAddr 27 (Operand.tmp 1) 0, 0, "l05_sparse.go:270", #[{ on := 8, ground := Ground.gcOnly Departure.lateStores }], none⟩) rfl (by rfl) (by rfl) (fun w' hw' => ?_) ?_; rotate_left
    · go_simp <;> first | rfl | exact ⟨rfl, rfl⟩
    simp only [Act.put, List.setIfInBounds_toArray, List.set_cons_zero, List.set_cons_succ]
    refine' R3.wpT_det (o := ⟨some 14, Op.load 2 (Operand.tmp 13), 2, "l05_sparse.go:270", #[{ on := 2, ground := Ground.data }, { on := 8, ground := Ground.gcOnly Departure.lateStores }], none⟩) rfl (by rfl) (by rfl) (fun w' hw' => ?_) ?_; rotate_left
    · have c0_ := Ext.cell hw' c0; have c1_ := Ext.cell hw' c1; have c2_ := Ext.cell hw' c2; have c3_ := Ext.cell hw' c3; go_simp <;> first | rfl | exact ⟨rfl, rfl⟩
    simp only [Act.put, List.setIfInBounds_toArray, List.set_cons_zero, List.set_cons_succ]
    refine' R3.wpT_det (o := ⟨some 15, Op.binOp BinOp.shl 86 (Operand.const (Value.int IntKind.u64 1)) (Operand.tmp 14) 2, 86, "l05_sparse.go:270", #[{ on := 3, ground := Ground.data }, { on := 8, ground := Ground.gcOnly Departure.lateStores }], none⟩) rfl (by rfl) (by rfl) (fun w' hw' => ?_) ?_; rotate_left
    · go_simp <;> first | rfl | exact ⟨rfl, rfl⟩
    simp only [Act.put, List.setIfInBounds_toArray, List.set_cons_zero, List.set_cons_succ]
    refine' R3.wpT_det (o := ⟨some 16, Op.binOp BinOp.sub 86 (Operand.tmp 15) (Operand.const (Value.int IntKind.u64 1)) 86, 86, "l05_sparse.go:270", #[{ on := 4, ground := Ground.data }, { on := 8, ground := Ground.gcOnly Departure.lateStores }], none⟩) rfl (by rfl) (by rfl) (fun w' hw' => ?_) ?_; rotate_left
    · go_simp <;> first | rfl | exact ⟨rfl, rfl⟩
    simp only [Act.put, List.setIfInBounds_toArray, List.set_cons_zero, List.set_cons_succ]
    refine R3.wpT_nd (o := ⟨some 17, Op.buildSlice 22 0 #[], 22, "l05_sparse.go:270", #[{ on := 9, ground := Ground.gcOnly Departure.lateStores }], none⟩) rfl (by rfl) (by rfl) (fun w' hw' hF R__ hGo => ?_) ⟨_, 0, rfl⟩ ?_
    · go_simp; exact R3.gives_value rfl (hGo _ _ ((Ext.refl _).alloc _) ⟨_, rfl⟩ (OwnF.of ((Own.empty w' _).base hw'.size) rfl) (fun _ _ _ _ _ _ => trivial))
    rintro _ ⟨ob, rfl⟩
    simp only [Act.put, List.setIfInBounds_toArray, List.set_cons_zero, List.set_cons_succ]
    refine R3.wpT_nd (o := ⟨some 4, Op.alloc 81, 0, "l05_sparse.go:270", #[], none⟩) rfl (by rfl) (by rfl) (fun w' hw' hF R__ hGo => ?_) ⟨_, 0, rfl⟩ ?_
    · go_simp; exact R3.gives_value rfl (hGo _ _ ((Ext.refl _).alloc _) ⟨_, rfl⟩ (fun b e => by simp only [Value.pointer.injEq, Option.some.injEq, Addr.mk.injEq, and_true] at e; subst e; exact ⟨Blk.new _ _ _, hw'.size⟩) (fun _ _ _ _ _ _ => trivial))
    rintro _ ⟨gb_, rfl⟩
    simp only [Act.put, List.setIfInBounds_toArray, List.set_cons_zero, List.set_cons_succ]
    refine R3.wpT_mv (o := ⟨none, Op.store 81 (Operand.tmp 4) (Operand.tmp 12), 0, "l05_sparse.go:270", #[{ on := 7, ground := Ground.data }, { on := 1, ground := Ground.data }, { on := 1, ground := Ground.chain }, { on := 0, ground := Ground.phase }, { on := 1, ground := Ground.phase }, { on := 2, ground := Ground.textOnly Departure.lateStores }, { on := 3, ground := Ground.textOnly Departure.lateStores }, { on := 4, ground := Ground.textOnly Departure.lateStores }, { on := 5, ground := Ground.textOnly Departure.lateStores }, { on := 6, ground := Ground.textOnly Departure.lateStores }, { on := 7, ground := Ground.phase }], none⟩) rfl (by rfl) (by rfl) (fun w' hw' hF R__ hGo => ?_) ⟨_, rfl⟩ ?_
    · have hb7 : BlkF w' (.pointer (some ⟨gb_, 0, none⟩)) w1.heap.size #[.slice none 0 0] 81 := hF 7 (by simp [R3.uses]) _ rfl; have hq7 := (hb7 gb_ rfl).1; have hl7 := (hb7 gb_ rfl).2; have z7 := hq7.cell 0 rfl; have f7 := hq7.free 0; have l7 := hq7.lt; go_simp; exact R3.gives_skip rfl (hGo _ _ (Ext.set hw' (by exact hl7) _) (fun kk ps u hk hk2 h => by (revert hk hk2 h; (try dsimp only); split <;> intro hk hk2 h <;> first | trivial | (exfalso; apply hk; simp [R3.uses]; done) | (exfalso; exact hk2 rfl) | exact (fun A n k e => (h A n k e).setBlk hq7 (by decide) 0 _))) rfl (fun b A k e1 e2 => by (have e1' : some (Value.pointer (some ⟨gb_, 0, none⟩)) = some (.pointer (some ⟨b, 0, none⟩)) := e1; have e2' : some (Value.slice GA N gc) = some (.slice A N k) := e2; simp only [Option.some.injEq, Value.pointer.injEq, Addr.mk.injEq, and_true] at e1'; simp only [Option.some.injEq, Value.slice.injEq, true_and] at e2'; subst e1'; obtain ⟨rfl, rfl⟩ := e2'; exact ⟨hq7.set 0 _, hl7⟩)) (fun _ _ _ _ _ _ => trivial))
    rintro _ rfl
    refine' R3.wpT_det (o := ⟨some 5, Op.assign (Operand.tmp 16), 86, "l05_sparse.go:270", #[{ on := 5, ground := Ground.data }, { on := 8, ground := Ground.chain }, { on := 0, ground := Ground.phase }, { on := 1, ground := Ground.phase }, { on := 2, ground := Ground.phase }, { on := 3, ground := Ground.phase }, { on := 4, ground := Ground.phase }, { on := 5, ground := Ground.phase }, { on := 6, ground := Ground.textOnly Departure.lateStores }, { on := 7, ground := Ground.phase }, { on := 8, ground := Ground.phase }], none⟩) rfl (by rfl) (by rfl) (fun w' hw' => ?_) ?_; rotate_left
    · go_simp <;> first | rfl | exact ⟨rfl, rfl⟩
    simp only [Act.put, List.setIfInBounds_toArray, List.set_cons_zero, List.set_cons_succ]
    refine R3.wpT_nil (fun w4 hw' hF hRho => ?_)
    show wpList _ _ _ [(⟨some 6, Op.assign (Operand.tmp 17), 22, "l05_sparse.go:270", #[{ on := 6, ground := Ground.data }, { on := 9, ground := Ground.chain }, { on := 0, ground := Ground.phase }, { on := 1, ground := Ground.phase }, { on := 2, ground := Ground.phase }, { on := 3, ground := Ground.phase }, { on := 4, ground := Ground.phase }, { on := 5, ground := Ground.phase }, { on := 6, ground := Ground.phase }, { on := 7, ground := Ground.phase }, { on := 8, ground := Ground.phase }, { on := 9, ground := Ground.phase }], none⟩ : Oper)] _ _
    have fg : OwnF w4 w1.heap.size 86 (.slice GA N gc) [] (u64s (gl N G)) := hF 1 _ rfl
    have fo : OwnF w4 w1.heap.size 2 (.slice (some ⟨ob, 0, none⟩) 0 0) [] [] := hF 6 _ rfl
    have og := fg _ _ _ rfl
    have oo := fo _ _ _ rfl
    have f8 : ∀ b A k, some (Value.pointer (some ⟨gb_, 0, none⟩)) = some (.pointer (some ⟨b, 0, none⟩)) → some (Value.slice GA N gc) = some (.slice A N k) → Blk w4 b #[.slice A N k] 81 ∧ w1.heap.size ≤ b := hF 8 _ rfl
    obtain ⟨bp, hpb⟩ := f8 gb_ GA gc rfl rfl
    clear fg fo f8
    have hx1 := hw'.undrew
    clear hF hw' hRho c0 c1 c2 c3 hsh hsh2 ba
    obtain ⟨g, rfl, hgb⟩ := og.head (by omega)
    have HL0 : Hid (msk N (lsSt N G 0).S = al) := HAL.out.symm
    have oo0 : Own w4 w1.heap.size 2 (.slice (some ⟨ob, 0, none⟩) 0 0) (ints (natI (lsSt N G 0).out)) := oo
    have og0 : Own w4 w1.heap.size 86 (.slice (some ⟨g, 0, none⟩) N gc) (u64s (gl N (lsSt N G 0).B)) := og
    clear oo og HAL
    go_wp2_with fail
    go_loopw [5, 6] (fun u v wr => ∃ t : Nat, t ≤ N ∧ u = .int .u64 (msk N (lsSt N G t).S : Nat) ∧ ∃ A c, v = .slice A t c ∧ Own wr w1.heap.size 2 (.slice A t c) (ints (natI (lsSt N G t).out)) ∧ Own wr w1.heap.size 86 (.slice (some ⟨g, 0, none⟩) N gc) (u64s (gl N (lsSt N G t).B)) ∧ Blk wr gb_ #[.slice (some ⟨g, 0, none⟩) N gc] 81 ∧ Ext w1 wr) (fun _ v _ => N - lenV v)
    case atStart => exact ⟨0, Nat.zero_le _, by rw [HL0.out], _, _, rfl, oo0, og0, bp, hx1⟩
    case round =>
      rename World => wA
      clear oo0 og0 bp hx1 HL0
      obtain ⟨t, ht, rfl, A1, c1, rfl, oo, og, bp, hx1⟩ := hrel
      obtain ⟨hS1, hS2⟩ := lsSt_len N G t ht
      by_cases hlt : t < N
      · obtain ⟨hn1', hnx, hnS⟩ := lsSt_next (B := G) hlt
        have hst : lsSt N G (t + 1) = (lsSt N G t).step N := rfl
        obtain ⟨s, hs'⟩ : ∃ s, s = lsSt N G t := ⟨_, rfl⟩
        rw [← hs'] at hS1 hS2 hn1' hnx hnS hst oo og
        rw [← hs']
        have HST := Lib.hid hst
        clear hst hs'
        obtain ⟨x, hxn⟩ : ∃ x, x = s.next N := ⟨_, rfl⟩
        rw [← hxn] at hn1' hnx hnS
        have HXN := Lib.hid hxn
        clear hxn
        have hLne : lsB N s.S ≠ [] := by intro e; rw [e] at hS1; simp at hS1; omega
        have hm0 : msk N s.S ≠ 0 := by
          cases hL : lsB N s.S with
          | nil => exact absurd hL hLne
          | cons y l => exact msk_cons' hL
        have e' : ((msk N s.S : Nat) : Int) != 0 := by simp; omega
        obtain ⟨px, hpx, hnot⟩ := not_one hn32 hnx s.S
        have HLI : Hid (∀ W, Calls Try.prog 104 #[.int .u64 (msk N s.S : Nat)] W (RetIL W (natI (lsB N s.S)))) := by show ∀ W, _; exact fun W => list_msk N s.S hn32 W
        have hl32 := lsB_len N s.S
        have HNE := Lib.hid hLne
        have HLO := Lib.hid hn1'
        obtain ⟨mm, hmm⟩ : ∃ mm, mm = msk N s.S := ⟨_, rfl⟩
        obtain ⟨mn, hmn⟩ : ∃ mn, mn = msk N (fun k => s.S k && !decide (k = x)) := ⟨_, rfl⟩
        rw [← hmm] at e' hnot HLI
        rw [← hmn] at hnot
        rw [← hmm]
        have HMN := Lib.hid hmn
        clear hm0 hmm hmn hLne hn1' hS1 hS2 hnS
        have hl := oo.len
        go_wp2_with fail
        refine (HLI.out _).mono ?_
        rintro e w5 ⟨LA, lc, rfl, oL, hx⟩
        rw [natI_length] at oL ⊢
        replace oo := oo.ext hx
        replace og := og.ext hx
        replace bp := bp.ext hx
        replace hx1 := hx1.trans hx
        clear hx
        go_wp2_with fail
        refine (minFunc_any 124 _ (enters_of Try.func124 (by kernel_rfl) rfl) LA _ lc (lsB N s.S) (degB N s.B) (lsB_sorted N _) HNE.out rfl (by omega) _ (fun W => W.cell? ⟨gb_, 0, none⟩ = some (.slice (some ⟨g, 0, none⟩) N gc) ∧ Rds W (some ⟨g, 0, none⟩) N (u64s (gl N s.B))) (fun W W' h hx => ⟨hx.cell h.1, h.2.below hx⟩) ?_ oL.reads ⟨bp.cell 0 rfl, og.reads⟩).mono ?_
        · intro a b W ha hb hph
          exact least1_any N s.B hn32 ⟨g, 0, none⟩ gc gb_ a b (lsB_mem.1 ha).1 (lsB_mem.1 hb).1 W hph.1 hph.2
        rw [HLO.out]
        rintro e w6 ⟨rfl, hx⟩
        replace oo := oo.ext hx
        replace og := og.ext hx
        replace bp := bp.ext hx
        replace hx1 := hx1.trans hx
        clear hx oL
        have z0 := bp.cell 0 rfl
        simp only [Option.getD_some]
        go_wp2_with fail
        refine (takeOut_any w1.heap.size g N gc x s.B hn32 hnx _ og).mono ?_
        rintro e w7 ⟨rfl, og7, hw7⟩
        have oo7 := oo.other hw7 (oo.apart og (by decide)).1
        have bp7 := bp.wr hw7 og (by decide)
        have hx7 := hw7.ext hx1 og
        clear oo og bp hx1 z0 hw7
        have xg : Ext w7 (w7.alloc (.cells #[.int .i64 x] 2)) := (Ext.refl _).alloc _
        have ho' := oo7.ext xg
        have og' := og7.ext xg
        have bp' := bp7.ext xg
        have hx' := hx7.trans xg
        have hsz := hx7.size
        clear oo7 og7 bp7 xg
        go_wp2_with (at_builtin; go_loud (refine wpList_app1 rfl _ _ _ rfl (w7.alloc (.cells #[.int .i64 x] 2)) w1.heap.size 2 (.int .i64 0) 8 Try.underlying22 info_i64 rfl (by decide) (.slice A1 t c1) (ints (natI s.out)) rfl w7.heap.size (.int .i64 x) rfl (One.new _ _ _) ho' rfl (by omega) (by simp; omega) ?_); rw [hl]; intro A' c' w9 h5 h6 h7)
        go_roundw
        case rel =>
          refine ⟨t + 1, by omega, ?_, A', c', rfl, ?_, ?_, bp'.wr h6 ho' (by decide), h6.ext hx' ho'⟩
          · rw [HST.out]
            have e1 : (s.step N).S = fun k => s.S k && !decide (k = x) := by rw [HXN.out]; rfl
            rw [e1, ← HMN.out]
          · rw [HST.out]
            have e1 : (s.step N).out = s.out ++ [x] := by rw [HXN.out]; rfl
            rw [e1, natI_append, ints_append]
            exact h5
          · rw [HST.out]
            have e1 : (s.step N).B = outB s.B x := by rw [HXN.out]; rfl
            rw [e1]
            exact og'.other h6 (ho'.apart og' (by decide)).2
        case measure => simp [lenV]; omega
      · obtain rfl : t = N := by omega
        have h0 : msk t (lsSt t G t).S = 0 := msk_nil' (List.length_eq_zero_iff.1 (by omega))
        rw [h0]
        have hl : (natI (lesL t G)).length = t := by rw [natI_length]; exact hS2
        have HL := Lib.hid hl
        have oo2 : Own wA w1.heap.size 2 (.slice A1 t c1) (ints (natI (lesL t G))) := oo
        replace oo2 := oo2.base hx0.size
        replace hx0 := hx0.trans hx1
        clear og bp hx1 h0 hl hS1 hS2 oo
        go_wp2_with fail
        refine bodyPost_ret (v := .tuple #[.slice A1 t c1, .bool true]) (by simp only [results, Try.results66]; simp [go_sem]) rfl ?_
        refine ⟨A1, c1, ?_, ?_, hx0⟩
        · rw [HL.out]
        · rw [HL.out]; exact oo2

end Go.Proofs.Ytkifpligpobiaaa
