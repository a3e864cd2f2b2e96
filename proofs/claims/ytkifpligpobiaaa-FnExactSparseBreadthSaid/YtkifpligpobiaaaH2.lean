
/- The program's graph of a sparse square. -/

import Derived.Test.YtkifpligpobiaaaH1
set_option linter.unusedVariables false
set_option linter.unusedSimpArgs false

namespace Go.Proofs.Ytkifpligpobiaaa

open Go.RowKit


/-- Who is beside whom in a square. -/
def nbM (M : Sqr) : Grf := fun a b => !decide (a = b) && ((M a b).isSome || (M b a).isSome)
theorem nbM_sym (n : Nat) (M : Sqr) : SymB n (nbM M) := by
  constructor
  · intro i j _ _
    unfold nbM
    rw [Bool.or_comm]
    by_cases e : i = j
    · subst e; rfl
    · rw [decide_eq_false e, decide_eq_false (fun h => e h.symm)]
  · intro i _
    unfold nbM
    simp
/-- .. as far as it has been gone through. -/
def nbS (M : Sqr) (S : Nat → Nat → Bool) : Grf := fun a b => !decide (a = b) && (((M a b).isSome && !S a b) || ((M b a).isSome && !S b a))
theorem nbS_zero (M : Sqr) : nbS M (fun i j => (M i j).isSome) = fun _ _ => false := by
  funext a b
  unfold nbS
  cases h1 : (M a b).isSome <;> cases h2 : (M b a).isSome <;> simp [h1, h2]
theorem nbS_end {n : Nat} {M : Sqr} {S : Nat → Nat → Bool} (h : ∀ i j, i < n → j < n → S i j = false) : ∀ a b, a < n → b < n → nbS M S a b = nbM M a b := by
  intro a b ha hb
  unfold nbS nbM
  rw [h a b ha hb, h b a hb ha]
  simp
theorem strike_other {S : Nat → Nat → Bool} {i j a b : Nat} (h : ¬ (a = i ∧ b = j)) : strike S i j a b = S a b := by
  unfold strike
  have : (decide (a = i) && decide (b = j)) = false := by
    by_cases e1 : a = i
    · rw [decide_eq_false (fun e2 => h ⟨e1, e2⟩), Bool.and_false]
    · rw [decide_eq_false e1, Bool.false_and]
  rw [this]
  simp
theorem strike_self (S : Nat → Nat → Bool) (i j : Nat) : strike S i j i j = false := by
  unfold strike
  rw [decide_eq_true rfl, decide_eq_true rfl]
  simp
theorem nbS_same (M : Sqr) (S : Nat → Nat → Bool) (i : Nat) : nbS M (strike S i i) = nbS M S := by
  funext a b
  unfold nbS
  by_cases e : a = b
  · subst e; simp
  · rw [strike_other (fun h => e (h.1.trans h.2.symm)), strike_other (fun h => e (h.2.trans h.1.symm))]
/-- Row i has got j. -/
def nb1 (B : Grf) (i j : Nat) : Grf := fun a b => if a = i then B a b || decide (b = j) else B a b
theorem nbS_step {n : Nat} {M : Sqr} {S : Nat → Nat → Bool} {i j : Nat} (hne : i ≠ j) (hm : (M i j).isSome = true) : ∀ a b, a < n → b < n → nb1 (nb1 (nbS M S) i j) j i a b = nbS M (strike S i j) a b := by
  intro a b _ _
  unfold nb1 nbS
  by_cases e1 : a = j
  · subst e1
    rw [if_pos rfl]
    have h1 : ¬ a = i := fun h => hne h.symm
    rw [if_neg h1, strike_other (fun h => h1 h.1)]
    by_cases e2 : b = i
    · subst e2
      rw [strike_self, hm, decide_eq_true rfl, decide_eq_false h1]
      simp
    · rw [strike_other (fun h => e2 h.1), decide_eq_false e2, Bool.or_false]
  · rw [if_neg e1]
    by_cases e2 : a = i
    · subst e2
      rw [if_pos rfl, strike_other (i := a) (a := b) (b := a) (fun h => e1 h.2)]
      by_cases e3 : b = j
      · subst e3
        rw [strike_self, hm, decide_eq_true rfl, decide_eq_false e1]
        simp
      · rw [strike_other (fun h => e3 h.2), decide_eq_false e3, Bool.or_false]
    · rw [if_neg e2, strike_other (fun h => e2 h.1), strike_other (fun h => e1 h.2)]

/-- A graph, a row of the call's own. -/
def RetGr (w : World) (n : Nat) (B : Grf) (e : Ending) (w' : World) : Prop := ∃ A c, e = .returned (.slice A n c) ∧ Own w' w.heap.size 86 (.slice A n c) (u64s (gl n B)) ∧ Ext w w'
theorem Own.grown {w w' : World} {base : Nat} {e : TypeId} {v : Value} {vs : List Value} {b : Nat} (h : Own w base e v vs) (hg : w.grownBy w' (some b)) (hne : v.ownBlock ≠ some b) : Own w' base e v vs := ⟨h.row.kept hg (.inr hne), h.small⟩

theorem shl64 {j : Nat} (h : j < 32) : IntKind.u64.wrap ((2 : Int) ^ j) = ((2 ^ j : Nat) : Int) := by
  have h1 : 2 ^ j < 2 ^ 32 := Nat.pow_lt_pow_right (by omega) h
  have e : ((2 ^ j : Nat) : Int) = (2 : Int) ^ j := by rw [Int.natCast_pow]; rfl
  rw [← e]
  obtain ⟨q, hq⟩ : ∃ q, q = 2 ^ j := ⟨_, rfl⟩
  rw [← hq] at h1 ⊢
  have h2 : q < 4294967296 := h1
  rw [IntKind.wrap_u64]
  omega
/-- What a mask becomes that gets one more. -/
theorem or_one {n j : Nat} (hn : n ≤ 32) (hj : j < n) (f : Nat → Bool) : ∃ pj : Nat, IntKind.u64.wrap ((2 : Int) ^ j) = (pj : Int) ∧ bits .or .u64 ((msk n f : Nat) : Int) (pj : Int) = ((msk n (fun b => f b || decide (b = j)) : Nat) : Int) :=
  ⟨2 ^ j, shl64 (by omega), by rw [msk_one hj]; exact u64_or_msk hn f _⟩

set_option maxRecDepth 20000 in
set_option maxHeartbeats 8000000 in
theorem neighbours_any (N : Nat) (A : Option Addr) (n ca : Nat) (B : Option Addr) (m cb : Nat) (V : Option Addr) (p cv : Nat) (st co : List Int) (va : List Nat) (hsp : IsSp N st co va) (w : World) (hr : Rds w A n (ints st)) (hq : Rds w B m (ints co)) (hv : Rds w V p (flts va)) :
    Calls Try.prog 79 #[.agg #[.int .i64 N, .slice A n ca, .slice B m cb, .slice V p cv]] w (RetGr w N (nbM (vw st co va m))) := by
  have HSP := Lib.hid hsp
  have hn1 : 1 ≤ N := by have := hsp.s1; omega
  have hn32 : N ≤ 32 := by have := hsp.s1; omega
  clear hsp
  have hmk := run_make_row' (P := Try.prog) 81 86 (.int .u64 0) 8 Try.underlying81 info_u64 rfl .i64 .i64 N (by omega) (by omega)
  go_enter Try.func79, Try.ntmps79
  go_upto_region 1 with (fail)
  obtain ⟨w0, hw0⟩ : ∃ w0, w0 = (w.alloc (.cells #[.int .i64 N, .slice A n ca, .slice B m cb, .slice V p cv] 27)) := ⟨_, rfl⟩
  have hx0 : Ext w w0 := by subst hw0; exact (Ext.refl _).alloc _
  have ba : Blk w0 (w.heap.size) #[.int .i64 N, .slice A n ca, .slice B m cb, .slice V p cv] 27 := by subst hw0; exact (Blk.new w _ _)
  rw [← hw0]
  clear hw0
  have c0 := ba.cell 0 rfl
  go_upto_region 2 with (fail)
  have xg : Ext w0 (w0.alloc (.cells (madeCells #[.int .u64 0] N) 86)) := (Ext.refl _).alloc _
  have og := Own.made w0 86 (.int .u64 0) N rfl (by omega)
  obtain ⟨w1, hw1⟩ : ∃ v : World, v = w0.alloc (.cells (madeCells #[.int .u64 0] N) 86) := ⟨_, rfl⟩
  have hs1 : w1.heap.size = w0.heap.size + 1 := by rw [hw1]; simp
  rw [← hw1] at xg og ⊢
  have HS1 := Lib.hid hs1
  clear hw1 c0 hmk hs1
  replace ba := ba.ext xg
  have c0 := ba.cell 0 rfl
  have c1 := ba.cell 1 rfl
  have c2 := ba.cell 2 rfl
  have c3 := ba.cell 3 rfl
  obtain ⟨g, hg0⟩ : ∃ g, g = w0.heap.size := ⟨_, rfl⟩
  have hle : w.heap.size ≤ g := by rw [hg0]; exact hx0.size
  rw [← hg0] at og HS1 ⊢
  clear hg0
  go_wp2_with fail
  refine (numbers_any N A n ca B m cb V p cv st co va HSP.out _ (hr.below (hx0.trans xg)) (hq.below (hx0.trans xg)) (hv.below (hx0.trans xg))).mono ?_
  rintro e w3 ⟨b, rfl, hM, hb, hx⟩
  have hgb : g < b := by have := HS1.out; omega
  replace og := (og.ext hx).base hle
  replace hx0 := (hx0.trans xg).trans hx
  rw [← u64s_replicate, ← gl_none, ← nbS_zero (vw st co va m)] at og
  clear c0 c1 c2 c3 ba xg hx
  go_wp2_with (at_range; refine wpList_range_V rfl _ rfl b N (N * N) _ rfl hM ?_; intro w4 cnt hR hcnt hx4 hs4)
  go_frame
  have hbr : b < w3.heap.size := hM.lt
  replace og := og.ext hx4
  replace hx0 := hx0.trans hx4
  clear hM hx4 hs4 hcnt
  go_loopw [] (fun wr => ∃ (S : Nat → Nat → Bool) (cnt : Nat), RangeV wr b w3.heap.size (N * N) N (vw st co va m) S cnt ∧ Own wr w.heap.size 86 (.slice (some ⟨g, 0, none⟩) N N) (u64s (gl N (nbS (vw st co va m) S))) ∧ Ext w wr) (fun wr => wr.rangeLeft b w3.heap.size)
  case atStart => exact ⟨_, cnt, hR, og, hx0⟩
  case round =>
    rename World => wA
    clear hR og hx0
    obtain ⟨S, cnt, hR, og, hx0⟩ := hrel
    go_wp2_with (at_next; refine wpList_next_V rfl _ rfl b w3.heap.size (N * N) N _ S cnt hn32 rfl hR ?_ ?_)
    · intro hc0 hS
      rw [gl_congr (nbS_end hS)] at og
      clear hR hS
      go_wp2_with fail
      go_ret
      exact ⟨_, _, rfl, og, hx0⟩
    · intro i j x w5 cnt' hi hj hSij hMij hR' hlt hgr hsz hen
      clear hsz
      have HLE := Lib.hid hR.left_eq
      have hx5 := MapV.ge hgr hx0 (by omega)
      have o5 := og.grown hgr (by show some g ≠ _; simp; omega)
      have xg : Ext w5 (w5.alloc (.cells #[.int .i64 i, .int .i64 j] 95)) := (Ext.refl _).alloc _
      have bp := Blk.new w5 #[.int .i64 i, .int .i64 j] 95
      replace o5 := o5.ext xg
      have hR2 := hR'.ext xg
      have hx6 := hx5.trans xg
      have p0 := bp.cell 0 rfl
      have p1 := bp.cell 1 rfl
      clear hR og hx0 hx5
      by_cases e : i = j
      · subst e
        rw [← nbS_same] at o5
        have e' : ((i : Int) != i) = false := by simp
        go_wp2_with fail
        go_roundw
        case rel => exact ⟨_, _, hR2, o5, hx6⟩
        case measure => rw [hR2.left_eq, HLE.out]; exact hlt
      · have e' : ((i : Int) != j) = true := by simp; omega
        go_upto_region 5 with (fail)
        obtain ⟨w6, hw6⟩ : ∃ v : World, v = w5.alloc (.cells #[.int .i64 i, .int .i64 j] 95) := ⟨_, rfl⟩
        obtain ⟨pb, hpb⟩ : ∃ pb, pb = w5.heap.size := ⟨_, rfl⟩
        rw [← hw6, ← hpb] at bp p0 p1
        rw [← hw6] at o5 hR2 hx6
        rw [← hw6, ← hpb]
        clear hw6 hpb xg hen hR' hgr
        go_upto_region 6 with (fail)
        obtain ⟨pj, hsh, hor⟩ := or_one hn32 hj (nbS (vw st co va m) S i)
        obtain ⟨hc, hf⟩ := o5.at_ i hi
        rw [u64s_get (by rw [gl_length]; exact hi), gl_at _ hi] at hc
        obtain ⟨m1, hm1⟩ : ∃ m1, m1 = msk N (nbS (vw st co va m) S i) := ⟨_, rfl⟩
        obtain ⟨m2, hm2⟩ : ∃ m2, m2 = msk N (fun b => nbS (vw st co va m) S i b || decide (b = j)) := ⟨_, rfl⟩
        rw [← hm1] at hc hor
        rw [← hm2] at hor
        have HM2 := Lib.hid hm2
        clear hm1 hm2 hf
        refine wp_region_T (cs := []) [0, 1, 2, 3, 4, 5, 6, 7, 8, 9] [10] [] [] (fun _ _ => False) (fun _ _ _ => True) (by kernel_rfl) (by kernel_rfl) (fun _ _ _ _ _ _ => trivial) ?_
        refine' wpT_det (o := ⟨some 20, Op.move (Operand.tmp 3), 81, "l05_sparse.go:199", #[], none⟩) rfl (by rfl) (by rfl) (fun w' hw' => ?_) ?_; rotate_left
        · go_simp <;> first | rfl | exact ⟨rfl, rfl⟩
        simp only [Act.put, List.setIfInBounds_toArray, List.set_cons_zero, List.set_cons_succ]
        refine' wpT_det (o := ⟨some 21, Op.fieldAddr 95 (Operand.tmp 4) 0, 0, "l05_sparse.go:199", #[], none⟩) rfl (by rfl) (by rfl) (fun w' hw' => ?_) ?_; rotate_left
        · go_simp <;> first | rfl | exact ⟨rfl, rfl⟩
        simp only [Act.put, List.setIfInBounds_toArray, List.set_cons_zero, List.set_cons_succ]
        refine' wpT_det (o := ⟨some 22, Op.load 2 (Operand.tmp 21), 2, "l05_sparse.go:199", #[{ on := 1, ground := Ground.data }], none⟩) rfl (by rfl) (by rfl) (fun w' hw' => ?_) ?_; rotate_left
        · have p0_ := Ext.cell hw' p0; have p1_ := Ext.cell hw' p1; have hc_ := Ext.cell hw' hc; go_simp <;> first | rfl | exact ⟨rfl, rfl⟩
        simp only [Act.put, List.setIfInBounds_toArray, List.set_cons_zero, List.set_cons_succ]
        refine' wpT_det (o := ⟨some 23, Op.indexAddr 81 (Operand.tmp 20) (Operand.tmp 22), 0, "l05_sparse.go:199", #[{ on := 0, ground := Ground.data }, { on := 2, ground := Ground.data }], none⟩) rfl (by rfl) (by rfl) (fun w' hw' => ?_) ?_; rotate_left
        · go_simp <;> first | rfl | exact ⟨rfl, rfl⟩
        simp only [Act.put, List.setIfInBounds_toArray, List.set_cons_zero, List.set_cons_succ]
        refine' wpT_det (o := ⟨some 24, Op.load 86 (Operand.tmp 23), 86, "l05_sparse.go:199", #[{ on := 3, ground := Ground.data }], none⟩) rfl (by rfl) (by rfl) (fun w' hw' => ?_) ?_; rotate_left
        · have p0_ := Ext.cell hw' p0; have p1_ := Ext.cell hw' p1; have hc_ := Ext.cell hw' hc; go_simp <;> first | rfl | exact ⟨rfl, rfl⟩
        simp only [Act.put, List.setIfInBounds_toArray, List.set_cons_zero, List.set_cons_succ]
        refine' wpT_det (o := ⟨some 25, Op.fieldAddr 95 (Operand.tmp 4) 1, 0, "l05_sparse.go:199", #[], none⟩) rfl (by rfl) (by rfl) (fun w' hw' => ?_) ?_; rotate_left
        · go_simp <;> first | rfl | exact ⟨rfl, rfl⟩
        simp only [Act.put, List.setIfInBounds_toArray, List.set_cons_zero, List.set_cons_succ]
        refine' wpT_det (o := ⟨some 26, Op.load 2 (Operand.tmp 25), 2, "l05_sparse.go:199", #[{ on := 5, ground := Ground.data }], none⟩) rfl (by rfl) (by rfl) (fun w' hw' => ?_) ?_; rotate_left
        · have p0_ := Ext.cell hw' p0; have p1_ := Ext.cell hw' p1; have hc_ := Ext.cell hw' hc; go_simp <;> first | rfl | exact ⟨rfl, rfl⟩
        simp only [Act.put, List.setIfInBounds_toArray, List.set_cons_zero, List.set_cons_succ]
        refine' wpT_det (o := ⟨some 27, Op.binOp BinOp.shl 86 (Operand.const (Value.int IntKind.u64 1)) (Operand.tmp 26) 2, 86, "l05_sparse.go:199", #[{ on := 6, ground := Ground.data }], none⟩) rfl (by rfl) (by rfl) (fun w' hw' => ?_) ?_; rotate_left
        · go_simp <;> first | rfl | exact ⟨rfl, rfl⟩
        simp only [Act.put, List.setIfInBounds_toArray, List.set_cons_zero, List.set_cons_succ]
        refine' wpT_det (o := ⟨some 28, Op.binOp BinOp.or 86 (Operand.tmp 24) (Operand.tmp 27) 86, 86, "l05_sparse.go:199", #[{ on := 4, ground := Ground.data }, { on := 7, ground := Ground.data }], none⟩) rfl (by rfl) (by rfl) (fun w' hw' => ?_) ?_; rotate_left
        · go_simp <;> first | rfl | exact ⟨rfl, rfl⟩
        simp only [Act.put, List.setIfInBounds_toArray, List.set_cons_zero, List.set_cons_succ]
        refine' wpT_det (o := ⟨some 29, Op.indexAddr 81 (Operand.tmp 20) (Operand.tmp 22), 0, "l05_sparse.go:199", #[{ on := 0, ground := Ground.data }, { on := 2, ground := Ground.data }, { on := 0, ground := Ground.phase }, { on := 1, ground := Ground.phase }, { on := 2, ground := Ground.phase }, { on := 3, ground := Ground.phase }, { on := 4, ground := Ground.phase }, { on := 5, ground := Ground.phase }, { on := 6, ground := Ground.phase }, { on := 7, ground := Ground.phase }, { on := 8, ground := Ground.phase }], none⟩) rfl (by rfl) (by rfl) (fun w' hw' => ?_) ?_; rotate_left
        · go_simp <;> first | rfl | exact ⟨rfl, rfl⟩
        simp only [Act.put, List.setIfInBounds_toArray, List.set_cons_zero, List.set_cons_succ]
        refine wpT_nil (fun w7 hw' hF => ?_)
        show wpList _ _ _ [(⟨none, Op.store 86 (Operand.tmp 29) (Operand.tmp 28), 0, "l05_sparse.go:199", #[{ on := 9, ground := Ground.data }, { on := 8, ground := Ground.data }, { on := 0, ground := Ground.phase }, { on := 1, ground := Ground.phase }, { on := 2, ground := Ground.phase }, { on := 3, ground := Ground.phase }, { on := 4, ground := Ground.phase }, { on := 5, ground := Ground.phase }, { on := 6, ground := Ground.phase }, { on := 7, ground := Ground.phase }, { on := 8, ground := Ground.phase }], none⟩ : Oper)] _ _
        have hx := hw'.undrew
        clear hF hw' hc
        replace o5 := o5.ext hx
        replace hR2 := hR2.ext hx
        replace hx6 := hx6.trans hx
        replace bp := bp.ext hx
        clear hx p0 p1
        obtain ⟨hc, hf⟩ := o5.at_ i hi
        rw [u64s_get (by rw [gl_length]; exact hi), gl_at _ hi] at hc
        obtain ⟨s1, s2⟩ := o5.stored i (.int .u64 (m2 : Int))
        rw [← u64s_set, gl_set hi (B' := nb1 (nbS (vw st co va m) S) i j) (fun a b _ _ ha => if_neg ha) (HM2.out.trans (msk_congr fun b _ => (if_pos rfl).symm))] at s1
        have bp2 : Blk (w7.setCell ⟨g, i, none⟩ (.int .u64 (m2 : Int))) pb #[.int .i64 i, .int .i64 j] 95 := bp.wr s2 o5 (by decide)
        have hR3 := hR2.kept s2 (by show some b ≠ some g; simp; omega) (by show some w3.heap.size ≠ some g; simp; omega)
        have hx7 := MapV.ge s2 hx6 hle
        go_upto_region 7 with (fail)
        obtain ⟨w8, hw8⟩ : ∃ v : World, v = w7.setCell ⟨g, i, none⟩ (.int .u64 (m2 : Int)) := ⟨_, rfl⟩
        rw [← hw8] at s1 bp2 hR3 hx7 ⊢
        clear hw8 o5 hR2 hx6 bp s2 hc hf HM2 hsh hor
        have o5 := s1
        have bp := bp2
        have hR2 := hR3
        have hx6 := hx7
        have p0 := bp.cell 0 rfl
        have p1 := bp.cell 1 rfl
        clear s1 bp2 hR3 hx7
        obtain ⟨pj, hsh, hor⟩ := or_one hn32 hi (nb1 (nbS (vw st co va m) S) i j j)
        obtain ⟨hc, hf⟩ := o5.at_ j hj
        rw [u64s_get (by rw [gl_length]; exact hj), gl_at _ hj] at hc
        obtain ⟨m1, hm1⟩ : ∃ m1, m1 = msk N (nb1 (nbS (vw st co va m) S) i j j) := ⟨_, rfl⟩
        obtain ⟨m2, hm2⟩ : ∃ m2, m2 = msk N (fun b => nb1 (nbS (vw st co va m) S) i j j b || decide (b = i)) := ⟨_, rfl⟩
        rw [← hm1] at hc hor
        rw [← hm2] at hor
        have HM2 := Lib.hid hm2
        clear hm1 hm2 hf
        refine wp_region_T (cs := []) [0, 1, 2, 3, 4, 5, 6, 7, 8, 9] [10] [] [] (fun _ _ => False) (fun _ _ _ => True) (by kernel_rfl) (by kernel_rfl) (fun _ _ _ _ _ _ => trivial) ?_
        refine' wpT_det (o := ⟨some 30, Op.move (Operand.tmp 3), 81, "l05_sparse.go:200", #[], none⟩) rfl (by rfl) (by rfl) (fun w' hw' => ?_) ?_; rotate_left
        · go_simp <;> first | rfl | exact ⟨rfl, rfl⟩
        simp only [Act.put, List.setIfInBounds_toArray, List.set_cons_zero, List.set_cons_succ]
        refine' wpT_det (o := ⟨some 31, Op.fieldAddr 95 (Operand.tmp 4) 1, 0, "l05_sparse.go:200", #[], none⟩) rfl (by rfl) (by rfl) (fun w' hw' => ?_) ?_; rotate_left
        · go_simp <;> first | rfl | exact ⟨rfl, rfl⟩
        simp only [Act.put, List.setIfInBounds_toArray, List.set_cons_zero, List.set_cons_succ]
        refine' wpT_det (o := ⟨some 32, Op.load 2 (Operand.tmp 31), 2, "l05_sparse.go:200", #[{ on := 1, ground := Ground.data }], none⟩) rfl (by rfl) (by rfl) (fun w' hw' => ?_) ?_; rotate_left
        · have p0_ := Ext.cell hw' p0; have p1_ := Ext.cell hw' p1; have hc_ := Ext.cell hw' hc; go_simp <;> first | rfl | exact ⟨rfl, rfl⟩
        simp only [Act.put, List.setIfInBounds_toArray, List.set_cons_zero, List.set_cons_succ]
        refine' wpT_det (o := ⟨some 33, Op.indexAddr 81 (Operand.tmp 30) (Operand.tmp 32), 0, "l05_sparse.go:200", #[{ on := 0, ground := Ground.data }, { on := 2, ground := Ground.data }], none⟩) rfl (by rfl) (by rfl) (fun w' hw' => ?_) ?_; rotate_left
        · go_simp <;> first | rfl | exact ⟨rfl, rfl⟩
        simp only [Act.put, List.setIfInBounds_toArray, List.set_cons_zero, List.set_cons_succ]
        refine' wpT_det (o := ⟨some 34, Op.load 86 (Operand.tmp 33), 86, "l05_sparse.go:200", #[{ on := 3, ground := Ground.data }], none⟩) rfl (by rfl) (by rfl) (fun w' hw' => ?_) ?_; rotate_left
        · have p0_ := Ext.cell hw' p0; have p1_ := Ext.cell hw' p1; have hc_ := Ext.cell hw' hc; go_simp <;> first | rfl | exact ⟨rfl, rfl⟩
        simp only [Act.put, List.setIfInBounds_toArray, List.set_cons_zero, List.set_cons_succ]
        refine' wpT_det (o := ⟨some 35, Op.fieldAddr 95 (Operand.tmp 4) 0, 0, "l05_sparse.go:200", #[], none⟩) rfl (by rfl) (by rfl) (fun w' hw' => ?_) ?_; rotate_left
        · go_simp <;> first | rfl | exact ⟨rfl, rfl⟩
        simp only [Act.put, List.setIfInBounds_toArray, List.set_cons_zero, List.set_cons_succ]
        refine' wpT_det (o := ⟨some 36, Op.load 2 (Operand.tmp 35), 2, "l05_sparse.go:200", #[{ on := 5, ground := Ground.data }], none⟩) rfl (by rfl) (by rfl) (fun w' hw' => ?_) ?_; rotate_left
        · have p0_ := Ext.cell hw' p0; have p1_ := Ext.cell hw' p1; have hc_ := Ext.cell hw' hc; go_simp <;> first | rfl | exact ⟨rfl, rfl⟩
        simp only [Act.put, List.setIfInBounds_toArray, List.set_cons_zero, List.set_cons_succ]
        refine' wpT_det (o := ⟨some 37, Op.binOp BinOp.shl 86 (Operand.const (Value.int IntKind.u64 1)) (Operand.tmp 36) 2, 86, "l05_sparse.go:200", #[{ on := 6, ground := Ground.data }], none⟩) rfl (by rfl) (by rfl) (fun w' hw' => ?_) ?_; rotate_left
        · go_simp <;> first | rfl | exact ⟨rfl, rfl⟩
        simp only [Act.put, List.setIfInBounds_toArray, List.set_cons_zero, List.set_cons_succ]
        refine' wpT_det (o := ⟨some 38, Op.binOp BinOp.or 86 (Operand.tmp 34) (Operand.tmp 37) 86, 86, "l05_sparse.go:200", #[{ on := 4, ground := Ground.data }, { on := 7, ground := Ground.data }], none⟩) rfl (by rfl) (by rfl) (fun w' hw' => ?_) ?_; rotate_left
        · go_simp <;> first | rfl | exact ⟨rfl, rfl⟩
        simp only [Act.put, List.setIfInBounds_toArray, List.set_cons_zero, List.set_cons_succ]
        refine' wpT_det (o := ⟨some 39, Op.indexAddr 81 (Operand.tmp 30) (Operand.tmp 32), 0, "l05_sparse.go:200", #[{ on := 0, ground := Ground.data }, { on := 2, ground := Ground.data }, { on := 0, ground := Ground.phase }, { on := 1, ground := Ground.phase }, { on := 2, ground := Ground.phase }, { on := 3, ground := Ground.phase }, { on := 4, ground := Ground.phase }, { on := 5, ground := Ground.phase }, { on := 6, ground := Ground.phase }, { on := 7, ground := Ground.phase }, { on := 8, ground := Ground.phase }], none⟩) rfl (by rfl) (by rfl) (fun w' hw' => ?_) ?_; rotate_left
        · go_simp <;> first | rfl | exact ⟨rfl, rfl⟩
        simp only [Act.put, List.setIfInBounds_toArray, List.set_cons_zero, List.set_cons_succ]
        refine wpT_nil (fun w9 hw' hF => ?_)
        show wpList _ _ _ [(⟨none, Op.store 86 (Operand.tmp 39) (Operand.tmp 38), 0, "l05_sparse.go:200", #[{ on := 9, ground := Ground.data }, { on := 8, ground := Ground.data }, { on := 0, ground := Ground.phase }, { on := 1, ground := Ground.phase }, { on := 2, ground := Ground.phase }, { on := 3, ground := Ground.phase }, { on := 4, ground := Ground.phase }, { on := 5, ground := Ground.phase }, { on := 6, ground := Ground.phase }, { on := 7, ground := Ground.phase }, { on := 8, ground := Ground.phase }], none⟩ : Oper)] _ _
        have hx := hw'.undrew
        clear hF hw' hc
        replace o5 := o5.ext hx
        replace hR2 := hR2.ext hx
        replace hx6 := hx6.trans hx
        replace bp := bp.ext hx
        clear hx p0 p1
        obtain ⟨hc, hf⟩ := o5.at_ j hj
        rw [u64s_get (by rw [gl_length]; exact hj), gl_at _ hj] at hc
        obtain ⟨s1, s2⟩ := o5.stored j (.int .u64 (m2 : Int))
        rw [← u64s_set, gl_set hj (B' := nb1 (nb1 (nbS (vw st co va m) S) i j) j i) (fun a b _ _ ha => if_neg ha) (HM2.out.trans (msk_congr fun b _ => (if_pos rfl).symm))] at s1
        have bp2 : Blk (w9.setCell ⟨g, j, none⟩ (.int .u64 (m2 : Int))) pb #[.int .i64 i, .int .i64 j] 95 := bp.wr s2 o5 (by decide)
        have hR3 := hR2.kept s2 (by show some b ≠ some g; simp; omega) (by show some w3.heap.size ≠ some g; simp; omega)
        have hx7 := MapV.ge s2 hx6 hle
        rw [gl_congr (nbS_step e (by rw [hMij]; rfl))] at s1
        clear o5 hR2 hx6 bp bp2
        go_wp2_with fail
        go_roundw
        case rel => exact ⟨_, _, hR3, s1, hx7⟩
        case measure => rw [hR3.left_eq, HLE.out]; exact hlt

end Go.Proofs.Ytkifpligpobiaaa
