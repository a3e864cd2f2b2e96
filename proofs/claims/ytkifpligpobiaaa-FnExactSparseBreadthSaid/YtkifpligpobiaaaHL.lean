
/- The lowest degree (parts of H8, H16 and H17, so that a claim stays small). -/

import Derived.Test.YtkifpligpobiaaaH4

import Derived.Test.YtkifpligpobiaaaH14
set_option linter.unusedVariables false
set_option linter.unusedSimpArgs false

namespace Go.Proofs.Ytkifpligpobiaaa

open Go.RowKit


theorem Own.same {w w' : World} {base : Nat} {e : TypeId} {v : Value} {vs : List Value} (h : Own w base e v vs) (hk : ∀ k, v.ownBlock = some k → w'.heap[k]? = w.heap[k]?) : Own w' base e v vs := by
  refine ⟨⟨h.row.1, ?_⟩, h.small⟩
  rcases h.row.2 with h0 | ⟨g, cap, cur, rfl, hb, hg, h1⟩
  · exact .inl h0
  · exact .inr ⟨g, cap, cur, rfl, hb, (hk g rfl).trans hg, h1⟩
def gnL (n : Nat) (S : Nat → Bool) : List Bool := (List.range n).map S
theorem gnL_length (n : Nat) (S : Nat → Bool) : (gnL n S).length = n := by simp [gnL]
theorem gnL_at {n i : Nat} (S : Nat → Bool) (h : i < n) : rdb (gnL n S) (i : Nat) = S i := by simp [rdb, gnL, h]
theorem gnL_set {n i : Nat} {S S' : Nat → Bool} (hi : i < n) (h1 : ∀ a, a ≠ i → S' a = S a) {x : Bool} (hx : S' i = x) : (gnL n S).set i x = gnL n S' := by
  apply List.ext_getElem
  · simp [gnL]
  intro j h2 h3
  rw [List.getElem_set]
  simp only [gnL, List.getElem_map, List.getElem_range]
  split
  · rename_i e
    subst e
    exact hx.symm
  · rename_i e
    exact (h1 j (fun e' => e e'.symm)).symm
theorem gnL_none (n : Nat) : gnL n (fun _ => false) = List.replicate n false := by simp [gnL, List.map_const']


theorem shl64' {n : Nat} (h1 : 1 ≤ n) (h : n ≤ 32) : IntKind.u64.wrap ((2 : Int) ^ n) = ((2 ^ n : Nat) : Int) := by
  have h1 : 2 ^ n ≤ 2 ^ 32 := Nat.pow_le_pow_right (by omega) h
  have e : ((2 ^ n : Nat) : Int) = (2 : Int) ^ n := by rw [Int.natCast_pow]; rfl
  rw [← e]
  obtain ⟨q, hq⟩ : ∃ q, q = 2 ^ n := ⟨_, rfl⟩
  rw [← hq] at h1 ⊢
  have h2 : q ≤ 4294967296 := h1
  rw [IntKind.wrap_u64]
  omega
theorem all_sub (n : Nat) (h : n ≤ 32) : IntKind.u64.wrap ((2 : Int) ^ n - 1) = ((msk n (fun _ => true) : Nat) : Int) := by
  have e : ((2 ^ n : Nat) : Int) = (2 : Int) ^ n := by rw [Int.natCast_pow]; rfl
  rw [← msk_all, ← e]
  have h1 : 2 ^ n ≤ 2 ^ 32 := Nat.pow_le_pow_right (by omega) h
  have h0 : 0 < 2 ^ n := Nat.two_pow_pos n
  obtain ⟨q, hq⟩ : ∃ q, q = 2 ^ n := ⟨_, rfl⟩
  rw [← hq] at h1 h0 ⊢
  have h2 : q ≤ 4294967296 := h1
  rw [IntKind.wrap_u64]
  omega

theorem msk_nil' {n : Nat} {f : Nat → Bool} (h : lsB n f = []) : msk n f = 0 := by
  rw [← msk_false n]
  apply msk_congr
  intro k hk
  cases hf : f k with
  | false => rfl
  | true =>
    have : k ∈ lsB n f := lsB_mem.2 ⟨hk, hf⟩
    rw [h] at this
    cases this

def lowI : Option Nat → Int
  | some r => (r : Int)
  | none => -1

set_option maxRecDepth 20000 in
set_option maxHeartbeats 8000000 in
theorem l05Lowest_any (A : Option Addr) (ca : Nat) (G : Option Addr) (cg n : Nat) (ds : List Int) (S : Nat → Bool) (deg : Nat → Nat) (hn : n ≤ 32) (w : World) (hr : Rds w A n (ints ds)) (hg : Rds w G n (bools (gnL n fun a => !S a))) (hd : Hid (∀ i, i < n → rd ds i = (deg i : Int))) :
    Calls Try.prog 97 #[.slice A n ca, .slice G n cg] w fun e w' => e = .returned (.int .i64 (lowI (lowB deg (lsB n S)))) ∧ Ext w w' := by
  go_enter Try.func97, Try.ntmps97
  go_upto_region 1 with (fail)
  go_wp2_with fail
  go_loopw [5, 9] (fun u v wr => ∃ k : Nat, k ≤ n ∧ v = .int .i64 k ∧ u = .int .i64 (lowI (lowB deg (lsB k S))) ∧ Ext w wr) (fun _ v _ => n - (intOf v).toNat)
  case atStart => exact ⟨0, Nat.zero_le _, rfl, rfl, Ext.refl _⟩
  case round =>
    rename World => wA
    obtain ⟨k, hk, rfl, rfl, hx⟩ := hrel
    by_cases hlt : k < n
    · have g1 : IntKind.i64.wrap ((k : Int) + 1) = (k : Int) + 1 := IntWalk.i64_in _ (by omega)
      have hkI : (k : Int) < n := by omega
      obtain ⟨ag, hG, hc2⟩ := (hg.below hx).boolN k hlt
      subst hG
      rw [gnL_at _ hlt] at hc2
      obtain ⟨aa, hA, hc1⟩ := (hr.below hx).intN k hlt
      subst hA
      rw [hd.out k hlt] at hc1
      cases hs : S k with
      | false =>
        rw [hs] at hc2
        simp only [Bool.not_false] at hc2
        have HE := Lib.hid (lsB_no (f := S) hs)
        clear hs
        obtain ⟨z, hz⟩ : ∃ z, z = lowI (lowB deg (lsB k S)) := ⟨_, rfl⟩
        rw [← HE.out] at hz
        rw [← HE.out, ← hz]
        have HZ := Lib.hid hz
        clear hz
        go_wp2_with fail
        refine wp_region_T (cs := []) [0, 1, 2, 3, 4, 5, 6, 7, 8, 9, 10, 11, 12, 13, 14, 15, 16, 17, 18, 19] [] [] [] (fun _ _ => False) (fun _ _ _ => True) (by kernel_rfl) (by kernel_rfl) (fun _ _ _ _ _ _ => trivial) ?_
        refine' wpT_det (o := ⟨some 12, Op.move (Operand.tmp 1), 69, "l05_sparse.go:252", #[], none⟩) rfl (by rfl) (by rfl) (fun w' hw' => ?_) ?_; rotate_left
        · go_simp <;> first | rfl | exact ⟨rfl, rfl⟩
        simp only [Act.put, List.setIfInBounds_toArray, List.set_cons_zero, List.set_cons_succ]
        refine' wpT_det (o := ⟨some 13, Op.move (Operand.tmp 6), 3, "l05_sparse.go:252", #[], none⟩) rfl (by rfl) (by rfl) (fun w' hw' => ?_) ?_; rotate_left
        · go_simp <;> first | rfl | exact ⟨rfl, rfl⟩
        simp only [Act.put, List.setIfInBounds_toArray, List.set_cons_zero, List.set_cons_succ]
        refine' wpT_det (o := ⟨some 14, Op.indexAddr 69 (Operand.tmp 12) (Operand.tmp 13), 0, "l05_sparse.go:252", #[{ on := 0, ground := Ground.data }, { on := 1, ground := Ground.data }], none⟩) rfl (by rfl) (by rfl) (fun w' hw' => ?_) ?_; rotate_left
        · go_simp <;> first | rfl | exact ⟨rfl, rfl⟩
        simp only [Act.put, List.setIfInBounds_toArray, List.set_cons_zero, List.set_cons_succ]
        refine' wpT_det (o := ⟨some 15, Op.load 4 (Operand.tmp 14), 4, "l05_sparse.go:252", #[{ on := 2, ground := Ground.data }], none⟩) rfl (by rfl) (by rfl) (fun w' hw' => ?_) ?_; rotate_left
        · have hc2_ := Ext.cell hw' hc2; go_simp <;> first | rfl | exact ⟨rfl, rfl⟩
        simp only [Act.put, List.setIfInBounds_toArray, List.set_cons_zero, List.set_cons_succ]
        refine' wpT_det (o := ⟨some 16, Op.unOp UnOp.not 4 (Operand.tmp 15), 4, "l05_sparse.go:252", #[{ on := 3, ground := Ground.data }], none⟩) rfl (by rfl) (by rfl) (fun w' hw' => ?_) ?_; rotate_left
        · go_simp <;> first | rfl | exact ⟨rfl, rfl⟩
        simp only [Act.put, List.setIfInBounds_toArray, List.set_cons_zero, List.set_cons_succ]
        refine' wpT_det (o := ⟨some 17, Op.move (Operand.tmp 16), 4, "l05_sparse.go:252", #[{ on := 4, ground := Ground.data }], none⟩) rfl (by rfl) (by rfl) (fun w' hw' => ?_) ?_; rotate_left
        · go_simp <;> first | rfl | exact ⟨rfl, rfl⟩
        simp only [Act.put, List.setIfInBounds_toArray, List.set_cons_zero, List.set_cons_succ]
        refine wpT_skip (o := ⟨some 18, Op.move (Operand.tmp 5), 3, "l05_sparse.go:252", #[{ on := 5, ground := Ground.guard }], some (5, true)⟩) rfl (by rfl) ?_
        simp only [Act.put, List.setIfInBounds_toArray, List.set_cons_zero, List.set_cons_succ]
        refine wpT_skip (o := ⟨some 19, Op.binOp BinOp.lss 3 (Operand.tmp 18) (Operand.const (Value.int IntKind.i64 0)) 3, 4, "l05_sparse.go:252", #[{ on := 6, ground := Ground.data }, { on := 5, ground := Ground.guard }], some (5, true)⟩) rfl (by rfl) ?_
        simp only [Act.put, List.setIfInBounds_toArray, List.set_cons_zero, List.set_cons_succ]
        refine wpT_skip (o := ⟨some 20, Op.move (Operand.tmp 19), 4, "l05_sparse.go:252", #[{ on := 7, ground := Ground.data }, { on := 5, ground := Ground.chain }, { on := 5, ground := Ground.guard }], some (5, true)⟩) rfl (by rfl) ?_
        simp only [Act.put, List.setIfInBounds_toArray, List.set_cons_zero, List.set_cons_succ]
        refine wpT_skip (o := ⟨some 21, Op.move (Operand.tmp 0), 22, "l05_sparse.go:252", #[{ on := 8, ground := Ground.guard }], some (8, false)⟩) rfl (by rfl) ?_
        simp only [Act.put, List.setIfInBounds_toArray, List.set_cons_zero, List.set_cons_succ]
        refine wpT_skip (o := ⟨some 22, Op.move (Operand.tmp 6), 3, "l05_sparse.go:252", #[{ on := 8, ground := Ground.guard }], some (8, false)⟩) rfl (by rfl) ?_
        simp only [Act.put, List.setIfInBounds_toArray, List.set_cons_zero, List.set_cons_succ]
        refine wpT_skip (o := ⟨some 23, Op.indexAddr 22 (Operand.tmp 21) (Operand.tmp 22), 0, "l05_sparse.go:252", #[{ on := 9, ground := Ground.data }, { on := 10, ground := Ground.data }, { on := 8, ground := Ground.guard }], some (8, false)⟩) rfl (by rfl) ?_
        simp only [Act.put, List.setIfInBounds_toArray, List.set_cons_zero, List.set_cons_succ]
        refine wpT_skip (o := ⟨some 24, Op.load 2 (Operand.tmp 23), 2, "l05_sparse.go:252", #[{ on := 11, ground := Ground.data }, { on := 8, ground := Ground.guard }], some (8, false)⟩) rfl (by rfl) ?_
        simp only [Act.put, List.setIfInBounds_toArray, List.set_cons_zero, List.set_cons_succ]
        refine wpT_skip (o := ⟨some 25, Op.move (Operand.tmp 0), 22, "l05_sparse.go:252", #[{ on := 8, ground := Ground.guard }], some (8, false)⟩) rfl (by rfl) ?_
        simp only [Act.put, List.setIfInBounds_toArray, List.set_cons_zero, List.set_cons_succ]
        refine wpT_skip (o := ⟨some 26, Op.move (Operand.tmp 5), 3, "l05_sparse.go:252", #[{ on := 8, ground := Ground.guard }], some (8, false)⟩) rfl (by rfl) ?_
        simp only [Act.put, List.setIfInBounds_toArray, List.set_cons_zero, List.set_cons_succ]
        refine wpT_skip (o := ⟨some 27, Op.indexAddr 22 (Operand.tmp 25) (Operand.tmp 26), 0, "l05_sparse.go:252", #[{ on := 13, ground := Ground.data }, { on := 14, ground := Ground.data }, { on := 8, ground := Ground.guard }], some (8, false)⟩) rfl (by rfl) ?_
        simp only [Act.put, List.setIfInBounds_toArray, List.set_cons_zero, List.set_cons_succ]
        refine wpT_skip (o := ⟨some 28, Op.load 2 (Operand.tmp 27), 2, "l05_sparse.go:252", #[{ on := 15, ground := Ground.data }, { on := 8, ground := Ground.guard }], some (8, false)⟩) rfl (by rfl) ?_
        simp only [Act.put, List.setIfInBounds_toArray, List.set_cons_zero, List.set_cons_succ]
        refine wpT_skip (o := ⟨some 29, Op.binOp BinOp.lss 2 (Operand.tmp 24) (Operand.tmp 28) 2, 4, "l05_sparse.go:252", #[{ on := 12, ground := Ground.data }, { on := 16, ground := Ground.data }, { on := 8, ground := Ground.guard }], some (8, false)⟩) rfl (by rfl) ?_
        simp only [Act.put, List.setIfInBounds_toArray, List.set_cons_zero, List.set_cons_succ]
        refine wpT_skip (o := ⟨some 30, Op.pick (Operand.tmp 20) (Operand.const (Value.bool true)) (Operand.tmp 29), 4, "l05_sparse.go:252", #[{ on := 8, ground := Ground.data }, { on := 17, ground := Ground.data }, { on := 5, ground := Ground.guard }], some (5, true)⟩) rfl (by rfl) ?_
        simp only [Act.put, List.setIfInBounds_toArray, List.set_cons_zero, List.set_cons_succ]
        refine' wpT_det (o := ⟨some 31, Op.pick (Operand.tmp 17) (Operand.tmp 30) (Operand.const (Value.bool false)), 4, "l05_sparse.go:252", #[{ on := 5, ground := Ground.data }, { on := 18, ground := Ground.data }], none⟩) rfl (by rfl) (by rfl) (fun w' hw' => ?_) ?_; rotate_left
        · go_simp <;> first | rfl | exact ⟨rfl, rfl⟩
        simp only [Act.put, List.setIfInBounds_toArray, List.set_cons_zero, List.set_cons_succ]
        refine wpT_nil (fun w5 hw' hF => ?_)
        refine wpList_nil ?_
        have hx2 := hw'.undrew
        go_wp2_with fail
        go_roundw
        case rel => exact ⟨k + 1, by omega, by go_num, by rw [HZ.out], hx.trans hx2⟩
        case measure => simp [intOf]; omega
      | true =>
        rw [hs] at hc2
        simp only [Bool.not_true] at hc2
        have HE : Hid (lowB deg (lsB (k + 1) S) = pick deg (lowB deg (lsB k S)) k) := by show _ = _; rw [lsB_yes hs, lowB_snoc]
        clear hs
        have hmem : ∀ m, lowB deg (lsB k S) = some m → m < k := by
          intro m hm
          rcases lowB_spec (deg := deg) (lsB_sorted k S) with ⟨_, h⟩ | ⟨r, h, hr', _⟩
          · rw [hm] at h; cases h
          · rw [hm] at h
            obtain rfl := Option.some.inj h
            exact (lsB_mem.1 hr').1
        cases hb : lowB deg (lsB k S) with
        | none =>
          rw [hb] at HE
          have HF : Hid (lowB deg (lsB (k + 1) S) = some k) := HE
          clear HE hb hmem
          simp only [lowI]
          go_wp2_with fail
          refine wp_region_T (cs := []) [0, 1, 2, 3, 4, 5, 6, 7, 8, 9, 10, 11, 12, 13, 14, 15, 16, 17, 18, 19] [] [] [] (fun _ _ => False) (fun _ _ _ => True) (by kernel_rfl) (by kernel_rfl) (fun _ _ _ _ _ _ => trivial) ?_
          refine' wpT_det (o := ⟨some 12, Op.move (Operand.tmp 1), 69, "l05_sparse.go:252", #[], none⟩) rfl (by rfl) (by rfl) (fun w' hw' => ?_) ?_; rotate_left
          · go_simp <;> first | rfl | exact ⟨rfl, rfl⟩
          simp only [Act.put, List.setIfInBounds_toArray, List.set_cons_zero, List.set_cons_succ]
          refine' wpT_det (o := ⟨some 13, Op.move (Operand.tmp 6), 3, "l05_sparse.go:252", #[], none⟩) rfl (by rfl) (by rfl) (fun w' hw' => ?_) ?_; rotate_left
          · go_simp <;> first | rfl | exact ⟨rfl, rfl⟩
          simp only [Act.put, List.setIfInBounds_toArray, List.set_cons_zero, List.set_cons_succ]
          refine' wpT_det (o := ⟨some 14, Op.indexAddr 69 (Operand.tmp 12) (Operand.tmp 13), 0, "l05_sparse.go:252", #[{ on := 0, ground := Ground.data }, { on := 1, ground := Ground.data }], none⟩) rfl (by rfl) (by rfl) (fun w' hw' => ?_) ?_; rotate_left
          · go_simp <;> first | rfl | exact ⟨rfl, rfl⟩
          simp only [Act.put, List.setIfInBounds_toArray, List.set_cons_zero, List.set_cons_succ]
          refine' wpT_det (o := ⟨some 15, Op.load 4 (Operand.tmp 14), 4, "l05_sparse.go:252", #[{ on := 2, ground := Ground.data }], none⟩) rfl (by rfl) (by rfl) (fun w' hw' => ?_) ?_; rotate_left
          · have hc2_ := Ext.cell hw' hc2; have hc1_ := Ext.cell hw' hc1; go_simp <;> first | rfl | exact ⟨rfl, rfl⟩
          simp only [Act.put, List.setIfInBounds_toArray, List.set_cons_zero, List.set_cons_succ]
          refine' wpT_det (o := ⟨some 16, Op.unOp UnOp.not 4 (Operand.tmp 15), 4, "l05_sparse.go:252", #[{ on := 3, ground := Ground.data }], none⟩) rfl (by rfl) (by rfl) (fun w' hw' => ?_) ?_; rotate_left
          · go_simp <;> first | rfl | exact ⟨rfl, rfl⟩
          simp only [Act.put, List.setIfInBounds_toArray, List.set_cons_zero, List.set_cons_succ]
          refine' wpT_det (o := ⟨some 17, Op.move (Operand.tmp 16), 4, "l05_sparse.go:252", #[{ on := 4, ground := Ground.data }], none⟩) rfl (by rfl) (by rfl) (fun w' hw' => ?_) ?_; rotate_left
          · go_simp <;> first | rfl | exact ⟨rfl, rfl⟩
          simp only [Act.put, List.setIfInBounds_toArray, List.set_cons_zero, List.set_cons_succ]
          refine' wpT_det (o := ⟨some 18, Op.move (Operand.tmp 5), 3, "l05_sparse.go:252", #[{ on := 5, ground := Ground.guard }], some (5, true)⟩) rfl (by rfl) (by rfl) (fun w' hw' => ?_) ?_; rotate_left
          · go_simp <;> first | rfl | exact ⟨rfl, rfl⟩
          simp only [Act.put, List.setIfInBounds_toArray, List.set_cons_zero, List.set_cons_succ]
          refine' wpT_det (o := ⟨some 19, Op.binOp BinOp.lss 3 (Operand.tmp 18) (Operand.const (Value.int IntKind.i64 0)) 3, 4, "l05_sparse.go:252", #[{ on := 6, ground := Ground.data }, { on := 5, ground := Ground.guard }], some (5, true)⟩) rfl (by rfl) (by rfl) (fun w' hw' => ?_) ?_; rotate_left
          · go_simp <;> first | rfl | exact ⟨rfl, rfl⟩
          simp only [Act.put, List.setIfInBounds_toArray, List.set_cons_zero, List.set_cons_succ]
          refine' wpT_det (o := ⟨some 20, Op.move (Operand.tmp 19), 4, "l05_sparse.go:252", #[{ on := 7, ground := Ground.data }, { on := 5, ground := Ground.chain }, { on := 5, ground := Ground.guard }], some (5, true)⟩) rfl (by rfl) (by rfl) (fun w' hw' => ?_) ?_; rotate_left
          · go_simp <;> first | rfl | exact ⟨rfl, rfl⟩
          simp only [Act.put, List.setIfInBounds_toArray, List.set_cons_zero, List.set_cons_succ]
          refine wpT_skip (o := ⟨some 21, Op.move (Operand.tmp 0), 22, "l05_sparse.go:252", #[{ on := 8, ground := Ground.guard }], some (8, false)⟩) rfl (by rfl) ?_
          simp only [Act.put, List.setIfInBounds_toArray, List.set_cons_zero, List.set_cons_succ]
          refine wpT_skip (o := ⟨some 22, Op.move (Operand.tmp 6), 3, "l05_sparse.go:252", #[{ on := 8, ground := Ground.guard }], some (8, false)⟩) rfl (by rfl) ?_
          simp only [Act.put, List.setIfInBounds_toArray, List.set_cons_zero, List.set_cons_succ]
          refine wpT_skip (o := ⟨some 23, Op.indexAddr 22 (Operand.tmp 21) (Operand.tmp 22), 0, "l05_sparse.go:252", #[{ on := 9, ground := Ground.data }, { on := 10, ground := Ground.data }, { on := 8, ground := Ground.guard }], some (8, false)⟩) rfl (by rfl) ?_
          simp only [Act.put, List.setIfInBounds_toArray, List.set_cons_zero, List.set_cons_succ]
          refine wpT_skip (o := ⟨some 24, Op.load 2 (Operand.tmp 23), 2, "l05_sparse.go:252", #[{ on := 11, ground := Ground.data }, { on := 8, ground := Ground.guard }], some (8, false)⟩) rfl (by rfl) ?_
          simp only [Act.put, List.setIfInBounds_toArray, List.set_cons_zero, List.set_cons_succ]
          refine wpT_skip (o := ⟨some 25, Op.move (Operand.tmp 0), 22, "l05_sparse.go:252", #[{ on := 8, ground := Ground.guard }], some (8, false)⟩) rfl (by rfl) ?_
          simp only [Act.put, List.setIfInBounds_toArray, List.set_cons_zero, List.set_cons_succ]
          refine wpT_skip (o := ⟨some 26, Op.move (Operand.tmp 5), 3, "l05_sparse.go:252", #[{ on := 8, ground := Ground.guard }], some (8, false)⟩) rfl (by rfl) ?_
          simp only [Act.put, List.setIfInBounds_toArray, List.set_cons_zero, List.set_cons_succ]
          refine wpT_skip (o := ⟨some 27, Op.indexAddr 22 (Operand.tmp 25) (Operand.tmp 26), 0, "l05_sparse.go:252", #[{ on := 13, ground := Ground.data }, { on := 14, ground := Ground.data }, { on := 8, ground := Ground.guard }], some (8, false)⟩) rfl (by rfl) ?_
          simp only [Act.put, List.setIfInBounds_toArray, List.set_cons_zero, List.set_cons_succ]
          refine wpT_skip (o := ⟨some 28, Op.load 2 (Operand.tmp 27), 2, "l05_sparse.go:252", #[{ on := 15, ground := Ground.data }, { on := 8, ground := Ground.guard }], some (8, false)⟩) rfl (by rfl) ?_
          simp only [Act.put, List.setIfInBounds_toArray, List.set_cons_zero, List.set_cons_succ]
          refine wpT_skip (o := ⟨some 29, Op.binOp BinOp.lss 2 (Operand.tmp 24) (Operand.tmp 28) 2, 4, "l05_sparse.go:252", #[{ on := 12, ground := Ground.data }, { on := 16, ground := Ground.data }, { on := 8, ground := Ground.guard }], some (8, false)⟩) rfl (by rfl) ?_
          simp only [Act.put, List.setIfInBounds_toArray, List.set_cons_zero, List.set_cons_succ]
          refine' wpT_det (o := ⟨some 30, Op.pick (Operand.tmp 20) (Operand.const (Value.bool true)) (Operand.tmp 29), 4, "l05_sparse.go:252", #[{ on := 8, ground := Ground.data }, { on := 17, ground := Ground.data }, { on := 5, ground := Ground.guard }], some (5, true)⟩) rfl (by rfl) (by rfl) (fun w' hw' => ?_) ?_; rotate_left
          · go_simp <;> first | rfl | exact ⟨rfl, rfl⟩
          simp only [Act.put, List.setIfInBounds_toArray, List.set_cons_zero, List.set_cons_succ]
          refine' wpT_det (o := ⟨some 31, Op.pick (Operand.tmp 17) (Operand.tmp 30) (Operand.const (Value.bool false)), 4, "l05_sparse.go:252", #[{ on := 5, ground := Ground.data }, { on := 18, ground := Ground.data }], none⟩) rfl (by rfl) (by rfl) (fun w' hw' => ?_) ?_; rotate_left
          · go_simp <;> first | rfl | exact ⟨rfl, rfl⟩
          simp only [Act.put, List.setIfInBounds_toArray, List.set_cons_zero, List.set_cons_succ]
          refine wpT_nil (fun w5 hw' hF => ?_)
          refine wpList_nil ?_
          have hx2 := hw'.undrew
          go_wp2_with fail
          go_roundw
          case rel => exact ⟨k + 1, by omega, by go_num, by rw [HF.out], hx.trans hx2⟩
          case measure => simp [intOf]; omega
        | some m =>
          have hmk := hmem m hb
          rw [hb] at HE
          have HF : Hid (lowB deg (lsB (k + 1) S) = if deg k < deg m then some k else some m) := HE
          clear HE hb hmem
          simp only [lowI]
          obtain ⟨aa', hA', hc3⟩ := (hr.below hx).intN m (by omega)
          obtain rfl := Option.some.inj hA'
          rw [hd.out m (by omega)] at hc3
          have hmI : (m : Int) < n := by omega
          have hm0 : ¬ (m : Int) < 0 := by omega
          have hm0' : decide ((m : Int) < 0) = false := decide_eq_false hm0
          obtain ⟨dk, hdk⟩ : ∃ dk, dk = deg k := ⟨_, rfl⟩
          obtain ⟨dm, hdm⟩ : ∃ dm, dm = deg m := ⟨_, rfl⟩
          rw [← hdk] at hc1 HF
          rw [← hdm] at hc3 HF
          clear hdk hdm hA'
          by_cases hdd : dk < dm
          · have hddI : (dk : Int) < dm := by omega
            have hdd' : decide ((dk : Int) < dm) = true := decide_eq_true hddI
            have HF2 : Hid (lowB deg (lsB (k + 1) S) = some k) := by show _ = _; rw [HF.out, if_pos hdd]
            clear HF
            go_wp2_with fail
            refine wp_region_T (cs := []) [0, 1, 2, 3, 4, 5, 6, 7, 8, 9, 10, 11, 12, 13, 14, 15, 16, 17, 18, 19] [] [] [] (fun _ _ => False) (fun _ _ _ => True) (by kernel_rfl) (by kernel_rfl) (fun _ _ _ _ _ _ => trivial) ?_
            refine' wpT_det (o := ⟨some 12, Op.move (Operand.tmp 1), 69, "l05_sparse.go:252", #[], none⟩) rfl (by rfl) (by rfl) (fun w' hw' => ?_) ?_; rotate_left
            · go_simp <;> first | rfl | exact ⟨rfl, rfl⟩
            simp only [Act.put, List.setIfInBounds_toArray, List.set_cons_zero, List.set_cons_succ]
            refine' wpT_det (o := ⟨some 13, Op.move (Operand.tmp 6), 3, "l05_sparse.go:252", #[], none⟩) rfl (by rfl) (by rfl) (fun w' hw' => ?_) ?_; rotate_left
            · go_simp <;> first | rfl | exact ⟨rfl, rfl⟩
            simp only [Act.put, List.setIfInBounds_toArray, List.set_cons_zero, List.set_cons_succ]
            refine' wpT_det (o := ⟨some 14, Op.indexAddr 69 (Operand.tmp 12) (Operand.tmp 13), 0, "l05_sparse.go:252", #[{ on := 0, ground := Ground.data }, { on := 1, ground := Ground.data }], none⟩) rfl (by rfl) (by rfl) (fun w' hw' => ?_) ?_; rotate_left
            · go_simp <;> first | rfl | exact ⟨rfl, rfl⟩
            simp only [Act.put, List.setIfInBounds_toArray, List.set_cons_zero, List.set_cons_succ]
            refine' wpT_det (o := ⟨some 15, Op.load 4 (Operand.tmp 14), 4, "l05_sparse.go:252", #[{ on := 2, ground := Ground.data }], none⟩) rfl (by rfl) (by rfl) (fun w' hw' => ?_) ?_; rotate_left
            · have hc2_ := Ext.cell hw' hc2; have hc1_ := Ext.cell hw' hc1; have hc3_ := Ext.cell hw' hc3; go_simp <;> first | rfl | exact ⟨rfl, rfl⟩
            simp only [Act.put, List.setIfInBounds_toArray, List.set_cons_zero, List.set_cons_succ]
            refine' wpT_det (o := ⟨some 16, Op.unOp UnOp.not 4 (Operand.tmp 15), 4, "l05_sparse.go:252", #[{ on := 3, ground := Ground.data }], none⟩) rfl (by rfl) (by rfl) (fun w' hw' => ?_) ?_; rotate_left
            · go_simp <;> first | rfl | exact ⟨rfl, rfl⟩
            simp only [Act.put, List.setIfInBounds_toArray, List.set_cons_zero, List.set_cons_succ]
            refine' wpT_det (o := ⟨some 17, Op.move (Operand.tmp 16), 4, "l05_sparse.go:252", #[{ on := 4, ground := Ground.data }], none⟩) rfl (by rfl) (by rfl) (fun w' hw' => ?_) ?_; rotate_left
            · go_simp <;> first | rfl | exact ⟨rfl, rfl⟩
            simp only [Act.put, List.setIfInBounds_toArray, List.set_cons_zero, List.set_cons_succ]
            refine' wpT_det (o := ⟨some 18, Op.move (Operand.tmp 5), 3, "l05_sparse.go:252", #[{ on := 5, ground := Ground.guard }], some (5, true)⟩) rfl (by rfl) (by rfl) (fun w' hw' => ?_) ?_; rotate_left
            · go_simp <;> first | rfl | exact ⟨rfl, rfl⟩
            simp only [Act.put, List.setIfInBounds_toArray, List.set_cons_zero, List.set_cons_succ]
            refine' wpT_det (o := ⟨some 19, Op.binOp BinOp.lss 3 (Operand.tmp 18) (Operand.const (Value.int IntKind.i64 0)) 3, 4, "l05_sparse.go:252", #[{ on := 6, ground := Ground.data }, { on := 5, ground := Ground.guard }], some (5, true)⟩) rfl (by rfl) (by rfl) (fun w' hw' => ?_) ?_; rotate_left
            · go_simp <;> first | rfl | exact ⟨rfl, rfl⟩
            simp only [Act.put, List.setIfInBounds_toArray, List.set_cons_zero, List.set_cons_succ]
            refine' wpT_det (o := ⟨some 20, Op.move (Operand.tmp 19), 4, "l05_sparse.go:252", #[{ on := 7, ground := Ground.data }, { on := 5, ground := Ground.chain }, { on := 5, ground := Ground.guard }], some (5, true)⟩) rfl (by rfl) (by rfl) (fun w' hw' => ?_) ?_; rotate_left
            · go_simp <;> first | rfl | exact ⟨rfl, rfl⟩
            simp only [Act.put, List.setIfInBounds_toArray, List.set_cons_zero, List.set_cons_succ]
            refine' wpT_det (o := ⟨some 21, Op.move (Operand.tmp 0), 22, "l05_sparse.go:252", #[{ on := 8, ground := Ground.guard }], some (8, false)⟩) rfl (by rfl) (by rfl) (fun w' hw' => ?_) ?_; rotate_left
            · go_simp <;> first | rfl | exact ⟨rfl, rfl⟩
            simp only [Act.put, List.setIfInBounds_toArray, List.set_cons_zero, List.set_cons_succ]
            refine' wpT_det (o := ⟨some 22, Op.move (Operand.tmp 6), 3, "l05_sparse.go:252", #[{ on := 8, ground := Ground.guard }], some (8, false)⟩) rfl (by rfl) (by rfl) (fun w' hw' => ?_) ?_; rotate_left
            · go_simp <;> first | rfl | exact ⟨rfl, rfl⟩
            simp only [Act.put, List.setIfInBounds_toArray, List.set_cons_zero, List.set_cons_succ]
            refine' wpT_det (o := ⟨some 23, Op.indexAddr 22 (Operand.tmp 21) (Operand.tmp 22), 0, "l05_sparse.go:252", #[{ on := 9, ground := Ground.data }, { on := 10, ground := Ground.data }, { on := 8, ground := Ground.guard }], some (8, false)⟩) rfl (by rfl) (by rfl) (fun w' hw' => ?_) ?_; rotate_left
            · go_simp <;> first | rfl | exact ⟨rfl, rfl⟩
            simp only [Act.put, List.setIfInBounds_toArray, List.set_cons_zero, List.set_cons_succ]
            refine' wpT_det (o := ⟨some 24, Op.load 2 (Operand.tmp 23), 2, "l05_sparse.go:252", #[{ on := 11, ground := Ground.data }, { on := 8, ground := Ground.guard }], some (8, false)⟩) rfl (by rfl) (by rfl) (fun w' hw' => ?_) ?_; rotate_left
            · have hc2_ := Ext.cell hw' hc2; have hc1_ := Ext.cell hw' hc1; have hc3_ := Ext.cell hw' hc3; go_simp <;> first | rfl | exact ⟨rfl, rfl⟩
            simp only [Act.put, List.setIfInBounds_toArray, List.set_cons_zero, List.set_cons_succ]
            refine' wpT_det (o := ⟨some 25, Op.move (Operand.tmp 0), 22, "l05_sparse.go:252", #[{ on := 8, ground := Ground.guard }], some (8, false)⟩) rfl (by rfl) (by rfl) (fun w' hw' => ?_) ?_; rotate_left
            · go_simp <;> first | rfl | exact ⟨rfl, rfl⟩
            simp only [Act.put, List.setIfInBounds_toArray, List.set_cons_zero, List.set_cons_succ]
            refine' wpT_det (o := ⟨some 26, Op.move (Operand.tmp 5), 3, "l05_sparse.go:252", #[{ on := 8, ground := Ground.guard }], some (8, false)⟩) rfl (by rfl) (by rfl) (fun w' hw' => ?_) ?_; rotate_left
            · go_simp <;> first | rfl | exact ⟨rfl, rfl⟩
            simp only [Act.put, List.setIfInBounds_toArray, List.set_cons_zero, List.set_cons_succ]
            refine' wpT_det (o := ⟨some 27, Op.indexAddr 22 (Operand.tmp 25) (Operand.tmp 26), 0, "l05_sparse.go:252", #[{ on := 13, ground := Ground.data }, { on := 14, ground := Ground.data }, { on := 8, ground := Ground.guard }], some (8, false)⟩) rfl (by rfl) (by rfl) (fun w' hw' => ?_) ?_; rotate_left
            · go_simp <;> first | rfl | exact ⟨rfl, rfl⟩
            simp only [Act.put, List.setIfInBounds_toArray, List.set_cons_zero, List.set_cons_succ]
            refine' wpT_det (o := ⟨some 28, Op.load 2 (Operand.tmp 27), 2, "l05_sparse.go:252", #[{ on := 15, ground := Ground.data }, { on := 8, ground := Ground.guard }], some (8, false)⟩) rfl (by rfl) (by rfl) (fun w' hw' => ?_) ?_; rotate_left
            · have hc2_ := Ext.cell hw' hc2; have hc1_ := Ext.cell hw' hc1; have hc3_ := Ext.cell hw' hc3; go_simp <;> first | rfl | exact ⟨rfl, rfl⟩
            simp only [Act.put, List.setIfInBounds_toArray, List.set_cons_zero, List.set_cons_succ]
            refine' wpT_det (o := ⟨some 29, Op.binOp BinOp.lss 2 (Operand.tmp 24) (Operand.tmp 28) 2, 4, "l05_sparse.go:252", #[{ on := 12, ground := Ground.data }, { on := 16, ground := Ground.data }, { on := 8, ground := Ground.guard }], some (8, false)⟩) rfl (by rfl) (by rfl) (fun w' hw' => ?_) ?_; rotate_left
            · go_simp <;> first | rfl | exact ⟨rfl, rfl⟩
            simp only [Act.put, List.setIfInBounds_toArray, List.set_cons_zero, List.set_cons_succ]
            refine' wpT_det (o := ⟨some 30, Op.pick (Operand.tmp 20) (Operand.const (Value.bool true)) (Operand.tmp 29), 4, "l05_sparse.go:252", #[{ on := 8, ground := Ground.data }, { on := 17, ground := Ground.data }, { on := 5, ground := Ground.guard }], some (5, true)⟩) rfl (by rfl) (by rfl) (fun w' hw' => ?_) ?_; rotate_left
            · go_simp <;> first | rfl | exact ⟨rfl, rfl⟩
            simp only [Act.put, List.setIfInBounds_toArray, List.set_cons_zero, List.set_cons_succ]
            refine' wpT_det (o := ⟨some 31, Op.pick (Operand.tmp 17) (Operand.tmp 30) (Operand.const (Value.bool false)), 4, "l05_sparse.go:252", #[{ on := 5, ground := Ground.data }, { on := 18, ground := Ground.data }], none⟩) rfl (by rfl) (by rfl) (fun w' hw' => ?_) ?_; rotate_left
            · go_simp <;> first | rfl | exact ⟨rfl, rfl⟩
            simp only [Act.put, List.setIfInBounds_toArray, List.set_cons_zero, List.set_cons_succ]
            refine wpT_nil (fun w5 hw' hF => ?_)
            refine wpList_nil ?_
            have hx2 := hw'.undrew
            go_wp2_with fail
            go_roundw
            case rel => exact ⟨k + 1, by omega, by go_num, by rw [HF2.out], hx.trans hx2⟩
            case measure => simp [intOf]; omega
          · have hddI : ¬ (dk : Int) < dm := by omega
            have hdd' : decide ((dk : Int) < dm) = false := decide_eq_false hddI
            have HF2 : Hid (lowB deg (lsB (k + 1) S) = some m) := by show _ = _; rw [HF.out, if_neg hdd]
            clear HF
            go_wp2_with fail
            refine wp_region_T (cs := []) [0, 1, 2, 3, 4, 5, 6, 7, 8, 9, 10, 11, 12, 13, 14, 15, 16, 17, 18, 19] [] [] [] (fun _ _ => False) (fun _ _ _ => True) (by kernel_rfl) (by kernel_rfl) (fun _ _ _ _ _ _ => trivial) ?_
            refine' wpT_det (o := ⟨some 12, Op.move (Operand.tmp 1), 69, "l05_sparse.go:252", #[], none⟩) rfl (by rfl) (by rfl) (fun w' hw' => ?_) ?_; rotate_left
            · go_simp <;> first | rfl | exact ⟨rfl, rfl⟩
            simp only [Act.put, List.setIfInBounds_toArray, List.set_cons_zero, List.set_cons_succ]
            refine' wpT_det (o := ⟨some 13, Op.move (Operand.tmp 6), 3, "l05_sparse.go:252", #[], none⟩) rfl (by rfl) (by rfl) (fun w' hw' => ?_) ?_; rotate_left
            · go_simp <;> first | rfl | exact ⟨rfl, rfl⟩
            simp only [Act.put, List.setIfInBounds_toArray, List.set_cons_zero, List.set_cons_succ]
            refine' wpT_det (o := ⟨some 14, Op.indexAddr 69 (Operand.tmp 12) (Operand.tmp 13), 0, "l05_sparse.go:252", #[{ on := 0, ground := Ground.data }, { on := 1, ground := Ground.data }], none⟩) rfl (by rfl) (by rfl) (fun w' hw' => ?_) ?_; rotate_left
            · go_simp <;> first | rfl | exact ⟨rfl, rfl⟩
            simp only [Act.put, List.setIfInBounds_toArray, List.set_cons_zero, List.set_cons_succ]
            refine' wpT_det (o := ⟨some 15, Op.load 4 (Operand.tmp 14), 4, "l05_sparse.go:252", #[{ on := 2, ground := Ground.data }], none⟩) rfl (by rfl) (by rfl) (fun w' hw' => ?_) ?_; rotate_left
            · have hc2_ := Ext.cell hw' hc2; have hc1_ := Ext.cell hw' hc1; have hc3_ := Ext.cell hw' hc3; go_simp <;> first | rfl | exact ⟨rfl, rfl⟩
            simp only [Act.put, List.setIfInBounds_toArray, List.set_cons_zero, List.set_cons_succ]
            refine' wpT_det (o := ⟨some 16, Op.unOp UnOp.not 4 (Operand.tmp 15), 4, "l05_sparse.go:252", #[{ on := 3, ground := Ground.data }], none⟩) rfl (by rfl) (by rfl) (fun w' hw' => ?_) ?_; rotate_left
            · go_simp <;> first | rfl | exact ⟨rfl, rfl⟩
            simp only [Act.put, List.setIfInBounds_toArray, List.set_cons_zero, List.set_cons_succ]
            refine' wpT_det (o := ⟨some 17, Op.move (Operand.tmp 16), 4, "l05_sparse.go:252", #[{ on := 4, ground := Ground.data }], none⟩) rfl (by rfl) (by rfl) (fun w' hw' => ?_) ?_; rotate_left
            · go_simp <;> first | rfl | exact ⟨rfl, rfl⟩
            simp only [Act.put, List.setIfInBounds_toArray, List.set_cons_zero, List.set_cons_succ]
            refine' wpT_det (o := ⟨some 18, Op.move (Operand.tmp 5), 3, "l05_sparse.go:252", #[{ on := 5, ground := Ground.guard }], some (5, true)⟩) rfl (by rfl) (by rfl) (fun w' hw' => ?_) ?_; rotate_left
            · go_simp <;> first | rfl | exact ⟨rfl, rfl⟩
            simp only [Act.put, List.setIfInBounds_toArray, List.set_cons_zero, List.set_cons_succ]
            refine' wpT_det (o := ⟨some 19, Op.binOp BinOp.lss 3 (Operand.tmp 18) (Operand.const (Value.int IntKind.i64 0)) 3, 4, "l05_sparse.go:252", #[{ on := 6, ground := Ground.data }, { on := 5, ground := Ground.guard }], some (5, true)⟩) rfl (by rfl) (by rfl) (fun w' hw' => ?_) ?_; rotate_left
            · go_simp <;> first | rfl | exact ⟨rfl, rfl⟩
            simp only [Act.put, List.setIfInBounds_toArray, List.set_cons_zero, List.set_cons_succ]
            refine' wpT_det (o := ⟨some 20, Op.move (Operand.tmp 19), 4, "l05_sparse.go:252", #[{ on := 7, ground := Ground.data }, { on := 5, ground := Ground.chain }, { on := 5, ground := Ground.guard }], some (5, true)⟩) rfl (by rfl) (by rfl) (fun w' hw' => ?_) ?_; rotate_left
            · go_simp <;> first | rfl | exact ⟨rfl, rfl⟩
            simp only [Act.put, List.setIfInBounds_toArray, List.set_cons_zero, List.set_cons_succ]
            refine' wpT_det (o := ⟨some 21, Op.move (Operand.tmp 0), 22, "l05_sparse.go:252", #[{ on := 8, ground := Ground.guard }], some (8, false)⟩) rfl (by rfl) (by rfl) (fun w' hw' => ?_) ?_; rotate_left
            · go_simp <;> first | rfl | exact ⟨rfl, rfl⟩
            simp only [Act.put, List.setIfInBounds_toArray, List.set_cons_zero, List.set_cons_succ]
            refine' wpT_det (o := ⟨some 22, Op.move (Operand.tmp 6), 3, "l05_sparse.go:252", #[{ on := 8, ground := Ground.guard }], some (8, false)⟩) rfl (by rfl) (by rfl) (fun w' hw' => ?_) ?_; rotate_left
            · go_simp <;> first | rfl | exact ⟨rfl, rfl⟩
            simp only [Act.put, List.setIfInBounds_toArray, List.set_cons_zero, List.set_cons_succ]
            refine' wpT_det (o := ⟨some 23, Op.indexAddr 22 (Operand.tmp 21) (Operand.tmp 22), 0, "l05_sparse.go:252", #[{ on := 9, ground := Ground.data }, { on := 10, ground := Ground.data }, { on := 8, ground := Ground.guard }], some (8, false)⟩) rfl (by rfl) (by rfl) (fun w' hw' => ?_) ?_; rotate_left
            · go_simp <;> first | rfl | exact ⟨rfl, rfl⟩
            simp only [Act.put, List.setIfInBounds_toArray, List.set_cons_zero, List.set_cons_succ]
            refine' wpT_det (o := ⟨some 24, Op.load 2 (Operand.tmp 23), 2, "l05_sparse.go:252", #[{ on := 11, ground := Ground.data }, { on := 8, ground := Ground.guard }], some (8, false)⟩) rfl (by rfl) (by rfl) (fun w' hw' => ?_) ?_; rotate_left
            · have hc2_ := Ext.cell hw' hc2; have hc1_ := Ext.cell hw' hc1; have hc3_ := Ext.cell hw' hc3; go_simp <;> first | rfl | exact ⟨rfl, rfl⟩
            simp only [Act.put, List.setIfInBounds_toArray, List.set_cons_zero, List.set_cons_succ]
            refine' wpT_det (o := ⟨some 25, Op.move (Operand.tmp 0), 22, "l05_sparse.go:252", #[{ on := 8, ground := Ground.guard }], some (8, false)⟩) rfl (by rfl) (by rfl) (fun w' hw' => ?_) ?_; rotate_left
            · go_simp <;> first | rfl | exact ⟨rfl, rfl⟩
            simp only [Act.put, List.setIfInBounds_toArray, List.set_cons_zero, List.set_cons_succ]
            refine' wpT_det (o := ⟨some 26, Op.move (Operand.tmp 5), 3, "l05_sparse.go:252", #[{ on := 8, ground := Ground.guard }], some (8, false)⟩) rfl (by rfl) (by rfl) (fun w' hw' => ?_) ?_; rotate_left
            · go_simp <;> first | rfl | exact ⟨rfl, rfl⟩
            simp only [Act.put, List.setIfInBounds_toArray, List.set_cons_zero, List.set_cons_succ]
            refine' wpT_det (o := ⟨some 27, Op.indexAddr 22 (Operand.tmp 25) (Operand.tmp 26), 0, "l05_sparse.go:252", #[{ on := 13, ground := Ground.data }, { on := 14, ground := Ground.data }, { on := 8, ground := Ground.guard }], some (8, false)⟩) rfl (by rfl) (by rfl) (fun w' hw' => ?_) ?_; rotate_left
            · go_simp <;> first | rfl | exact ⟨rfl, rfl⟩
            simp only [Act.put, List.setIfInBounds_toArray, List.set_cons_zero, List.set_cons_succ]
            refine' wpT_det (o := ⟨some 28, Op.load 2 (Operand.tmp 27), 2, "l05_sparse.go:252", #[{ on := 15, ground := Ground.data }, { on := 8, ground := Ground.guard }], some (8, false)⟩) rfl (by rfl) (by rfl) (fun w' hw' => ?_) ?_; rotate_left
            · have hc2_ := Ext.cell hw' hc2; have hc1_ := Ext.cell hw' hc1; have hc3_ := Ext.cell hw' hc3; go_simp <;> first | rfl | exact ⟨rfl, rfl⟩
            simp only [Act.put, List.setIfInBounds_toArray, List.set_cons_zero, List.set_cons_succ]
            refine' wpT_det (o := ⟨some 29, Op.binOp BinOp.lss 2 (Operand.tmp 24) (Operand.tmp 28) 2, 4, "l05_sparse.go:252", #[{ on := 12, ground := Ground.data }, { on := 16, ground := Ground.data }, { on := 8, ground := Ground.guard }], some (8, false)⟩) rfl (by rfl) (by rfl) (fun w' hw' => ?_) ?_; rotate_left
            · go_simp <;> first | rfl | exact ⟨rfl, rfl⟩
            simp only [Act.put, List.setIfInBounds_toArray, List.set_cons_zero, List.set_cons_succ]
            refine' wpT_det (o := ⟨some 30, Op.pick (Operand.tmp 20) (Operand.const (Value.bool true)) (Operand.tmp 29), 4, "l05_sparse.go:252", #[{ on := 8, ground := Ground.data }, { on := 17, ground := Ground.data }, { on := 5, ground := Ground.guard }], some (5, true)⟩) rfl (by rfl) (by rfl) (fun w' hw' => ?_) ?_; rotate_left
            · go_simp <;> first | rfl | exact ⟨rfl, rfl⟩
            simp only [Act.put, List.setIfInBounds_toArray, List.set_cons_zero, List.set_cons_succ]
            refine' wpT_det (o := ⟨some 31, Op.pick (Operand.tmp 17) (Operand.tmp 30) (Operand.const (Value.bool false)), 4, "l05_sparse.go:252", #[{ on := 5, ground := Ground.data }, { on := 18, ground := Ground.data }], none⟩) rfl (by rfl) (by rfl) (fun w' hw' => ?_) ?_; rotate_left
            · go_simp <;> first | rfl | exact ⟨rfl, rfl⟩
            simp only [Act.put, List.setIfInBounds_toArray, List.set_cons_zero, List.set_cons_succ]
            refine wpT_nil (fun w5 hw' hF => ?_)
            refine wpList_nil ?_
            have hx2 := hw'.undrew
            go_wp2_with fail
            go_roundw
            case rel => exact ⟨k + 1, by omega, by go_num, by rw [HF2.out], hx.trans hx2⟩
            case measure => simp [intOf]; omega
    · obtain rfl : k = n := by omega
      go_wp2_with fail
      go_ret
      exact ⟨rfl, hx⟩

end Go.Proofs.Ytkifpligpobiaaa
