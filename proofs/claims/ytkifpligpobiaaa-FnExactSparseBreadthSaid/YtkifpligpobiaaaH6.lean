
/- Rows of a graph taken out, the program. -/

import Derived.Test.YtkifpligpobiaaaH2
set_option linter.unusedVariables false
set_option linter.unusedSimpArgs false

namespace Go.Proofs.Ytkifpligpobiaaa

open Go.RowKit


theorem Own.above {w : World} {base : Nat} {e : TypeId} {v : Value} {vs : List Value} (h : Own w base e v vs) {g : Nat} (hg : g < base) : v.ownBlock ≠ some g := by
  intro hk
  have := (h.row.lt g hk).1
  omega
/-- Row i taken out, as far as the first q of its neighbours. -/
def parO (n : Nat) (B : Grf) (i q : Nat) : Grf := fun k j => if k ∈ (lsB n (B i)).take q then (B k j || B i j) && !(decide (j = i) || decide (j = k)) else B k j
theorem parO_zero (n : Nat) (B : Grf) (i : Nat) : parO n B i 0 = B := by
  funext k j
  unfold parO
  rw [if_neg (by simp)]
theorem take_next {l : List Nat} {q : Nat} (h : q < l.length) : l.take (q + 1) = l.take q ++ [l.getD q 0] := by
  rw [List.take_add_one]
  simp [h]
theorem take_not {l : List Nat} (hn : l.Nodup) {q : Nat} (h : q < l.length) : l.getD q 0 ∉ l.take q := by
  have e : l = l.take q ++ l[q] :: l.drop (q + 1) := by rw [List.getElem_cons_drop, List.take_append_drop]
  have hg : l.getD q 0 = l[q] := by simp [h]
  rw [hg]
  rw [e, List.nodup_append] at hn
  intro hm
  exact hn.2.2 _ hm _ List.mem_cons_self rfl
theorem parO_at {n : Nat} {B : Grf} {i q : Nat} (h : q < (lsB n (B i)).length) (j : Nat) : parO n B i q ((lsB n (B i)).getD q 0) j = B ((lsB n (B i)).getD q 0) j := if_neg (take_not (lsB_nodup n _) h)
theorem parO_new {n : Nat} {B : Grf} {i q : Nat} (h : q < (lsB n (B i)).length) (j : Nat) : parO n B i (q + 1) ((lsB n (B i)).getD q 0) j = ((B ((lsB n (B i)).getD q 0) j || B i j) && !(decide (j = i) || decide (j = (lsB n (B i)).getD q 0))) := by
  unfold parO
  rw [if_pos (by rw [take_next h]; simp)]
theorem parO_other {n : Nat} {B : Grf} {i q a : Nat} (h : q < (lsB n (B i)).length) (ha : a ≠ (lsB n (B i)).getD q 0) (b : Nat) : parO n B i (q + 1) a b = parO n B i q a b := by
  unfold parO
  rw [take_next h]
  by_cases h1 : a ∈ (lsB n (B i)).take q
  · rw [if_pos (by simp [h1]), if_pos h1]
  · rw [if_neg (by simp only [List.mem_append, List.mem_singleton]; exact fun e => e.elim h1 ha), if_neg h1]
theorem parO_end {n : Nat} {B : Grf} {i a : Nat} (ha : a < n) (hne : a ≠ i) (b : Nat) : outB B i a b = parO n B i (lsB n (B i)).length a b := by
  unfold outB parO
  rw [if_neg hne, List.take_length]
  cases h : B i a with
  | true =>
    rw [if_pos rfl, if_pos (lsB_mem.2 ⟨ha, h⟩)]
    cases decide (b = i) <;> cases decide (b = a) <;> simp
  | false =>
    rw [if_neg (by simp), if_neg (fun hm => by have := (lsB_mem.1 hm).2; rw [h] at this; cases this)]
theorem out_mask {n i k : Nat} (hn : n ≤ 32) (hi : i < n) (hk : k < n) (f h : Nat → Bool) : ∃ pi pk m1 m2 : Nat, IntKind.u64.wrap ((2 : Int) ^ i) = (pi : Int) ∧ IntKind.u64.wrap ((2 : Int) ^ k) = (pk : Int) ∧ bits .or .u64 ((msk n f : Nat) : Int) ((msk n h : Nat) : Int) = (m1 : Int) ∧ bits .or .u64 (pi : Int) (pk : Int) = (m2 : Int) ∧ bits .andNot .u64 (m1 : Int) (m2 : Int) = ((msk n (fun j => (f j || h j) && !(decide (j = i) || decide (j = k))) : Nat) : Int) :=
  ⟨2 ^ i, 2 ^ k, _, msk n (fun j => decide (j = i) || decide (j = k)), shl64 (by omega), shl64 (by omega), u64_or_msk hn f h, by rw [msk_one hi, msk_one hk]; exact u64_or_msk hn _ _, u64_not hn _ _⟩

set_option maxRecDepth 20000 in
set_option maxHeartbeats 8000000 in
theorem takeOut_any (base g N c i : Nat) (B : Grf) (hn32 : N ≤ 32) (hi : i < N) (w : World) (og : Own w base 86 (.slice (some ⟨g, 0, none⟩) N c) (u64s (gl N B))) :
    Calls Try.prog 125 #[.slice (some ⟨g, 0, none⟩) N c, .int .i64 i] w fun e w' => e = .returned (.int .u64 (msk N (B i) : Nat)) ∧ Own w' base 86 (.slice (some ⟨g, 0, none⟩) N c) (u64s (gl N (outB B i))) ∧ Wr w w' (.slice (some ⟨g, 0, none⟩) N c) := by
  have hiI : (i : Int) < N := by omega
  obtain ⟨hc, hf⟩ := og.at_ i hi
  rw [u64s_get (by rw [gl_length]; exact hi), gl_at _ hi] at hc
  have hl : Hid (∀ W, Calls Try.prog 104 #[.int .u64 (msk N (B i) : Nat)] W (RetIL W (natI (lsB N (B i))))) := by show ∀ W, _; exact fun W => list_msk N (B i) hn32 W
  obtain ⟨mi, hmi⟩ : ∃ mi, mi = msk N (B i) := ⟨_, rfl⟩
  rw [← hmi] at hc hl ⊢
  have HMI := Lib.hid hmi
  clear hmi hf
  go_enter Try.func125, Try.ntmps125
  go_upto_region 1 with (fail)
  go_wp2_with fail
  refine (hl.out _).mono ?_
  rintro e w1 ⟨LA, lc, rfl, ol, hx⟩
  rw [natI_length] at ol ⊢
  obtain ⟨len, hlen⟩ : ∃ len, len = (lsB N (B i)).length := ⟨_, rfl⟩
  rw [← hlen] at ol ⊢
  have hlN : len ≤ N := by rw [hlen]; exact lsB_len _ _
  have HLEN := Lib.hid hlen
  clear hlen hl hc
  have hst : Own w1 base 86 (.slice (some ⟨g, 0, none⟩) N c) (u64s (gl N (parO N B i 0))) := by rw [parO_zero]; exact og.ext hx
  have hwr : Wr w w1 (.slice (some ⟨g, 0, none⟩) N c) := Wr.of_ext hx _
  go_wp2_with fail
  go_loopw [15] (fun u wr => ∃ q : Nat, q ≤ len ∧ u = .int .i64 q ∧ Own wr w.heap.size 2 (.slice LA len lc) (ints (natI (lsB N (B i)))) ∧ Own wr base 86 (.slice (some ⟨g, 0, none⟩) N c) (u64s (gl N (parO N B i q))) ∧ Wr w wr (.slice (some ⟨g, 0, none⟩) N c)) (fun u _ => len - (intOf u).toNat)
  case atStart => exact ⟨0, Nat.zero_le _, rfl, ol, hst, hwr⟩
  case round =>
    rename World => wA
    clear ol hst hwr hx og
    obtain ⟨q, hq, rfl, ol, og, hwr⟩ := hrel
    by_cases hlt : q < len
    · have g1 : IntKind.i64.wrap ((q : Int) + 1) = (q : Int) + 1 := IntWalk.i64_in _ (by omega)
      have hqI : (q : Int) < len := by omega
      have hq' : q < (lsB N (B i)).length := by rw [← HLEN.out]; exact hlt
      obtain ⟨ad, hLA, hd⟩ := ol.reads.intN q hlt
      subst hLA
      rw [natI_rd hq'] at hd
      obtain ⟨k, hk⟩ : ∃ k, k = (lsB N (B i)).getD q 0 := ⟨_, rfl⟩
      rw [← hk] at hd
      have hkN : k < N := by
        have : k ∈ lsB N (B i) := by rw [hk]; simp [hq']
        exact (lsB_mem.1 this).1
      have HK := Lib.hid hk
      clear hk
      have hkI : (k : Int) < N := by omega
      go_upto_region 5 with (fail)
      obtain ⟨hc, hf⟩ := og.at_ k hkN
      have he : parO N B i q k = B k := by funext j; rw [HK.out]; exact parO_at hq' j
      rw [u64s_get (by rw [gl_length]; exact hkN), gl_at _ hkN, he] at hc
      obtain ⟨pi, pk, m1, m2, b1, b2, b3, b4, b5⟩ := out_mask hn32 hi hkN (B k) (B i)
      rw [← HMI.out] at b3
      obtain ⟨mk, hmk⟩ : ∃ mk, mk = msk N (B k) := ⟨_, rfl⟩
      obtain ⟨mn, hmn⟩ : ∃ mn, mn = msk N (fun j => (B k j || B i j) && !(decide (j = i) || decide (j = k))) := ⟨_, rfl⟩
      rw [← hmk] at hc b3
      rw [← hmn] at b5
      have HMN := Lib.hid hmn
      clear hmk hmn he hf
      refine wp_region_T (cs := []) [0, 1, 2, 3, 4, 5, 6, 7, 8, 9, 10, 11, 12, 13, 14] [15] [] [] (fun _ _ => False) (fun _ _ _ => True) (by kernel_rfl) (by kernel_rfl) (fun _ _ _ _ _ _ => trivial) ?_
      refine' wpT_det (o := ⟨some 19, Op.move (Operand.tmp 0), 81, "l05_sparse.go:260", #[], none⟩) rfl (by rfl) (by rfl) (fun w' hw' => ?_) ?_; rotate_left
      · go_simp <;> first | rfl | exact ⟨rfl, rfl⟩
      simp only [Act.put, List.setIfInBounds_toArray, List.set_cons_zero, List.set_cons_succ]
      refine' wpT_det (o := ⟨some 20, Op.move (Operand.tmp 7), 2, "l05_sparse.go:260", #[], none⟩) rfl (by rfl) (by rfl) (fun w' hw' => ?_) ?_; rotate_left
      · go_simp <;> first | rfl | exact ⟨rfl, rfl⟩
      simp only [Act.put, List.setIfInBounds_toArray, List.set_cons_zero, List.set_cons_succ]
      refine' wpT_det (o := ⟨some 21, Op.move (Operand.tmp 0), 81, "l05_sparse.go:260", #[], none⟩) rfl (by rfl) (by rfl) (fun w' hw' => ?_) ?_; rotate_left
      · go_simp <;> first | rfl | exact ⟨rfl, rfl⟩
      simp only [Act.put, List.setIfInBounds_toArray, List.set_cons_zero, List.set_cons_succ]
      refine' wpT_det (o := ⟨some 22, Op.move (Operand.tmp 7), 2, "l05_sparse.go:260", #[], none⟩) rfl (by rfl) (by rfl) (fun w' hw' => ?_) ?_; rotate_left
      · go_simp <;> first | rfl | exact ⟨rfl, rfl⟩
      simp only [Act.put, List.setIfInBounds_toArray, List.set_cons_zero, List.set_cons_succ]
      refine' wpT_det (o := ⟨some 23, Op.indexAddr 81 (Operand.tmp 21) (Operand.tmp 22), 0, "l05_sparse.go:260", #[{ on := 2, ground := Ground.data }, { on := 3, ground := Ground.data }], none⟩) rfl (by rfl) (by rfl) (fun w' hw' => ?_) ?_; rotate_left
      · go_simp <;> first | rfl | exact ⟨rfl, rfl⟩
      simp only [Act.put, List.setIfInBounds_toArray, List.set_cons_zero, List.set_cons_succ]
      refine' wpT_det (o := ⟨some 24, Op.load 86 (Operand.tmp 23), 86, "l05_sparse.go:260", #[{ on := 4, ground := Ground.data }], none⟩) rfl (by rfl) (by rfl) (fun w' hw' => ?_) ?_; rotate_left
      · have hc_ := Ext.cell hw' hc; go_simp <;> first | rfl | exact ⟨rfl, rfl⟩
      simp only [Act.put, List.setIfInBounds_toArray, List.set_cons_zero, List.set_cons_succ]
      refine' wpT_det (o := ⟨some 25, Op.move (Operand.tmp 5), 86, "l05_sparse.go:260", #[], none⟩) rfl (by rfl) (by rfl) (fun w' hw' => ?_) ?_; rotate_left
      · go_simp <;> first | rfl | exact ⟨rfl, rfl⟩
      simp only [Act.put, List.setIfInBounds_toArray, List.set_cons_zero, List.set_cons_succ]
      refine' wpT_det (o := ⟨some 26, Op.binOp BinOp.or 86 (Operand.tmp 24) (Operand.tmp 25) 86, 86, "l05_sparse.go:260", #[{ on := 5, ground := Ground.data }, { on := 6, ground := Ground.data }], none⟩) rfl (by rfl) (by rfl) (fun w' hw' => ?_) ?_; rotate_left
      · go_simp <;> first | rfl | exact ⟨rfl, rfl⟩
      simp only [Act.put, List.setIfInBounds_toArray, List.set_cons_zero, List.set_cons_succ]
      refine' wpT_det (o := ⟨some 27, Op.move (Operand.tmp 1), 2, "l05_sparse.go:260", #[], none⟩) rfl (by rfl) (by rfl) (fun w' hw' => ?_) ?_; rotate_left
      · go_simp <;> first | rfl | exact ⟨rfl, rfl⟩
      simp only [Act.put, List.setIfInBounds_toArray, List.set_cons_zero, List.set_cons_succ]
      refine' wpT_det (o := ⟨some 28, Op.binOp BinOp.shl 86 (Operand.const (Value.int IntKind.u64 1)) (Operand.tmp 27) 2, 86, "l05_sparse.go:260", #[{ on := 8, ground := Ground.data }], none⟩) rfl (by rfl) (by rfl) (fun w' hw' => ?_) ?_; rotate_left
      · go_simp <;> first | rfl | exact ⟨rfl, rfl⟩
      simp only [Act.put, List.setIfInBounds_toArray, List.set_cons_zero, List.set_cons_succ]
      refine' wpT_det (o := ⟨some 29, Op.move (Operand.tmp 7), 2, "l05_sparse.go:260", #[], none⟩) rfl (by rfl) (by rfl) (fun w' hw' => ?_) ?_; rotate_left
      · go_simp <;> first | rfl | exact ⟨rfl, rfl⟩
      simp only [Act.put, List.setIfInBounds_toArray, List.set_cons_zero, List.set_cons_succ]
      refine' wpT_det (o := ⟨some 30, Op.binOp BinOp.shl 86 (Operand.const (Value.int IntKind.u64 1)) (Operand.tmp 29) 2, 86, "l05_sparse.go:260", #[{ on := 10, ground := Ground.data }], none⟩) rfl (by rfl) (by rfl) (fun w' hw' => ?_) ?_; rotate_left
      · go_simp <;> first | rfl | exact ⟨rfl, rfl⟩
      simp only [Act.put, List.setIfInBounds_toArray, List.set_cons_zero, List.set_cons_succ]
      refine' wpT_det (o := ⟨some 31, Op.binOp BinOp.or 86 (Operand.tmp 28) (Operand.tmp 30) 86, 86, "l05_sparse.go:260", #[{ on := 9, ground := Ground.data }, { on := 11, ground := Ground.data }], none⟩) rfl (by rfl) (by rfl) (fun w' hw' => ?_) ?_; rotate_left
      · go_simp <;> first | rfl | exact ⟨rfl, rfl⟩
      simp only [Act.put, List.setIfInBounds_toArray, List.set_cons_zero, List.set_cons_succ]
      refine' wpT_det (o := ⟨some 32, Op.binOp BinOp.andNot 86 (Operand.tmp 26) (Operand.tmp 31) 86, 86, "l05_sparse.go:260", #[{ on := 7, ground := Ground.data }, { on := 12, ground := Ground.data }], none⟩) rfl (by rfl) (by rfl) (fun w' hw' => ?_) ?_; rotate_left
      · go_simp <;> first | rfl | exact ⟨rfl, rfl⟩
      simp only [Act.put, List.setIfInBounds_toArray, List.set_cons_zero, List.set_cons_succ]
      refine' wpT_det (o := ⟨some 33, Op.indexAddr 81 (Operand.tmp 19) (Operand.tmp 20), 0, "l05_sparse.go:260", #[{ on := 0, ground := Ground.data }, { on := 1, ground := Ground.data }, { on := 0, ground := Ground.phase }, { on := 1, ground := Ground.phase }, { on := 2, ground := Ground.phase }, { on := 3, ground := Ground.phase }, { on := 4, ground := Ground.phase }, { on := 5, ground := Ground.phase }, { on := 6, ground := Ground.phase }, { on := 7, ground := Ground.phase }, { on := 8, ground := Ground.phase }, { on := 9, ground := Ground.phase }, { on := 10, ground := Ground.phase }, { on := 11, ground := Ground.phase }, { on := 12, ground := Ground.phase }, { on := 13, ground := Ground.phase }], none⟩) rfl (by rfl) (by rfl) (fun w' hw' => ?_) ?_; rotate_left
      · go_simp <;> first | rfl | exact ⟨rfl, rfl⟩
      simp only [Act.put, List.setIfInBounds_toArray, List.set_cons_zero, List.set_cons_succ]
      refine wpT_nil (fun w4 hw' hF => ?_)
      show wpList _ _ _ [(⟨none, Op.store 86 (Operand.tmp 33) (Operand.tmp 32), 0, "l05_sparse.go:260", #[{ on := 14, ground := Ground.data }, { on := 13, ground := Ground.data }, { on := 0, ground := Ground.phase }, { on := 1, ground := Ground.phase }, { on := 2, ground := Ground.phase }, { on := 3, ground := Ground.phase }, { on := 4, ground := Ground.phase }, { on := 5, ground := Ground.phase }, { on := 6, ground := Ground.phase }, { on := 7, ground := Ground.phase }, { on := 8, ground := Ground.phase }, { on := 9, ground := Ground.phase }, { on := 10, ground := Ground.phase }, { on := 11, ground := Ground.phase }, { on := 12, ground := Ground.phase }, { on := 13, ground := Ground.phase }], none⟩ : Oper)] _ _
      have hx := hw'.undrew
      clear hF hw' hc hd
      replace og := og.ext hx
      replace ol := ol.ext hx
      replace hwr := hwr.trans (Wr.of_ext hx _)
      clear hx
      obtain ⟨hc, hf⟩ := og.at_ k hkN
      rw [u64s_get (by rw [gl_length]; exact hkN)] at hc
      obtain ⟨s1, s2⟩ := og.stored k (.int .u64 (mn : Int))
      rw [← u64s_set, gl_set hkN (B' := parO N B i (q + 1)) (fun a b _ _ ha => parO_other hq' (by rw [← HK.out]; exact ha) b) (HMN.out.trans (msk_congr fun b _ => by have h := parO_new hq' b; rw [← HK.out] at h; exact h.symm))] at s1
      have ol2 := ol.other s2 (ol.apart og (by decide)).1
      have hwr2 := hwr.trans s2
      go_wp2_with fail
      go_roundw
      case rel => exact ⟨q + 1, by omega, by go_num, ol2, s1, hwr2⟩
      case measure => simp [intOf]; omega
    · obtain rfl : q = len := by omega
      obtain ⟨hc, hf⟩ := og.at_ i hi
      rw [u64s_get (by rw [gl_length]; exact hi)] at hc
      obtain ⟨s1, s2⟩ := og.stored i (.int .u64 ((0 : Nat) : Int))
      rw [← u64s_set, gl_set hi (B' := outB B i) (fun a b ha _ hne => by rw [HLEN.out]; exact parO_end ha hne b) (by rw [show (outB B i i) = fun _ => false from by funext b; unfold outB; rw [if_pos rfl]]; exact (msk_false N).symm)] at s1
      have hwr2 := hwr.trans s2
      clear ol
      go_wp2_with fail
      go_ret
      exact ⟨by rw [HMI.out]; rfl, s1, hwr2⟩

end Go.Proofs.Ytkifpligpobiaaa
