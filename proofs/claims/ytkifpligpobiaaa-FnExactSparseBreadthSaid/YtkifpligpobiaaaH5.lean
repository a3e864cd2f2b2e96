
/- SparseDegrees, the reference. -/

import Derived.Test.YtkifpligpobiaaaH4
set_option linter.unusedVariables false
set_option linter.unusedSimpArgs false

namespace Go.Proofs.Ytkifpligpobiaaa

open Go.RowKit


set_option maxRecDepth 20000 in
set_option maxHeartbeats 4000000 in
theorem l05Degrees_any (A : Option Addr) (N c n : Nat) (B : Grf) (hn32 : n ≤ 32) (hN : N = n * n) (w : World) (ha : Rds w A N (bools (gb n B))) :
    Calls Try.prog 96 #[.slice A N c, .int .i64 n] w (RetIL w (natI (degL n B))) := by
  have HN := Lib.hid hN
  clear hN
  go_enter Try.func96, Try.ntmps96
  go_upto_region 1 with (fail)
  go_wp2_with fail
  go_loopw [5, 6] (fun u v wr => ∃ i : Nat, i ≤ n ∧ v = .int .i64 i ∧ ∃ A c, u = .slice A i c ∧ Own wr w.heap.size 2 (.slice A i c) (ints (natI (dgk n B i))) ∧ Ext w wr) (fun _ v _ => n - (intOf v).toNat)
  case atStart => exact ⟨0, Nat.zero_le _, rfl, _, 0, rfl, Own.empty _ _, (Ext.refl _).alloc _⟩
  case round =>
    rename World => wA
    obtain ⟨i, hi, rfl, A1, c1, rfl, oo, hx⟩ := hrel
    by_cases hlt : i < n
    · have g1 : IntKind.i64.wrap ((i : Int) + 1) = (i : Int) + 1 := IntWalk.i64_in _ (by omega)
      go_wp2_with fail
      go_loopw [7, 8] (fun u v wr => ∃ k : Nat, k ≤ n ∧ v = .int .i64 k ∧ u = .int .i64 ((lsB k (B i)).length : Nat) ∧ wr = wA) (fun _ v _ => n - (intOf v).toNat)
      case atStart => exact ⟨0, Nat.zero_le _, rfl, rfl, rfl⟩
      case round =>
        rename World => wB
        obtain ⟨k, hk, rfl, rfl, rfl⟩ := hrel
        by_cases hlk : k < n
        · obtain ⟨i1, i2, i3, i4, i5, i6⟩ := ix32 hlt hlk hn32
          rw [← HN.out] at i4 i6
          have i7 : i * n + k < N := by omega
          have g4 : IntKind.i64.wrap ((k : Int) + 1) = (k : Int) + 1 := IntWalk.i64_in _ (by omega)
          obtain ⟨ad, hT, hd1⟩ := (ha.below hx).boolN (i * n + k) i7
          subst hT
          rw [gb_at B hlt hlk] at hd1
          have hcl := lsB_len k (B i)
          cases hb : B i k with
          | false =>
            rw [hb] at hd1
            have HE := Lib.hid (lsB_no (f := B i) hb)
            clear hb
            go_wp2_with fail
            go_roundw
            case rel => exact ⟨k + 1, by omega, by go_num, by rw [HE.out], by first | trivial | rfl⟩
            case measure => simp [intOf]; omega
          | true =>
            rw [hb] at hd1
            have HE : Hid ((lsB (k + 1) (B i)).length = (lsB k (B i)).length + 1) := by show _ = _; rw [lsB_yes hb]; simp
            clear hb
            obtain ⟨q, hq⟩ : ∃ q, q = (lsB k (B i)).length := ⟨_, rfl⟩
            rw [← hq] at hcl HE
            rw [← hq]
            clear hq
            have g5 : IntKind.i64.wrap ((q : Int) + 1) = (q : Int) + 1 := IntWalk.i64_in _ (by omega)
            go_wp2_with fail
            go_roundw
            case rel => exact ⟨k + 1, by omega, by go_num, by rw [HE.out]; go_num, by first | trivial | rfl⟩
            case measure => simp [intOf]; omega
        · obtain rfl : k = n := by omega
          obtain ⟨dd, hdd⟩ : ∃ dd, dd = (lsB k (B i)).length := ⟨_, rfl⟩
          rw [← hdd]
          have HDD := Lib.hid hdd
          clear hdd
          have ho' := oo.ext ((Ext.refl wB).alloc (.cells #[.int .i64 dd] 2))
          have hsz := hx.size
          have hl := oo.len
          go_wp2_with (at_builtin; go_loud (refine wpList_app1 rfl _ _ _ rfl (wB.alloc (.cells #[.int .i64 dd] 2)) w.heap.size 2 (.int .i64 0) 8 Try.underlying22 info_i64 rfl (by decide) (.slice A1 i c1) (ints (natI (dgk k B i))) rfl wB.heap.size (.int .i64 dd) rfl (One.new _ _ _) ho' rfl (by omega) (by simp; omega) ?_); rw [hl]; intro A' c' w9 h5 h6 h7)
          go_roundw
          case rel =>
            refine ⟨i + 1, by omega, by go_num, A', c', rfl, ?_, h6.ext (hx.alloc _) ho'⟩
            have e : degB k B i = dd := HDD.out.symm
            rw [dgk_next, natI_append, ints_append, e]
            exact h5
          case measure => simp [intOf]; omega
    · obtain rfl : i = n := by omega
      have hl : (natI (degL i B)).length = i := by rw [natI_length]; exact dgk_len _ _ _
      have HL := Lib.hid hl
      clear hl
      go_wp2_with fail
      go_ret
      refine ⟨A1, c1, ?_, ?_, hx⟩
      · rw [HL.out]; rfl
      · rw [HL.out]; exact oo

set_option maxRecDepth 20000 in
set_option maxHeartbeats 8000000 in
theorem specSparseDegrees_any (sd : Int) (A : Option Addr) (n ca : Nat) (B : Option Addr) (m cb : Nat) (V : Option Addr) (p cv : Nat) (st co : List Int) (va : List Nat) (w : World) (hr : Rds w A n (ints st)) (hq : Rds w B m (ints co)) (hv : Rds w V p (flts va)) :
    Calls Try.prog 49 #[.agg #[.int .i64 sd, .slice A n ca, .slice B m cb, .slice V p cv]] w (RetLB w (degD sd st co va)) := by
  have HM := Lib.hid hq.ilen
  cases hs : isSp sd st co va with
  | false =>
    have hd : degD sd st co va = ([], false) := by unfold degD; rw [hs]; rfl
    rw [hd]
    clear hd
    go_enter Try.func49, Try.ntmps49
    go_upto_region 1 with (fail)
    obtain ⟨w0, hw0⟩ : ∃ w0, w0 = (w.alloc (.cells #[.int .i64 sd, .slice A n ca, .slice B m cb, .slice V p cv] 27)) := ⟨_, rfl⟩
    have hx0 : Ext w w0 := by subst hw0; exact (Ext.refl _).alloc _
    have ba : Blk w0 (w.heap.size) #[.int .i64 sd, .slice A n ca, .slice B m cb, .slice V p cv] 27 := by subst hw0; exact (Blk.new w _ _)
    rw [← hw0]
    clear hw0
    go_wp2_with fail
    refine (l05Is_any _ sd A n ca B m cb V p cv st co va _ (SAt.of ba (hr.below hx0) (hq.below hx0) (hv.below hx0))).mono ?_
    rintro e w1 ⟨rfl, hx⟩
    rw [hs]
    replace ba := ba.ext hx
    replace hx0 := hx0.trans hx
    clear hx
    go_wp2_with fail
    refine bodyPost_ret (v := .tuple #[.slice none 0 0, .bool false]) (by simp only [results, Try.results49]; simp [go_sem]) rfl ⟨none, 0, rfl, Own.nil _ _ _, hx0⟩
  | true =>
    have hsp := isSp_iff.1 hs
    obtain ⟨N, rfl⟩ : ∃ N : Nat, sd = N := ⟨sd.toNat, by have := hsp.s1; omega⟩
    have hn1 : 1 ≤ N := by have := hsp.s1; omega
    have hn32 : N ≤ 32 := by have := hsp.s1; omega
    have hd : degD N st co va = (natI (degL N (nbM (vw st co va m))), true) := by unfold degD; rw [hs, HM.out]; rfl
    rw [hd]
    clear hd
    obtain ⟨G, hG⟩ : ∃ G, G = nbM (vw st co va m) := ⟨_, rfl⟩
    have HSY : Hid (SymB N G) := by rw [hG]; exact nbM_sym N _
    rw [← hG]
    have HG := Lib.hid hG
    have HSP := Lib.hid hsp
    clear hG hsp
    go_enter Try.func49, Try.ntmps49
    go_upto_region 1 with (fail)
    obtain ⟨w0, hw0⟩ : ∃ w0, w0 = (w.alloc (.cells #[.int .i64 N, .slice A n ca, .slice B m cb, .slice V p cv] 27)) := ⟨_, rfl⟩
    have hx0 : Ext w w0 := by subst hw0; exact (Ext.refl _).alloc _
    have ba : Blk w0 (w.heap.size) #[.int .i64 N, .slice A n ca, .slice B m cb, .slice V p cv] 27 := by subst hw0; exact (Blk.new w _ _)
    rw [← hw0]
    clear hw0
    go_wp2_with fail
    refine (l05Is_any _ N A n ca B m cb V p cv st co va _ (SAt.of ba (hr.below hx0) (hq.below hx0) (hv.below hx0))).mono ?_
    rintro e w1 ⟨rfl, hx⟩
    rw [hs]
    replace ba := ba.ext hx
    replace hx0 := hx0.trans hx
    clear hx

    have SA := SAt.of ba (hr.below hx0) (hq.below hx0) (hv.below hx0)
    have c0 := ba.cell 0 rfl
    go_wp2_with fail
    refine wp_region_T (cs := []) [0, 1, 2, 3, 4, 5] [] [0, 3] [(3, [0])] (fun i__ v => match i__ with | 0 => ∃ (A : Option Addr) (k : Nat), v = .slice A (N * N) k | 3 => ∃ (A : Option Addr) (k : Nat), v = .slice A (natI (degL N G)).length k | _ => False) (fun i__ v w' => match i__ with | 0 => OwnF w' w1.heap.size 4 v [] (bools (gb N G)) | 3 => OwnF w' w1.heap.size 2 v [] (ints (natI (degL N G))) | _ => True) (by kernel_rfl) (by kernel_rfl) (by intro i v w' w2 h hx; revert h; (try dsimp only); split <;> intro h <;> first | trivial | exact OwnF.ext h hx) ?_
    refine wpT_nd (o := ⟨some 6, Op.call { callee := Callee.value (Operand.func 95), args := #[Operand.tmp 1], argTypes := #[68] }, 69, "l05_sparse.go:245", #[], none⟩) rfl (by rfl) (by rfl) (fun w' hw' hF R__ hGo => ?_) ⟨_, none, 0, rfl⟩ ?_
    · go_simp
      refine gives_enter rfl ?_
      refine (l05Beside_any _ N A n ca B m cb V p cv st co va HSP.out _ (SA.ext hw'.undrew)).mono ?_
      rw [← HG.out]
      rintro e w2 ⟨G1, k1, rfl, o1, hx⟩
      exact ⟨_, rfl, hGo _ _ hx ⟨_, _, rfl⟩ (OwnF.of (o1.base hw'.size) rfl)⟩
    rintro _ ⟨G1, k1, rfl⟩
    simp only [Act.put, List.setIfInBounds_toArray, List.set_cons_zero, List.set_cons_succ]
    refine' wpT_det (o := ⟨some 7, Op.fieldAddr 27 (Operand.tmp 1) 0, 0, "l05_sparse.go:245", #[], none⟩) rfl (by rfl) (by rfl) (fun w' hw' => ?_) ?_; rotate_left
    · go_simp <;> first | rfl | exact ⟨rfl, rfl⟩
    simp only [Act.put, List.setIfInBounds_toArray, List.set_cons_zero, List.set_cons_succ]
    refine' wpT_det (o := ⟨some 8, Op.load 2 (Operand.tmp 7), 2, "l05_sparse.go:245", #[{ on := 1, ground := Ground.data }], none⟩) rfl (by rfl) (by rfl) (fun w' hw' => ?_) ?_; rotate_left
    · have c0_ := Ext.cell hw' c0; go_simp <;> first | rfl | exact ⟨rfl, rfl⟩
    simp only [Act.put, List.setIfInBounds_toArray, List.set_cons_zero, List.set_cons_succ]
    refine wpT_nd (o := ⟨some 9, Op.call { callee := Callee.value (Operand.func 96), args := #[Operand.tmp 6, Operand.tmp 8], argTypes := #[69, 2] }, 22, "l05_sparse.go:245", #[{ on := 0, ground := Ground.data }, { on := 2, ground := Ground.data }, { on := 0, ground := Ground.chain }], none⟩) rfl (by rfl) (by rfl) (fun w' hw' hF R__ hGo => ?_) ⟨_, none, 0, rfl⟩ ?_
    · go_simp
      refine gives_enter rfl ?_
      refine (l05Degrees_any _ _ _ N G hn32 rfl _ ((hF 0 (by simp [uses]) _ rfl) _ _ _ rfl).reads).mono ?_
      rintro e w2 ⟨L1, k2, rfl, o2, hx⟩
      exact ⟨_, rfl, hGo _ _ hx ⟨_, _, rfl⟩ (OwnF.of (o2.base hw'.size) rfl)⟩
    rintro _ ⟨L1, k2, rfl⟩
    simp only [Act.put, List.setIfInBounds_toArray, List.set_cons_zero, List.set_cons_succ]
    refine' wpT_det (o := ⟨some 2, Op.assign (Operand.tmp 9), 22, "l05_sparse.go:245", #[{ on := 3, ground := Ground.data }, { on := 3, ground := Ground.chain }, { on := 0, ground := Ground.phase }, { on := 1, ground := Ground.phase }, { on := 2, ground := Ground.phase }, { on := 3, ground := Ground.phase }], none⟩) rfl (by rfl) (by rfl) (fun w' hw' => ?_) ?_; rotate_left
    · go_simp <;> first | rfl | exact ⟨rfl, rfl⟩
    simp only [Act.put, List.setIfInBounds_toArray, List.set_cons_zero, List.set_cons_succ]
    refine' wpT_det (o := ⟨some 3, Op.assign (Operand.const (Value.bool true)), 4, "l05_sparse.go:245", #[{ on := 4, ground := Ground.chain }, { on := 0, ground := Ground.phase }, { on := 1, ground := Ground.phase }, { on := 2, ground := Ground.phase }, { on := 3, ground := Ground.phase }, { on := 4, ground := Ground.phase }], none⟩) rfl (by rfl) (by rfl) (fun w' hw' => ?_) ?_; rotate_left
    · go_simp <;> first | rfl | exact ⟨rfl, rfl⟩
    simp only [Act.put, List.setIfInBounds_toArray, List.set_cons_zero, List.set_cons_succ]
    refine wpT_nil (fun w5 hw' hF => ?_)
    refine wpList_nil ?_
    have o2 := (hF 3 _ rfl) _ _ _ rfl
    have hx := hw'.undrew
    clear hF hw' c0
    replace o2 := o2.base hx0.size
    go_wp2_with fail
    refine bodyPost_ret (v := .tuple #[.slice L1 (natI (degL N G)).length k2, .bool true]) (by simp only [results, Try.results49]; simp [go_sem]) rfl ⟨L1, k2, rfl, o2, hx0.trans hx⟩

end Go.Proofs.Ytkifpligpobiaaa
