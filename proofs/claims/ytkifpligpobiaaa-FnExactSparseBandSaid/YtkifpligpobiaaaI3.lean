
/- SparseBand. -/

import Derived.Test.YtkifpligpobiaaaK7

import Derived.Test.YtkifpligpobiaaaR1

import Derived.Test.YtkifpligpobiaaaV4

import Derived.Test.YtkifpligpobiaaaV2
set_option linter.unusedVariables false
set_option linter.unusedSimpArgs false

namespace Go.Proofs.Ytkifpligpobiaaa

open Go.RowKit


set_option maxRecDepth 20000 in
set_option maxHeartbeats 400000 in
theorem l00Max_any (a b d : Int) (h : d = max a b) (w : World) :
    Calls Try.prog 112 #[.int .i64 a, .int .i64 b] w fun e w' => e = .returned (.int .i64 d) ∧ w = w' := by
  by_cases h1 : b < a
  · obtain rfl : d = a := by omega
    clear h
    go_enter Try.func112, Try.ntmps112
    go_upto_region 1 with (fail)
    go_wp2
    go_ret
    exact ⟨rfl, rfl⟩
  · obtain rfl : d = b := by omega
    clear h
    go_enter Try.func112, Try.ntmps112
    go_upto_region 1 with (fail)
    go_wp2
    go_ret
    exact ⟨rfl, rfl⟩

set_option maxRecDepth 20000 in
set_option maxHeartbeats 4000000 in
theorem implSparseBand_any (sd : Int) (A : Option Addr) (n ca : Nat) (B : Option Addr) (m cb : Nat) (V : Option Addr) (p cv : Nat) (st co : List Int) (va : List Nat) (w : World) (hr : Rds w A n (ints st)) (hq : Rds w B m (ints co)) (hv : Rds w V p (flts va)) :
    Calls Try.prog 43 #[.agg #[.int .i64 sd, .slice A n ca, .slice B m cb, .slice V p cv]] w fun e w' => e = .returned (.tuple #[.int .i64 (bandD sd st co va).1, .bool (bandD sd st co va).2]) ∧ Ext w w' := by
  have HM := Lib.hid hq.ilen
  cases hs : isSp sd st co va with
  | false =>
    have hd : bandD sd st co va = (0, false) := by unfold bandD; rw [hs]; rfl
    rw [hd]
    clear hd
    go_enter Try.func43, Try.ntmps43
    go_upto_region 1 with (fail)
    obtain ⟨w0, hw0⟩ : ∃ w0, w0 = (w.alloc (.cells #[.int .i64 sd, .slice A n ca, .slice B m cb, .slice V p cv] 27)) := ⟨_, rfl⟩
    have hx0 : Ext w w0 := by subst hw0; exact (Ext.refl _).alloc _
    have ba : Blk w0 (w.heap.size) #[.int .i64 sd, .slice A n ca, .slice B m cb, .slice V p cv] 27 := by subst hw0; exact (Blk.new w _ _)
    rw [← hw0]
    clear hw0
    have c0 := ba.cell 0 rfl
    have c1 := ba.cell 1 rfl
    have c2 := ba.cell 2 rfl
    have c3 := ba.cell 3 rfl
    go_wp2_with fail
    refine (implValidSparse_any sd A n ca B m cb V p cv st co va _ (hr.below hx0) (hq.below hx0) (hv.below hx0)).mono ?_
    rintro e w1 ⟨rfl, hx⟩
    rw [hs]
    replace ba := ba.ext hx
    replace hx0 := hx0.trans hx
    clear hx c0 c1 c2 c3
    go_wp2_with fail
    refine bodyPost_ret (v := .tuple #[.int .i64 0, .bool false]) (by simp only [results, Try.results43]; simp [go_sem]) rfl ⟨rfl, hx0⟩
  | true =>
    have hsp := isSp_iff.1 hs
    obtain ⟨N, rfl⟩ : ∃ N : Nat, sd = N := ⟨sd.toNat, by have := hsp.s1; omega⟩
    have hn1 : 1 ≤ N := by have := hsp.s1; omega
    have hn32 : N ≤ 32 := by have := hsp.s1; omega
    have hd : bandD N st co va = (((bandV N (vw st co va m) : Nat) : Int), true) := by unfold bandD; rw [hs, HM.out]; rfl
    rw [hd]
    clear hd
    obtain ⟨Y, hY⟩ : ∃ Y, Y = bandV N (vw st co va m) := ⟨_, rfl⟩
    have HY : Hid (∀ S v, IsBand N (vw st co va m) S v → (∀ i j, i < N → j < N → (vw st co va m i j).isSome = true → S i j = false) → v = Y) := by show _; intro S v h1 h2; rw [hY]; exact bandV_of h1 h2
    rw [← hY]
    clear hY
    have HSP := Lib.hid hsp
    clear hsp
    go_enter Try.func43, Try.ntmps43
    go_upto_region 1 with (fail)
    obtain ⟨w0, hw0⟩ : ∃ w0, w0 = (w.alloc (.cells #[.int .i64 N, .slice A n ca, .slice B m cb, .slice V p cv] 27)) := ⟨_, rfl⟩
    have hx0 : Ext w w0 := by subst hw0; exact (Ext.refl _).alloc _
    have ba : Blk w0 (w.heap.size) #[.int .i64 N, .slice A n ca, .slice B m cb, .slice V p cv] 27 := by subst hw0; exact (Blk.new w _ _)
    rw [← hw0]
    clear hw0
    have c0 := ba.cell 0 rfl
    have c1 := ba.cell 1 rfl
    have c2 := ba.cell 2 rfl
    have c3 := ba.cell 3 rfl
    go_wp2_with fail
    refine (implValidSparse_any N A n ca B m cb V p cv st co va _ (hr.below hx0) (hq.below hx0) (hv.below hx0)).mono ?_
    rintro e w1 ⟨rfl, hx⟩
    rw [hs]
    replace ba := ba.ext hx
    replace hx0 := hx0.trans hx
    clear hx c0 c1 c2 c3
    have c0 := ba.cell 0 rfl
    have c1 := ba.cell 1 rfl
    have c2 := ba.cell 2 rfl
    have c3 := ba.cell 3 rfl

    go_wp2_with fail
    refine (numbers_any N A n ca B m cb V p cv st co va HSP.out _ (hr.below hx0) (hq.below hx0) (hv.below hx0)).mono ?_
    rintro e w3 ⟨b, rfl, hM, hb, hx⟩
    replace hx0 := hx0.trans hx
    clear hx c0 c1 c2 c3 ba hb
    go_wp2_with (at_range; refine wpList_range_V rfl _ rfl b N (N * N) _ rfl hM ?_; intro w4 cnt hR hcnt hx4 hs4)
    go_frame
    have hy : Ext w3 w4 := hx4
    clear hM hx4 hs4 hcnt
    have H0 := Lib.hid (IsBand.start N (vw st co va m))
    go_loopw [4] (fun u wr => ∃ (S : Nat → Nat → Bool) (cnt v : Nat), u = .int .i64 v ∧ RangeV wr b w3.heap.size (N * N) N (vw st co va m) S cnt ∧ IsBand N (vw st co va m) S v ∧ Ext w3 wr) (fun _ wr => wr.rangeLeft b w3.heap.size)
    case atStart => exact ⟨_, cnt, 0, rfl, hR, H0.out, hy⟩
    case round =>
      rename World => wA
      clear hR hy
      obtain ⟨S, cnt, v, rfl, hR, hB, hy⟩ := hrel
      have HB := Lib.hid hB
      have hvN := hB.lt hn1
      clear hB
      go_wp2_with (at_next; refine wpList_next_V rfl _ rfl b w3.heap.size (N * N) N _ S cnt hn32 rfl hR ?_ ?_)
      · intro hc0 hS
        obtain rfl := HY.out S v HB.out (fun i j hi hj _ => hS i j hi hj)
        clear hS hR HY HB
        go_wp2_with fail
        refine bodyPost_ret (v := .tuple #[.int .i64 v, .bool true]) (by simp only [results, Try.results43]; simp [go_sem]) rfl ⟨rfl, hx0.trans hy⟩
      · intro i j x w5 cnt' hi hj hSij hMij hR' hlt hg hsz hen
        have hy' := MapV.ge hg hy (Nat.le_refl _)
        have HLE := Lib.hid hR.left_eq
        have HB2 : Hid (IsBand N (vw st co va m) (strike S i j) (max v (dst i j))) := HB.out.step hi hj (by rw [hMij]; rfl) (fun a c ha hc hne h => by
          unfold strike at h
          have : (decide (a = i) && decide (c = j)) = false := by
            by_cases e1 : a = i
            · rw [decide_eq_false (fun e2 => hne ⟨e1, e2⟩), Bool.and_false]
            · rw [decide_eq_false e1, Bool.false_and]
          rw [this] at h
          simpa using h)
        clear hR hy hMij hSij
        have g1 : IntKind.i64.wrap ((i : Int) - j) = (i : Int) - j := IntWalk.i64_in _ (by omega)
        have g2 : IntKind.i64.wrap ((j : Int) - i) = (j : Int) - i := IntWalk.i64_in _ (by omega)
        have xg : Ext w5 (w5.alloc (.cells #[.int .i64 i, .int .i64 j] 95)) := (Ext.refl _).alloc _
        have hR2 := hR'.ext xg
        have hy2 := hy'.trans xg
        go_wp2_with fail
        go_roundw
        case rel => exact ⟨_, _, max v (dst i j), by (congr 1; unfold dst; (repeat' split) <;> omega), hR2, HB2.out, hy2⟩
        case measure => rw [hR2.left_eq, HLE.out]; exact hlt

set_option maxRecDepth 20000 in
set_option maxHeartbeats 4000000 in
theorem specSparseBand_any (sd : Int) (A : Option Addr) (n ca : Nat) (B : Option Addr) (m cb : Nat) (V : Option Addr) (p cv : Nat) (st co : List Int) (va : List Nat) (w : World) (hr : Rds w A n (ints st)) (hq : Rds w B m (ints co)) (hv : Rds w V p (flts va)) :
    Calls Try.prog 42 #[.agg #[.int .i64 sd, .slice A n ca, .slice B m cb, .slice V p cv]] w fun e w' => e = .returned (.tuple #[.int .i64 (bandD sd st co va).1, .bool (bandD sd st co va).2]) ∧ Ext w w' := by
  have HM := Lib.hid hq.ilen
  cases hs : isSp sd st co va with
  | false =>
    have hd : bandD sd st co va = (0, false) := by unfold bandD; rw [hs]; rfl
    rw [hd]
    clear hd
    go_enter Try.func42, Try.ntmps42
    go_upto_region 1 with (fail)
    obtain ⟨w0, hw0⟩ : ∃ w0, w0 = (w.alloc (.cells #[.int .i64 sd, .slice A n ca, .slice B m cb, .slice V p cv] 27)) := ⟨_, rfl⟩
    have hx0 : Ext w w0 := by subst hw0; exact (Ext.refl _).alloc _
    have ba : Blk w0 (w.heap.size) #[.int .i64 sd, .slice A n ca, .slice B m cb, .slice V p cv] 27 := by subst hw0; exact (Blk.new w _ _)
    rw [← hw0]
    clear hw0
    go_wp2_with fail
    refine (l05Is_any _ sd A n ca B m cb V p cv st co va _ (SAt.of ba (hr.below hx0) (hq.below hx0) (hv.below hx0))).mono ?_
    rintro e w1 ⟨rfl, hx⟩
    rw [hs]
    replace ba := ba.ext hx
    replace hx0 := hx0.trans hx
    clear hx
    go_wp2_with fail
    refine bodyPost_ret (v := .tuple #[.int .i64 0, .bool false]) (by simp only [results, Try.results42]; simp [go_sem]) rfl ⟨rfl, hx0⟩
  | true =>
    have hsp := isSp_iff.1 hs
    obtain ⟨N, rfl⟩ : ∃ N : Nat, sd = N := ⟨sd.toNat, by have := hsp.s1; omega⟩
    have hn1 : 1 ≤ N := by have := hsp.s1; omega
    have hn32 : N ≤ 32 := by have := hsp.s1; omega
    have hd : bandD N st co va = (((bandV N (vw st co va m) : Nat) : Int), true) := by unfold bandD; rw [hs, HM.out]; rfl
    rw [hd]
    clear hd
    obtain ⟨Y, hY⟩ : ∃ Y, Y = bandV N (vw st co va m) := ⟨_, rfl⟩
    have HY : Hid (∀ S v, IsBand N (vw st co va m) S v → (∀ i j, i < N → j < N → (vw st co va m i j).isSome = true → S i j = false) → v = Y) := by show _; intro S v h1 h2; rw [hY]; exact bandV_of h1 h2
    rw [← hY]
    clear hY
    have HSP := Lib.hid hsp
    have ham : N + 1 ≤ n := by have := hsp.s2; rw [hr.ilen] at this; omega
    have hm512 : m ≤ 512 := by have := hsp.s3; rw [HM.out] at this; exact this
    clear hsp
    go_enter Try.func42, Try.ntmps42
    go_upto_region 1 with (fail)
    obtain ⟨w0, hw0⟩ : ∃ w0, w0 = (w.alloc (.cells #[.int .i64 N, .slice A n ca, .slice B m cb, .slice V p cv] 27)) := ⟨_, rfl⟩
    have hx0 : Ext w w0 := by subst hw0; exact (Ext.refl _).alloc _
    have ba : Blk w0 (w.heap.size) #[.int .i64 N, .slice A n ca, .slice B m cb, .slice V p cv] 27 := by subst hw0; exact (Blk.new w _ _)
    rw [← hw0]
    clear hw0
    go_wp2_with fail
    refine (l05Is_any _ N A n ca B m cb V p cv st co va _ (SAt.of ba (hr.below hx0) (hq.below hx0) (hv.below hx0))).mono ?_
    rintro e w1 ⟨rfl, hx⟩
    rw [hs]
    replace ba := ba.ext hx
    replace hx0 := hx0.trans hx
    clear hx

    have A0 := ba.cell 0 rfl
    have A1 := ba.cell 1 rfl
    have A2 := ba.cell 2 rfl
    have hst : IsBand N (vw st co va m) (fun i j => !(vw st co va (rd st ((0 : Nat) : Int)).toNat i j).isSome) 0 := by
      have e0 : rd st ((0 : Nat) : Int) = 0 := HSP.out.s6
      rw [e0]
      exact ⟨fun i j _ _ _ h => (by have h' : (!(vw st co va 0 i j).isSome) = false := h; rw [vw_zero] at h'; cases h'), .inl rfl⟩
    have HST := Lib.hid hst
    clear hst ba
    go_wp2_with fail
    go_loopw [4, 5] (fun u u2 wr => ∃ (i v : Nat), i ≤ N ∧ u = .int .i64 v ∧ u2 = .int .i64 i ∧ Hid (IsBand N (vw st co va m) (fun a b => !(vw st co va (rd st i).toNat a b).isSome) v) ∧ Ext w1 wr) (fun _ u2 _ => N - (intOf u2).toNat)
    case atStart => exact ⟨0, 0, Nat.zero_le _, rfl, rfl, HST, Ext.refl _⟩
    case round =>
      rename World => wA
      clear HST
      obtain ⟨i, v, hi, rfl, rfl, HST, yA⟩ := hrel
      have c0 := yA.cell A0
      have c1 := yA.cell A1
      by_cases hlt : i < N
      · have g1 : IntKind.i64.wrap ((i : Int) + 1) = (i : Int) + 1 := IntWalk.i64_in _ (by omega)
        have r0 := HSP.out.range (i := i) (by omega)
        have r1 := HSP.out.range (i := i + 1) (by omega)
        have e1 : ((i + 1 : Nat) : Int) = (i : Int) + 1 := by omega
        rw [HM.out] at r0 r1
        rw [e1] at r1
        have hup : rd st i ≤ rd st ((i : Int) + 1) := HSP.out.s8 i (by omega)
        obtain ⟨s0, hs0⟩ : ∃ s0 : Nat, rd st i = s0 := ⟨(rd st i).toNat, by omega⟩
        obtain ⟨s1, hs1⟩ : ∃ s1 : Nat, rd st ((i : Int) + 1) = s1 := ⟨(rd st ((i : Int) + 1)).toNat, by omega⟩
        obtain ⟨ad, rfl, hc⟩ := (hr.below (hx0.trans yA)).int i (by omega) (by omega)
        rw [hs0, Int.toNat_natCast] at hc
        rw [hs0] at r0 hup HST
        rw [hs1] at r1 hup
        have HS0 := Lib.hid hs0
        have HS1 := Lib.hid hs1
        have f2 : (i : Int) < n := by omega
        have f3 : (i : Int) + 1 < n := by omega
        have f1 : (i : Int) < N := by omega
        rw [Int.toNat_natCast] at HST
        clear hs0 hs1 e1
        go_wp2_with fail
        go_loopw [4, 6] (fun u u2 wr => ∃ (k v : Nat), s0 ≤ k ∧ k ≤ s1 ∧ u = .int .i64 v ∧ u2 = .int .i64 k ∧ Hid (IsBand N (vw st co va m) (fun a b => !(vw st co va k a b).isSome) v) ∧ Ext w1 wr) (fun _ u2 _ => s1 - (intOf u2).toNat)
        case atStart => exact ⟨s0, v, Nat.le_refl _, by omega, rfl, rfl, HST, yA⟩
        case round =>
          rename World => wB
          clear HST hc c0 c1 yA
          obtain ⟨k, vv, hk0, hk1, rfl, rfl, HST, yB⟩ := hrel
          have c1 := yB.cell A1
          have c2 := yB.cell A2
          obtain ⟨ad', had, hc1⟩ := (hr.below (hx0.trans yB)).int ((i : Int) + 1) (by omega) (by omega)
          obtain rfl := Option.some.inj had
          clear had
          rw [HS1.out, show ((i : Int) + 1).toNat = i + 1 by omega, Addr.add_succ'] at hc1
          by_cases hlk : k < s1
          · have hlk' : (k : Int) < s1 := by omega
            have hkm : k < m := by omega
            have hkm' : (k : Int) < m := by omega
            have hcr := HSP.out.s9 k (by rw [HM.out]; exact hkm)
            obtain ⟨j, hj⟩ : ∃ j : Nat, rd co k = j := ⟨(rd co k).toNat, by omega⟩
            rw [hj] at hcr
            have HJ := Lib.hid hj
            have hjn : j < N := by omega
            obtain ⟨adc, rfl, hd⟩ := (hq.below (hx0.trans yB)).intN k hkm
            rw [hj] at hd
            have hvN := HST.out.lt hn1
            have HB2 : Hid (IsBand N (vw st co va m) (fun a b => !(vw st co va (k + 1) a b).isSome) (max vv (dst i j))) := HST.out.step hlt hjn (vw_told hkm (by rw [HS0.out]; omega) (by rw [HS1.out]; omega) hj) (fun a c ha hc hne h => by
              (try dsimp only at h ⊢)
              rw [vw_next HSP.out hlt (by rw [HS0.out]; omega) (by rw [HS1.out]; omega) hj ha, updM_other _ hne] at h
              exact h)
            clear hj hcr HST
            have g2 : IntKind.i64.wrap ((i : Int) - j) = (i : Int) - j := IntWalk.i64_in _ (by omega)
            have g3 : IntKind.i64.wrap ((j : Int) - i) = (j : Int) - i := IntWalk.i64_in _ (by omega)
            have g4 : IntKind.i64.wrap ((k : Int) + 1) = (k : Int) + 1 := IntWalk.i64_in _ (by omega)
            have e3 : ((dst i j : Nat) : Int) = max ((i : Int) - j) ((j : Int) - i) := by unfold dst; omega
            have e4 : ((max vv (dst i j) : Nat) : Int) = max (vv : Int) ((dst i j : Nat) : Int) := by omega
            have E3 := Lib.hid e3
            have E4 := Lib.hid e4
            clear e3 e4
            go_wp2_with fail
            refine wp_region_T (cs := []) [0, 1, 2, 3, 4, 5, 6, 7, 8, 9, 10, 11, 12, 13, 14, 15, 16, 17] [] [15, 16] [] (fun i__ v => match i__ with | 15 => v = (.int .i64 ((dst i j : Nat) : Int)) | 16 => v = (.int .i64 ((max vv (dst i j) : Nat) : Int)) | _ => False) (fun _ _ _ => True) (by kernel_rfl) (by kernel_rfl) (fun _ _ _ _ _ _ => trivial) ?_
            refine' wpT_det (o := ⟨some 30, Op.move (Operand.tmp 4), 2, "l05_sparse.go:206", #[], none⟩) rfl (by rfl) (by rfl) (fun w' hw' => ?_) ?_; rotate_left
            · go_simp <;> first | rfl | exact ⟨rfl, rfl⟩
            simp only [Act.put, List.setIfInBounds_toArray, List.set_cons_zero, List.set_cons_succ]
            refine' wpT_det (o := ⟨some 31, Op.move (Operand.tmp 5), 2, "l05_sparse.go:206", #[], none⟩) rfl (by rfl) (by rfl) (fun w' hw' => ?_) ?_; rotate_left
            · go_simp <;> first | rfl | exact ⟨rfl, rfl⟩
            simp only [Act.put, List.setIfInBounds_toArray, List.set_cons_zero, List.set_cons_succ]
            refine' wpT_det (o := ⟨some 32, Op.fieldAddr 27 (Operand.tmp 1) 2, 0, "l05_sparse.go:206", #[], none⟩) rfl (by rfl) (by rfl) (fun w' hw' => ?_) ?_; rotate_left
            · go_simp <;> first | rfl | exact ⟨rfl, rfl⟩
            simp only [Act.put, List.setIfInBounds_toArray, List.set_cons_zero, List.set_cons_succ]
            refine' wpT_det (o := ⟨some 33, Op.load 22 (Operand.tmp 32), 22, "l05_sparse.go:206", #[{ on := 2, ground := Ground.data }], none⟩) rfl (by rfl) (by rfl) (fun w' hw' => ?_) ?_; rotate_left
            · have c2_ := Ext.cell hw' c2; have hd_ := Ext.cell hw' hd; go_simp <;> first | rfl | exact ⟨rfl, rfl⟩
            simp only [Act.put, List.setIfInBounds_toArray, List.set_cons_zero, List.set_cons_succ]
            refine' wpT_det (o := ⟨some 34, Op.move (Operand.tmp 6), 2, "l05_sparse.go:206", #[], none⟩) rfl (by rfl) (by rfl) (fun w' hw' => ?_) ?_; rotate_left
            · go_simp <;> first | rfl | exact ⟨rfl, rfl⟩
            simp only [Act.put, List.setIfInBounds_toArray, List.set_cons_zero, List.set_cons_succ]
            refine' wpT_det (o := ⟨some 35, Op.indexAddr 22 (Operand.tmp 33) (Operand.tmp 34), 0, "l05_sparse.go:206", #[{ on := 3, ground := Ground.data }, { on := 4, ground := Ground.data }], none⟩) rfl (by rfl) (by rfl) (fun w' hw' => ?_) ?_; rotate_left
            · go_simp <;> first | rfl | exact ⟨rfl, rfl⟩
            simp only [Act.put, List.setIfInBounds_toArray, List.set_cons_zero, List.set_cons_succ]
            refine' wpT_det (o := ⟨some 36, Op.load 2 (Operand.tmp 35), 2, "l05_sparse.go:206", #[{ on := 5, ground := Ground.data }], none⟩) rfl (by rfl) (by rfl) (fun w' hw' => ?_) ?_; rotate_left
            · have c2_ := Ext.cell hw' c2; have hd_ := Ext.cell hw' hd; go_simp <;> first | rfl | exact ⟨rfl, rfl⟩
            simp only [Act.put, List.setIfInBounds_toArray, List.set_cons_zero, List.set_cons_succ]
            refine' wpT_det (o := ⟨some 37, Op.binOp BinOp.sub 2 (Operand.tmp 31) (Operand.tmp 36) 2, 2, "l05_sparse.go:206", #[{ on := 1, ground := Ground.data }, { on := 6, ground := Ground.data }], none⟩) rfl (by rfl) (by rfl) (fun w' hw' => ?_) ?_; rotate_left
            · go_simp <;> first | rfl | exact ⟨rfl, rfl⟩
            simp only [Act.put, List.setIfInBounds_toArray, List.set_cons_zero, List.set_cons_succ]
            refine' wpT_det (o := ⟨some 38, Op.fieldAddr 27 (Operand.tmp 1) 2, 0, "l05_sparse.go:206", #[], none⟩) rfl (by rfl) (by rfl) (fun w' hw' => ?_) ?_; rotate_left
            · go_simp <;> first | rfl | exact ⟨rfl, rfl⟩
            simp only [Act.put, List.setIfInBounds_toArray, List.set_cons_zero, List.set_cons_succ]
            refine' wpT_det (o := ⟨some 39, Op.load 22 (Operand.tmp 38), 22, "l05_sparse.go:206", #[{ on := 8, ground := Ground.data }], none⟩) rfl (by rfl) (by rfl) (fun w' hw' => ?_) ?_; rotate_left
            · have c2_ := Ext.cell hw' c2; have hd_ := Ext.cell hw' hd; go_simp <;> first | rfl | exact ⟨rfl, rfl⟩
            simp only [Act.put, List.setIfInBounds_toArray, List.set_cons_zero, List.set_cons_succ]
            refine' wpT_det (o := ⟨some 40, Op.move (Operand.tmp 6), 2, "l05_sparse.go:206", #[], none⟩) rfl (by rfl) (by rfl) (fun w' hw' => ?_) ?_; rotate_left
            · go_simp <;> first | rfl | exact ⟨rfl, rfl⟩
            simp only [Act.put, List.setIfInBounds_toArray, List.set_cons_zero, List.set_cons_succ]
            refine' wpT_det (o := ⟨some 41, Op.indexAddr 22 (Operand.tmp 39) (Operand.tmp 40), 0, "l05_sparse.go:206", #[{ on := 9, ground := Ground.data }, { on := 10, ground := Ground.data }], none⟩) rfl (by rfl) (by rfl) (fun w' hw' => ?_) ?_; rotate_left
            · go_simp <;> first | rfl | exact ⟨rfl, rfl⟩
            simp only [Act.put, List.setIfInBounds_toArray, List.set_cons_zero, List.set_cons_succ]
            refine' wpT_det (o := ⟨some 42, Op.load 2 (Operand.tmp 41), 2, "l05_sparse.go:206", #[{ on := 11, ground := Ground.data }], none⟩) rfl (by rfl) (by rfl) (fun w' hw' => ?_) ?_; rotate_left
            · have c2_ := Ext.cell hw' c2; have hd_ := Ext.cell hw' hd; go_simp <;> first | rfl | exact ⟨rfl, rfl⟩
            simp only [Act.put, List.setIfInBounds_toArray, List.set_cons_zero, List.set_cons_succ]
            refine' wpT_det (o := ⟨some 43, Op.move (Operand.tmp 5), 2, "l05_sparse.go:206", #[], none⟩) rfl (by rfl) (by rfl) (fun w' hw' => ?_) ?_; rotate_left
            · go_simp <;> first | rfl | exact ⟨rfl, rfl⟩
            simp only [Act.put, List.setIfInBounds_toArray, List.set_cons_zero, List.set_cons_succ]
            refine' wpT_det (o := ⟨some 44, Op.binOp BinOp.sub 2 (Operand.tmp 42) (Operand.tmp 43) 2, 2, "l05_sparse.go:206", #[{ on := 12, ground := Ground.data }, { on := 13, ground := Ground.data }], none⟩) rfl (by rfl) (by rfl) (fun w' hw' => ?_) ?_; rotate_left
            · go_simp <;> first | rfl | exact ⟨rfl, rfl⟩
            simp only [Act.put, List.setIfInBounds_toArray, List.set_cons_zero, List.set_cons_succ]
            refine wpT_nd (o := ⟨some 45, Op.call { callee := Callee.value (Operand.func 112), args := #[Operand.tmp 37, Operand.tmp 44], argTypes := #[2, 2] }, 2, "l05_sparse.go:206", #[{ on := 7, ground := Ground.data }, { on := 14, ground := Ground.data }], none⟩) rfl (by rfl) (by rfl) (fun w' hw' hF R__ hGo => ?_) ⟨_, rfl⟩ ?_
            · go_simp
              refine gives_enter rfl ?_
              refine (l00Max_any _ _ _ E3.out _).mono ?_
              rintro e w2 ⟨rfl, rfl⟩
              exact ⟨_, rfl, hGo _ _ (Ext.refl _) rfl trivial⟩
            intro v hv
            obtain rfl : v = (.int .i64 ((dst i j : Nat) : Int)) := hv
            simp only [Act.put, List.setIfInBounds_toArray, List.set_cons_zero, List.set_cons_succ]
            refine wpT_nd (o := ⟨some 46, Op.call { callee := Callee.value (Operand.func 112), args := #[Operand.tmp 30, Operand.tmp 45], argTypes := #[2, 2] }, 2, "l05_sparse.go:206", #[{ on := 0, ground := Ground.data }, { on := 15, ground := Ground.data }, { on := 15, ground := Ground.chain }], none⟩) rfl (by rfl) (by rfl) (fun w' hw' hF R__ hGo => ?_) ⟨_, rfl⟩ ?_
            · go_simp
              refine gives_enter rfl ?_
              refine (l00Max_any _ _ _ E4.out _).mono ?_
              rintro e w2 ⟨rfl, rfl⟩
              exact ⟨_, rfl, hGo _ _ (Ext.refl _) rfl trivial⟩
            intro v hv
            obtain rfl : v = (.int .i64 ((max vv (dst i j) : Nat) : Int)) := hv
            simp only [Act.put, List.setIfInBounds_toArray, List.set_cons_zero, List.set_cons_succ]
            refine' wpT_det (o := ⟨some 4, Op.assign (Operand.tmp 46), 2, "l05_sparse.go:206", #[{ on := 16, ground := Ground.data }, { on := 16, ground := Ground.chain }, { on := 0, ground := Ground.phase }, { on := 1, ground := Ground.phase }, { on := 2, ground := Ground.phase }, { on := 3, ground := Ground.phase }, { on := 4, ground := Ground.phase }, { on := 5, ground := Ground.phase }, { on := 6, ground := Ground.phase }, { on := 7, ground := Ground.phase }, { on := 8, ground := Ground.phase }, { on := 9, ground := Ground.phase }, { on := 10, ground := Ground.phase }, { on := 11, ground := Ground.phase }, { on := 12, ground := Ground.phase }, { on := 13, ground := Ground.phase }, { on := 14, ground := Ground.phase }, { on := 15, ground := Ground.phase }, { on := 16, ground := Ground.phase }], none⟩) rfl (by rfl) (by rfl) (fun w' hw' => ?_) ?_; rotate_left
            · go_simp <;> first | rfl | exact ⟨rfl, rfl⟩
            simp only [Act.put, List.setIfInBounds_toArray, List.set_cons_zero, List.set_cons_succ]
            refine wpT_nil (fun w6 hw' hF => ?_)
            refine wpList_nil ?_
            have yC := yB.trans hw'.undrew
            clear hF hw' c1 c2 hc1 hd
            go_wp2_with fail
            go_roundw
            case rel => exact ⟨k + 1, max vv (dst i j), by omega, by omega, rfl, by go_num, HB2, yC⟩
            case measure => simp [intOf]; omega
          · obtain rfl : k = s1 := by omega
            go_wp2_with fail
            go_roundw
            case rel =>
              have e1 : ((i + 1 : Nat) : Int) = (i : Int) + 1 := by omega
              refine ⟨i + 1, vv, by omega, rfl, by go_num, ?_, yB⟩
              rw [e1, HS1.out, Int.toNat_natCast]
              exact HST
            case measure => simp [intOf]; omega
      · obtain rfl : i = N := by omega
        have em : (rd st i).toNat = m := by rw [HSP.out.s7, HM.out]; omega
        rw [em] at HST
        obtain rfl := HY.out _ v HST.out (fun a b _ _ h => by rw [h]; rfl)
        clear em HST HY
        go_wp2_with fail
        refine bodyPost_ret (v := .tuple #[.int .i64 v, .bool true]) (by simp only [results, Try.results42]; simp [go_sem]) rfl ⟨rfl, hx0.trans yA⟩

end Go.Proofs.Ytkifpligpobiaaa
