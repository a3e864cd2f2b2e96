
/- SparseAt. -/

import Derived.Test.YtkifpligpobiaaaK7

import Derived.Test.YtkifpligpobiaaaR1

import Derived.Test.YtkifpligpobiaaaQ4

import Derived.Test.YtkifpligpobiaaaV2

import Derived.Test.YtkifpligpobiaaaB2M
set_option linter.unusedVariables false
set_option linter.unusedSimpArgs false

namespace Go.Proofs.Ytkifpligpobiaaa

open Go.RowKit


/-- A finite number among those of f64. -/
theorem conv_fin {x : Nat} (h : isFin .f32 x = true) : ∃ y, ∀ w, (convert 43 47 (.float .f32 x)).run Try.prog w = .ok (.float .f64 y) w := by
  cases hw : wide x with
  | none =>
    have h1 := wide_none hw
    unfold isFin at h
    split at h
    · rename_i hd; rw [hd] at h1; cases h1
    · cases h
  | some y => exact ⟨y, fun w => run_convert_float_float w _ _ .f32 .f64 x y (by rw [u32f]; rfl) u64f hw⟩

set_option maxRecDepth 20000 in
set_option maxHeartbeats 4000000 in
theorem implSparseAt_any (sd : Int) (A : Option Addr) (n ca : Nat) (B : Option Addr) (m cb : Nat) (V : Option Addr) (p cv : Nat) (row column : Int) (st co : List Int) (va : List Nat) (w : World) (hr : Rds w A n (ints st)) (hq : Rds w B m (ints co)) (hv : Rds w V p (flts va)) :
    Calls Try.prog 40 #[.agg #[.int .i64 sd, .slice A n ca, .slice B m cb, .slice V p cv], .int .i64 row, .int .i64 column] w fun e w' => e = .returned (.tuple #[.float .f32 (atD sd st co va row column).1, .bool (atD sd st co va row column).2]) ∧ Ext w w' := by
  have HM := Lib.hid hq.ilen
  cases hs : isSp sd st co va with
  | false =>
    have hd : atD sd st co va row column = (0, false) := by unfold atD; rw [hs]; rfl
    rw [hd]
    clear hd
    go_enter Try.func40, Try.ntmps40
    go_upto_region 1 with (fail)
    obtain ⟨w0, hw0⟩ : ∃ w0, w0 = (w.alloc (.cells #[.int .i64 sd, .slice A n ca, .slice B m cb, .slice V p cv] 27)) := ⟨_, rfl⟩
    have hx0 : Ext w w0 := by subst hw0; exact (Ext.refl _).alloc _
    have ba : Blk w0 (w.heap.size) #[.int .i64 sd, .slice A n ca, .slice B m cb, .slice V p cv] 27 := by subst hw0; exact (Blk.new w _ _)
    rw [← hw0]
    clear hw0
    have c0 := ba.cell 0 rfl
    have c1 := ba.cell 1 rfl
    have c2 := ba.cell 2 rfl
    have c3 := ba.cell 3 rfl
    go_wp2_with fail
    refine (implValidSparse_any sd A n ca B m cb V p cv st co va _ (hr.below hx0) (hq.below hx0) (hv.below hx0)).mono ?_
    rintro e w1 ⟨rfl, hx⟩
    rw [hs]
    replace ba := ba.ext hx
    replace hx0 := hx0.trans hx
    clear hx c0 c1 c2 c3
    have c0 := ba.cell 0 rfl
    have c1 := ba.cell 1 rfl
    have c2 := ba.cell 2 rfl
    have c3 := ba.cell 3 rfl

    go_wp2_with fail
    refine bodyPost_ret (v := .tuple #[.float .f32 0, .bool false]) (by simp only [results, Try.results40]; simp [go_sem]) rfl ⟨rfl, hx0⟩
  | true =>
    have hsp := isSp_iff.1 hs
    obtain ⟨N, rfl⟩ : ∃ N : Nat, sd = N := ⟨sd.toNat, by have := hsp.s1; omega⟩
    have hn1 : 1 ≤ N := by have := hsp.s1; omega
    have hn32 : N ≤ 32 := by have := hsp.s1; omega
    have gw : IntKind.i64.wrap ((N : Int) - 1) = (N : Int) - 1 := IntWalk.i64_in _ (by omega)
    have HSP := Lib.hid hsp
    clear hsp
    cases h1 : inR 0 row (N - 1) with
    | false =>
      have hd : atD N st co va row column = (0, false) := by unfold atD; rw [h1]; simp
      rw [hd]
      clear hd
      go_enter Try.func40, Try.ntmps40
      go_upto_region 1 with (fail)
      obtain ⟨w0, hw0⟩ : ∃ w0, w0 = (w.alloc (.cells #[.int .i64 N, .slice A n ca, .slice B m cb, .slice V p cv] 27)) := ⟨_, rfl⟩
      have hx0 : Ext w w0 := by subst hw0; exact (Ext.refl _).alloc _
      have ba : Blk w0 (w.heap.size) #[.int .i64 N, .slice A n ca, .slice B m cb, .slice V p cv] 27 := by subst hw0; exact (Blk.new w _ _)
      rw [← hw0]
      clear hw0
      have c0 := ba.cell 0 rfl
      have c1 := ba.cell 1 rfl
      have c2 := ba.cell 2 rfl
      have c3 := ba.cell 3 rfl
      go_wp2_with fail
      refine (implValidSparse_any N A n ca B m cb V p cv st co va _ (hr.below hx0) (hq.below hx0) (hv.below hx0)).mono ?_
      rintro e w1 ⟨rfl, hx⟩
      rw [hs]
      replace ba := ba.ext hx
      replace hx0 := hx0.trans hx
      clear hx c0 c1 c2 c3
      have c0 := ba.cell 0 rfl
      have c1 := ba.cell 1 rfl
      have c2 := ba.cell 2 rfl
      have c3 := ba.cell 3 rfl

      go_wp2_with fail
      refine (inRange_any _ _ _ _).mono ?_
      rintro e w2 ⟨rfl, rfl⟩
      rw [h1]
      go_wp2_with fail
      refine bodyPost_ret (v := .tuple #[.float .f32 0, .bool false]) (by simp only [results, Try.results40]; simp [go_sem]) rfl ⟨rfl, hx0⟩
    | true =>
      cases h2 : inR 0 column (N - 1) with
      | false =>
        have hd : atD N st co va row column = (0, false) := by unfold atD; rw [h2]; simp
        rw [hd]
        clear hd
        go_enter Try.func40, Try.ntmps40
        go_upto_region 1 with (fail)
        obtain ⟨w0, hw0⟩ : ∃ w0, w0 = (w.alloc (.cells #[.int .i64 N, .slice A n ca, .slice B m cb, .slice V p cv] 27)) := ⟨_, rfl⟩
        have hx0 : Ext w w0 := by subst hw0; exact (Ext.refl _).alloc _
        have ba : Blk w0 (w.heap.size) #[.int .i64 N, .slice A n ca, .slice B m cb, .slice V p cv] 27 := by subst hw0; exact (Blk.new w _ _)
        rw [← hw0]
        clear hw0
        have c0 := ba.cell 0 rfl
        have c1 := ba.cell 1 rfl
        have c2 := ba.cell 2 rfl
        have c3 := ba.cell 3 rfl
        go_wp2_with fail
        refine (implValidSparse_any N A n ca B m cb V p cv st co va _ (hr.below hx0) (hq.below hx0) (hv.below hx0)).mono ?_
        rintro e w1 ⟨rfl, hx⟩
        rw [hs]
        replace ba := ba.ext hx
        replace hx0 := hx0.trans hx
        clear hx c0 c1 c2 c3
        have c0 := ba.cell 0 rfl
        have c1 := ba.cell 1 rfl
        have c2 := ba.cell 2 rfl
        have c3 := ba.cell 3 rfl

        go_wp2_with fail
        refine (inRange_any _ _ _ _).mono ?_
        rintro e w2 ⟨rfl, rfl⟩
        rw [h1]
        go_wp2_with fail
        refine (inRange_any _ _ _ _).mono ?_
        rintro e w2 ⟨rfl, rfl⟩
        rw [h2]
        go_wp2_with fail
        refine bodyPost_ret (v := .tuple #[.float .f32 0, .bool false]) (by simp only [results, Try.results40]; simp [go_sem]) rfl ⟨rfl, hx0⟩
      | true =>
        have hd : atD N st co va row column = (((vw st co va m row.toNat column.toNat).getD (some 0)).getD 0, true) := by unfold atD; rw [hs, h1, h2, HM.out]; rfl
        rw [hd]
        clear hd
        have b1 := inR_iff.1 h1
        have b2 := inR_iff.1 h2
        obtain ⟨i, rfl⟩ : ∃ i : Nat, row = i := ⟨row.toNat, by omega⟩
        obtain ⟨j, rfl⟩ : ∃ j : Nat, column = j := ⟨column.toNat, by omega⟩
        have hi : i < N := by omega
        have hj : j < N := by omega
        rw [Int.toNat_natCast, Int.toNat_natCast]
        obtain ⟨Y, hY⟩ : ∃ Y, Y = ((vw st co va m i j).getD (some 0)).getD 0 := ⟨_, rfl⟩
        have HY : Hid (∀ x, c32 x = (vw st co va m i j).getD (some 0) → x = Y) := by show _; intro x hx; rw [hY, ← HM.out]; rw [← HM.out] at hx; exact at_word HSP.out hx
        rw [← hY]
        clear hY b1 b2
        go_enter Try.func40, Try.ntmps40
        go_upto_region 1 with (fail)
        obtain ⟨w0, hw0⟩ : ∃ w0, w0 = (w.alloc (.cells #[.int .i64 N, .slice A n ca, .slice B m cb, .slice V p cv] 27)) := ⟨_, rfl⟩
        have hx0 : Ext w w0 := by subst hw0; exact (Ext.refl _).alloc _
        have ba : Blk w0 (w.heap.size) #[.int .i64 N, .slice A n ca, .slice B m cb, .slice V p cv] 27 := by subst hw0; exact (Blk.new w _ _)
        rw [← hw0]
        clear hw0
        have c0 := ba.cell 0 rfl
        have c1 := ba.cell 1 rfl
        have c2 := ba.cell 2 rfl
        have c3 := ba.cell 3 rfl
        go_wp2_with fail
        refine (implValidSparse_any N A n ca B m cb V p cv st co va _ (hr.below hx0) (hq.below hx0) (hv.below hx0)).mono ?_
        rintro e w1 ⟨rfl, hx⟩
        rw [hs]
        replace ba := ba.ext hx
        replace hx0 := hx0.trans hx
        clear hx c0 c1 c2 c3
        have c0 := ba.cell 0 rfl
        have c1 := ba.cell 1 rfl
        have c2 := ba.cell 2 rfl
        have c3 := ba.cell 3 rfl

        go_wp2_with fail
        refine (inRange_any _ _ _ _).mono ?_
        rintro e w2 ⟨rfl, rfl⟩
        rw [h1]
        go_wp2_with fail
        refine (inRange_any _ _ _ _).mono ?_
        rintro e w2 ⟨rfl, rfl⟩
        rw [h2]
        go_wp2_with fail
        refine (numbers_any N A n ca B m cb V p cv st co va HSP.out _ (hr.below hx0) (hq.below hx0) (hv.below hx0)).mono ?_
        rintro e w3 ⟨b, rfl, hM, hb, hx⟩
        obtain ⟨x, hrun, hxc⟩ := hM.look1 hn32 hi hj
        obtain rfl := HY.out x hxc
        simp only [placeV] at hrun
        clear hxc HY
        go_wp2_with fail
        refine bodyPost_ret (v := .tuple #[.float .f32 x, .bool true]) (by simp only [results, Try.results40]; simp [go_sem]) rfl ⟨rfl, hx0.trans hx⟩

set_option maxRecDepth 20000 in
set_option maxHeartbeats 4000000 in
theorem specSparseAt_any (sd : Int) (A : Option Addr) (n ca : Nat) (B : Option Addr) (m cb : Nat) (V : Option Addr) (p cv : Nat) (row column : Int) (st co : List Int) (va : List Nat) (w : World) (hr : Rds w A n (ints st)) (hq : Rds w B m (ints co)) (hv : Rds w V p (flts va)) :
    Calls Try.prog 39 #[.agg #[.int .i64 sd, .slice A n ca, .slice B m cb, .slice V p cv], .int .i64 row, .int .i64 column] w fun e w' => e = .returned (.tuple #[.float .f32 (atD sd st co va row column).1, .bool (atD sd st co va row column).2]) ∧ Ext w w' := by
  have HM := Lib.hid hq.ilen
  cases hs : isSp sd st co va with
  | false =>
    have hd : atD sd st co va row column = (0, false) := by unfold atD; rw [hs]; rfl
    rw [hd]
    clear hd
    go_enter Try.func39, Try.ntmps39
    go_upto_region 1 with (fail)
    obtain ⟨w0, hw0⟩ : ∃ w0, w0 = (w.alloc (.cells #[.int .i64 sd, .slice A n ca, .slice B m cb, .slice V p cv] 27)) := ⟨_, rfl⟩
    have hx0 : Ext w w0 := by subst hw0; exact (Ext.refl _).alloc _
    have ba : Blk w0 (w.heap.size) #[.int .i64 sd, .slice A n ca, .slice B m cb, .slice V p cv] 27 := by subst hw0; exact (Blk.new w _ _)
    rw [← hw0]
    clear hw0
    have c0 := ba.cell 0 rfl
    have c1 := ba.cell 1 rfl
    have c2 := ba.cell 2 rfl
    have c3 := ba.cell 3 rfl
    go_wp2_with fail
    refine (l05Is_any _ sd A n ca B m cb V p cv st co va _ (SAt.of ba (hr.below hx0) (hq.below hx0) (hv.below hx0))).mono ?_
    rintro e w1 ⟨rfl, hx⟩
    rw [hs]
    replace ba := ba.ext hx
    replace hx0 := hx0.trans hx
    clear hx c0 c1 c2 c3
    have c0 := ba.cell 0 rfl
    have c1 := ba.cell 1 rfl
    have c2 := ba.cell 2 rfl
    have c3 := ba.cell 3 rfl

    go_wp2_with fail
    refine bodyPost_ret (v := .tuple #[.float .f32 0, .bool false]) (by simp only [results, Try.results39]; simp [go_sem]) rfl ⟨rfl, hx0⟩
  | true =>
    have hsp := isSp_iff.1 hs
    obtain ⟨N, rfl⟩ : ∃ N : Nat, sd = N := ⟨sd.toNat, by have := hsp.s1; omega⟩
    have hn1 : 1 ≤ N := by have := hsp.s1; omega
    have hn32 : N ≤ 32 := by have := hsp.s1; omega
    have gw : IntKind.i64.wrap ((N : Int) - 1) = (N : Int) - 1 := IntWalk.i64_in _ (by omega)
    have HSP := Lib.hid hsp
    clear hsp
    cases h1 : inR 0 row (N - 1) with
    | false =>
      have hd : atD N st co va row column = (0, false) := by unfold atD; rw [h1]; simp
      rw [hd]
      clear hd
      go_enter Try.func39, Try.ntmps39
      go_upto_region 1 with (fail)
      obtain ⟨w0, hw0⟩ : ∃ w0, w0 = (w.alloc (.cells #[.int .i64 N, .slice A n ca, .slice B m cb, .slice V p cv] 27)) := ⟨_, rfl⟩
      have hx0 : Ext w w0 := by subst hw0; exact (Ext.refl _).alloc _
      have ba : Blk w0 (w.heap.size) #[.int .i64 N, .slice A n ca, .slice B m cb, .slice V p cv] 27 := by subst hw0; exact (Blk.new w _ _)
      rw [← hw0]
      clear hw0
      have c0 := ba.cell 0 rfl
      have c1 := ba.cell 1 rfl
      have c2 := ba.cell 2 rfl
      have c3 := ba.cell 3 rfl
      go_wp2_with fail
      refine (l05Is_any _ N A n ca B m cb V p cv st co va _ (SAt.of ba (hr.below hx0) (hq.below hx0) (hv.below hx0))).mono ?_
      rintro e w1 ⟨rfl, hx⟩
      rw [hs]
      replace ba := ba.ext hx
      replace hx0 := hx0.trans hx
      clear hx c0 c1 c2 c3
      have c0 := ba.cell 0 rfl
      have c1 := ba.cell 1 rfl
      have c2 := ba.cell 2 rfl
      have c3 := ba.cell 3 rfl

      go_wp2_with fail
      refine (l00In_any _ _ _ _).mono ?_
      rintro e w2 ⟨rfl, rfl⟩
      rw [h1]
      go_wp2_with fail
      refine bodyPost_ret (v := .tuple #[.float .f32 0, .bool false]) (by simp only [results, Try.results39]; simp [go_sem]) rfl ⟨rfl, hx0⟩
    | true =>
      cases h2 : inR 0 column (N - 1) with
      | false =>
        have hd : atD N st co va row column = (0, false) := by unfold atD; rw [h2]; simp
        rw [hd]
        clear hd
        go_enter Try.func39, Try.ntmps39
        go_upto_region 1 with (fail)
        obtain ⟨w0, hw0⟩ : ∃ w0, w0 = (w.alloc (.cells #[.int .i64 N, .slice A n ca, .slice B m cb, .slice V p cv] 27)) := ⟨_, rfl⟩
        have hx0 : Ext w w0 := by subst hw0; exact (Ext.refl _).alloc _
        have ba : Blk w0 (w.heap.size) #[.int .i64 N, .slice A n ca, .slice B m cb, .slice V p cv] 27 := by subst hw0; exact (Blk.new w _ _)
        rw [← hw0]
        clear hw0
        have c0 := ba.cell 0 rfl
        have c1 := ba.cell 1 rfl
        have c2 := ba.cell 2 rfl
        have c3 := ba.cell 3 rfl
        go_wp2_with fail
        refine (l05Is_any _ N A n ca B m cb V p cv st co va _ (SAt.of ba (hr.below hx0) (hq.below hx0) (hv.below hx0))).mono ?_
        rintro e w1 ⟨rfl, hx⟩
        rw [hs]
        replace ba := ba.ext hx
        replace hx0 := hx0.trans hx
        clear hx c0 c1 c2 c3
        have c0 := ba.cell 0 rfl
        have c1 := ba.cell 1 rfl
        have c2 := ba.cell 2 rfl
        have c3 := ba.cell 3 rfl

        go_wp2_with fail
        refine (l00In_any _ _ _ _).mono ?_
        rintro e w2 ⟨rfl, rfl⟩
        rw [h1]
        go_wp2_with fail
        refine (l00In_any _ _ _ _).mono ?_
        rintro e w2 ⟨rfl, rfl⟩
        rw [h2]
        go_wp2_with fail
        refine bodyPost_ret (v := .tuple #[.float .f32 0, .bool false]) (by simp only [results, Try.results39]; simp [go_sem]) rfl ⟨rfl, hx0⟩
      | true =>
        have hd : atD N st co va row column = (((vw st co va m row.toNat column.toNat).getD (some 0)).getD 0, true) := by unfold atD; rw [hs, h1, h2, HM.out]; rfl
        rw [hd]
        clear hd
        have b1 := inR_iff.1 h1
        have b2 := inR_iff.1 h2
        obtain ⟨i, rfl⟩ : ∃ i : Nat, row = i := ⟨row.toNat, by omega⟩
        obtain ⟨j, rfl⟩ : ∃ j : Nat, column = j := ⟨column.toNat, by omega⟩
        have hi : i < N := by omega
        have hj : j < N := by omega
        rw [Int.toNat_natCast, Int.toNat_natCast]
        obtain ⟨Y, hY⟩ : ∃ Y, Y = ((vw st co va m i j).getD (some 0)).getD 0 := ⟨_, rfl⟩
        have HY : Hid (∀ x, c32 x = (vw st co va m i j).getD (some 0) → x = Y) := by show _; intro x hx; rw [hY, ← HM.out]; rw [← HM.out] at hx; exact at_word HSP.out hx
        rw [← hY]
        clear hY b1 b2
        go_enter Try.func39, Try.ntmps39
        go_upto_region 1 with (fail)
        obtain ⟨w0, hw0⟩ : ∃ w0, w0 = (w.alloc (.cells #[.int .i64 N, .slice A n ca, .slice B m cb, .slice V p cv] 27)) := ⟨_, rfl⟩
        have hx0 : Ext w w0 := by subst hw0; exact (Ext.refl _).alloc _
        have ba : Blk w0 (w.heap.size) #[.int .i64 N, .slice A n ca, .slice B m cb, .slice V p cv] 27 := by subst hw0; exact (Blk.new w _ _)
        rw [← hw0]
        clear hw0
        have c0 := ba.cell 0 rfl
        have c1 := ba.cell 1 rfl
        have c2 := ba.cell 2 rfl
        have c3 := ba.cell 3 rfl
        go_wp2_with fail
        refine (l05Is_any _ N A n ca B m cb V p cv st co va _ (SAt.of ba (hr.below hx0) (hq.below hx0) (hv.below hx0))).mono ?_
        rintro e w1 ⟨rfl, hx⟩
        rw [hs]
        replace ba := ba.ext hx
        replace hx0 := hx0.trans hx
        clear hx c0 c1 c2 c3
        have c0 := ba.cell 0 rfl
        have c1 := ba.cell 1 rfl
        have c2 := ba.cell 2 rfl
        have c3 := ba.cell 3 rfl

        go_wp2_with fail
        refine (l00In_any _ _ _ _).mono ?_
        rintro e w2 ⟨rfl, rfl⟩
        rw [h1]
        go_wp2_with fail
        refine (l00In_any _ _ _ _).mono ?_
        rintro e w2 ⟨rfl, rfl⟩
        rw [h2]
        go_wp2_with fail
        refine (l05Open_any _ N A n ca B m cb V p cv st co va HSP.out _ (SAt.of ba (hr.below hx0) (hq.below hx0) (hv.below hx0))).mono ?_
        rintro e w3 ⟨T, k2, U, q2, zs, rfl, hy, o1, o2, hx⟩
        replace ba := ba.ext hx
        replace hx0 := hx0.trans hx
        clear hx c0 c1 c2 c3
        go_upto_region 4 with (fail)
        have bf := Blk.new w3 #[.int .i64 N, .slice T (N * N) k2, .slice U (N * N) q2] 71
        have xg : Ext w3 (w3.alloc (.cells #[.int .i64 N, .slice T (N * N) k2, .slice U (N * N) q2] 71)) := (Ext.refl _).alloc _
        replace ba := ba.ext xg
        replace hx0 := hx0.trans xg
        replace o2 := o2.ext xg
        obtain ⟨w4, hw4⟩ : ∃ v : World, v = w3.alloc (.cells #[.int .i64 N, .slice T (N * N) k2, .slice U (N * N) q2] 71) := ⟨_, rfl⟩
        rw [← hw4] at bf ba hx0 o2 ⊢
        clear xg hw4 o1
        obtain ⟨i1, i2, i3, i4, i5, i6⟩ := ix32 hi hj hn32
        obtain ⟨ad, hAd, he⟩ := o2.reads.fltN (i * N + j) (ix_lt hi hj)
        subst hAd
        have hxw := HY.out _ (nb_at hy hi hj)
        obtain ⟨x, hxv⟩ : ∃ x, x = rdf zs ((i * N + j : Nat) : Int) := ⟨_, rfl⟩
        rw [← hxv] at he hxw
        obtain rfl := hxw
        have c0 := ba.cell 0 rfl
        have d2 := bf.cell 2 rfl
        clear hxv HY
        go_wp2_with fail
        refine bodyPost_ret (v := .tuple #[.float .f32 x, .bool true]) (by simp only [results, Try.results39]; simp [go_sem]) rfl ⟨rfl, hx0⟩

end Go.Proofs.Ytkifpligpobiaaa
