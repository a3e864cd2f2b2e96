
/- SparseOrder, the reference. -/

import Derived.Test.YtkifpligpobiaaaO1

import Derived.Test.YtkifpligpobiaaaN2
set_option linter.unusedVariables false
set_option linter.unusedSimpArgs false

namespace Go.Proofs.Ytkifpligpobiaaa

open Go.RowKit


/-- The square with its rows and columns in another order. -/
def orM (M : Sqr) (xs : List Int) : Sqr := fun i j => M (rd xs i).toNat (rd xs j).toNat
noncomputable def orderD (sd : Int) (st co : List Int) (va : List Nat) (xs : List Int) : SD := if isSp sd st co va && prmB sd.toNat xs then giveSp sd.toNat (orM (vw st co va co.length) xs) else SD.bad
/-- .. as far as it has been written. -/
def orS (n : Nat) (M : Sqr) (xs : List Int) (i j : Nat) : Sqr := fun a b => if (a < i ∧ b < n) ∨ (a = i ∧ b < j) then orM M xs a b else none
theorem orS_zero (n : Nat) (M : Sqr) (xs : List Int) : orS n M xs 0 0 = noneM := by
  funext a b
  unfold orS
  rw [if_neg (by omega)]
  rfl
theorem orS_row (n : Nat) (M : Sqr) (xs : List Int) (i : Nat) : orS n M xs i n = orS n M xs (i + 1) 0 := by
  funext a b
  unfold orS
  by_cases h : (a < i ∧ b < n) ∨ (a = i ∧ b < n)
  · rw [if_pos h, if_pos (by omega)]
  · rw [if_neg h, if_neg (by omega)]
theorem orS_here (n : Nat) (M : Sqr) (xs : List Int) (i j : Nat) : orS n M xs i (j + 1) i j = orM M xs i j := by
  unfold orS
  rw [if_pos (by omega)]
theorem orS_other (n : Nat) (M : Sqr) (xs : List Int) {i j a b : Nat} (h : ¬ (a = i ∧ b = j)) : orS n M xs i (j + 1) a b = orS n M xs i j a b := by
  unfold orS
  by_cases e : (a < i ∧ b < n) ∨ (a = i ∧ b < j)
  · rw [if_pos e, if_pos (by omega)]
  · rw [if_neg e, if_neg (by omega)]
theorem orS_end {n : Nat} (M : Sqr) (xs : List Int) : ∀ a b, a < n → b < n → orS n M xs n 0 a b = orM M xs a b := by
  intro a b ha hb
  unfold orS
  rw [if_pos (.inl ⟨ha, hb⟩)]
theorem orS_tb {n i j : Nat} (M : Sqr) (xs : List Int) (hi : i < n) (hj : j < n) {u v : Nat} (hu : rd xs i = u) (hv : rd xs j = v) : (tb n (orS n M xs i j)).set (i * n + j) (M u v).isSome = tb n (orS n M xs i (j + 1)) :=
  tb_set hi hj (by rw [orS_here]; unfold orM; rw [hu, hv]; rfl) (fun a b h => by rw [orS_other n M xs h])
theorem orS_nb {n i j : Nat} (M : Sqr) (xs : List Int) (hi : i < n) (hj : j < n) {u v : Nat} (hu : rd xs i = u) (hv : rd xs j = v) {x : Option Nat} (hx : x = (M u v).getD (some 0)) : (nb n (orS n M xs i j)).set (i * n + j) x = nb n (orS n M xs i (j + 1)) :=
  nb_set hi hj (by rw [orS_here, hx]; unfold orM; rw [hu, hv]; rfl) (fun a b h => by rw [orS_other n M xs h])

set_option maxRecDepth 20000 in
set_option maxHeartbeats 8000000 in
theorem specSparseOrder_any (sd : Int) (A : Option Addr) (n ca : Nat) (B : Option Addr) (m cb : Nat) (V : Option Addr) (p cv : Nat) (S : Option Addr) (k0 cS : Nat) (st co : List Int) (va : List Nat) (xs : List Int) (w : World) (hr : Rds w A n (ints st)) (hq : Rds w B m (ints co)) (hv : Rds w V p (flts va)) (hS : Rds w S k0 (ints xs)) :
    Calls Try.prog 27 #[.agg #[.int .i64 sd, .slice A n ca, .slice B m cb, .slice V p cv], .slice S k0 cS] w (RetSqB w (orderD sd st co va xs)) := by
  have HM := Lib.hid hq.ilen
  cases hs : isSp sd st co va with
  | false =>
    have hd : orderD sd st co va xs = SD.bad := by unfold orderD; rw [hs]; rfl
    go_enter Try.func27, Try.ntmps27
    go_upto_region 1 with (fail)
    obtain ⟨w0, hw0⟩ : ∃ w0, w0 = ((w.alloc (.cells #[.int .i64 sd, .slice A n ca, .slice B m cb, .slice V p cv] 27)).alloc (.cells #[.int .i64 0, .slice none 0 0, .slice none 0 0, .slice none 0 0] 27)) := ⟨_, rfl⟩
    have hx0 : Ext w w0 := by subst hw0; exact ((Ext.refl _).alloc _).alloc _
    have ba : Blk w0 (w.heap.size) #[.int .i64 sd, .slice A n ca, .slice B m cb, .slice V p cv] 27 := by subst hw0; exact (Blk.new w _ _).ext ((Ext.refl _).alloc _)
    have b1 : Blk w0 (w.heap.size + 1) #[.int .i64 0, .slice none 0 0, .slice none 0 0, .slice none 0 0] 27 := by subst hw0; simpa using (Blk.new (w.alloc (.cells #[.int .i64 sd, .slice A n ca, .slice B m cb, .slice V p cv] 27)) _ _)
    rw [← hw0]
    clear hw0
    go_wp2_with fail
    refine (l05Is_any _ sd A n ca B m cb V p cv st co va _ (SAt.of ba (hr.below hx0) (hq.below hx0) (hv.below hx0))).mono ?_
    rintro e w1 ⟨rfl, hx⟩
    rw [hs]
    replace ba := ba.ext hx
    replace b1 := b1.ext hx
    replace hx0 := hx0.trans hx
    clear hx
    have y0 := b1.cell 0 rfl
    have y1 := b1.cell 1 rfl
    have y2 := b1.cell 2 rfl
    have y3 := b1.cell 3 rfl
    have f0 := b1.free 0
    have f1 := b1.free 1
    have f2 := b1.free 2
    have f3 := b1.free 3
    have hq0 := b1.lt
    go_wp2_with fail
    have d0 := b1.set 0 (.int .i64 0)
    have d1 := d0.set 1 (.slice none 0 0)
    have d2 := d1.set 2 (.slice none 0 0)
    have d3 := d2.set 3 (.slice none 0 0)
    have x2 := ((((hx0.set (p := ⟨w.heap.size + 1, 0, none⟩) (by simp; try omega) (.int .i64 0)).set (p := ⟨w.heap.size + 1, 1, none⟩) (by simp; try omega) (.slice none 0 0)).set (p := ⟨w.heap.size + 1, 2, none⟩) (by simp; try omega) (.slice none 0 0)).set (p := ⟨w.heap.size + 1, 3, none⟩) (by simp; try omega) (.slice none 0 0))
    have r0 := d3.cell 0 rfl
    have r1 := d3.cell 1 rfl
    have r2 := d3.cell 2 rfl
    have r3 := d3.cell 3 rfl
    refine bodyPost_ret (v := .tuple #[.agg #[.int .i64 0, .slice none 0 0, .slice none 0 0, .slice none 0 0], .bool false]) (by simp only [results, Try.results27]; simp [go_sem, r0, r1, r2, r3]) rfl (RetSqB.bad hd rfl x2)
  | true =>
    have hsp := isSp_iff.1 hs
    obtain ⟨N, rfl⟩ : ∃ N : Nat, sd = N := ⟨sd.toNat, by have := hsp.s1; omega⟩
    have hn1 : 1 ≤ N := by have := hsp.s1; omega
    have hn32 : N ≤ 32 := by have := hsp.s1; omega
    have HSP := Lib.hid hsp
    clear hsp
    cases hp : prmB N xs with
    | false =>
      have hd : orderD N st co va xs = SD.bad := by unfold orderD; rw [hs, Int.toNat_natCast, hp]; rfl
      go_enter Try.func27, Try.ntmps27
      go_upto_region 1 with (fail)
      obtain ⟨w0, hw0⟩ : ∃ w0, w0 = ((w.alloc (.cells #[.int .i64 N, .slice A n ca, .slice B m cb, .slice V p cv] 27)).alloc (.cells #[.int .i64 0, .slice none 0 0, .slice none 0 0, .slice none 0 0] 27)) := ⟨_, rfl⟩
      have hx0 : Ext w w0 := by subst hw0; exact ((Ext.refl _).alloc _).alloc _
      have ba : Blk w0 (w.heap.size) #[.int .i64 N, .slice A n ca, .slice B m cb, .slice V p cv] 27 := by subst hw0; exact (Blk.new w _ _).ext ((Ext.refl _).alloc _)
      have b1 : Blk w0 (w.heap.size + 1) #[.int .i64 0, .slice none 0 0, .slice none 0 0, .slice none 0 0] 27 := by subst hw0; simpa using (Blk.new (w.alloc (.cells #[.int .i64 N, .slice A n ca, .slice B m cb, .slice V p cv] 27)) _ _)
      rw [← hw0]
      clear hw0
      go_wp2_with fail
      refine (l05Is_any _ N A n ca B m cb V p cv st co va _ (SAt.of ba (hr.below hx0) (hq.below hx0) (hv.below hx0))).mono ?_
      rintro e w1 ⟨rfl, hx⟩
      rw [hs]
      replace ba := ba.ext hx
      replace b1 := b1.ext hx
      replace hx0 := hx0.trans hx
      clear hx
      have c0 := ba.cell 0 rfl
      go_wp2_with fail
      refine (l05Order_any N S k0 cS xs hn1 hn32 _ (hS.below hx0)).mono ?_
      rintro e w2 ⟨rfl, hx⟩
      rw [hp]
      clear c0
      replace ba := ba.ext hx
      replace b1 := b1.ext hx
      replace hx0 := hx0.trans hx
      clear hx
      have y0 := b1.cell 0 rfl
      have y1 := b1.cell 1 rfl
      have y2 := b1.cell 2 rfl
      have y3 := b1.cell 3 rfl
      have f0 := b1.free 0
      have f1 := b1.free 1
      have f2 := b1.free 2
      have f3 := b1.free 3
      have hq0 := b1.lt
      go_wp2_with fail
      have d0 := b1.set 0 (.int .i64 0)
      have d1 := d0.set 1 (.slice none 0 0)
      have d2 := d1.set 2 (.slice none 0 0)
      have d3 := d2.set 3 (.slice none 0 0)
      have x2 := ((((hx0.set (p := ⟨w.heap.size + 1, 0, none⟩) (by simp; try omega) (.int .i64 0)).set (p := ⟨w.heap.size + 1, 1, none⟩) (by simp; try omega) (.slice none 0 0)).set (p := ⟨w.heap.size + 1, 2, none⟩) (by simp; try omega) (.slice none 0 0)).set (p := ⟨w.heap.size + 1, 3, none⟩) (by simp; try omega) (.slice none 0 0))
      have r0 := d3.cell 0 rfl
      have r1 := d3.cell 1 rfl
      have r2 := d3.cell 2 rfl
      have r3 := d3.cell 3 rfl
      refine bodyPost_ret (v := .tuple #[.agg #[.int .i64 0, .slice none 0 0, .slice none 0 0, .slice none 0 0], .bool false]) (by simp only [results, Try.results27]; simp [go_sem, r0, r1, r2, r3]) rfl (RetSqB.bad hd rfl x2)
    | true =>
      have hpp := prmB_iff.1 hp
      have hkN : k0 = N := by have := hS.ilen; omega
      have HP := Lib.hid hpp.2
      clear hpp
      obtain rfl : N = k0 := hkN.symm
      obtain ⟨M, hM⟩ : ∃ M, M = vw st co va m := ⟨_, rfl⟩
      have HV := Lib.hid hM
      have hd : orderD N st co va xs = giveSp N (orM M xs) := by unfold orderD; rw [hs, Int.toNat_natCast, hp, HM.out, hM]; rfl
      obtain ⟨D, hD⟩ : ∃ D, D = orderD N st co va xs := ⟨_, rfl⟩
      rw [← hD]
      rw [← hD] at hd
      have HD := Lib.hid hd
      clear hd hD hM
      go_enter Try.func27, Try.ntmps27
      go_upto_region 1 with (fail)
      obtain ⟨w0, hw0⟩ : ∃ w0, w0 = ((w.alloc (.cells #[.int .i64 N, .slice A n ca, .slice B m cb, .slice V p cv] 27)).alloc (.cells #[.int .i64 0, .slice none 0 0, .slice none 0 0, .slice none 0 0] 27)) := ⟨_, rfl⟩
      have hx0 : Ext w w0 := by subst hw0; exact ((Ext.refl _).alloc _).alloc _
      have ba : Blk w0 (w.heap.size) #[.int .i64 N, .slice A n ca, .slice B m cb, .slice V p cv] 27 := by subst hw0; exact (Blk.new w _ _).ext ((Ext.refl _).alloc _)
      have b1 : Blk w0 (w.heap.size + 1) #[.int .i64 0, .slice none 0 0, .slice none 0 0, .slice none 0 0] 27 := by subst hw0; simpa using (Blk.new (w.alloc (.cells #[.int .i64 N, .slice A n ca, .slice B m cb, .slice V p cv] 27)) _ _)
      rw [← hw0]
      clear hw0
      go_wp2_with fail
      refine (l05Is_any _ N A n ca B m cb V p cv st co va _ (SAt.of ba (hr.below hx0) (hq.below hx0) (hv.below hx0))).mono ?_
      rintro e w1 ⟨rfl, hx⟩
      rw [hs]
      replace ba := ba.ext hx
      replace b1 := b1.ext hx
      replace hx0 := hx0.trans hx
      clear hx
      have c0 := ba.cell 0 rfl
      go_wp2_with fail
      refine (l05Order_any N S N cS xs hn1 hn32 _ (hS.below hx0)).mono ?_
      rintro e w2 ⟨rfl, hx⟩
      rw [hp]
      clear c0
      replace ba := ba.ext hx
      replace b1 := b1.ext hx
      replace hx0 := hx0.trans hx
      clear hx
      obtain ⟨NN, hNN⟩ : ∃ NN, NN = N * N := ⟨_, rfl⟩
      have HN := Lib.hid hNN
      have hNN1 : 1 ≤ NN := by rw [hNN]; exact Nat.mul_pos hn1 hn1
      have hNN2 : NN ≤ 1024 := by rw [hNN]; exact Nat.mul_le_mul hn32 hn32
      clear hNN
      go_wp2_with fail
      refine (l05Open_any _ N A n ca B m cb V p cv st co va HSP.out _ (SAt.of ba (hr.below hx0) (hq.below hx0) (hv.below hx0))).mono ?_
      rw [← HV.out]
      rintro e w5 ⟨TA, k, U, q, ys, rfl, h0, ha, h2, hx⟩
      rw [← HN.out] at ha h2
      rw [← HN.out]
      go_upto_region 4 with (fail)
      have h1 := Blk.new w5 #[.int .i64 N, .slice TA NN k, .slice U NN q] 71
      have xg : Ext w5 (w5.alloc (.cells #[.int .i64 N, .slice TA NN k, .slice U NN q] 71)) := (Ext.refl _).alloc _
      replace ha := ha.ext xg
      replace h2 := h2.ext xg
      have h8 := hx.trans xg
      obtain ⟨ga, rfl, _⟩ := ha.head (by omega)
      obtain ⟨gv, rfl, _⟩ := h2.head (by omega)
      obtain ⟨w6, hw6⟩ : ∃ v : World, v = w5.alloc (.cells #[.int .i64 N, .slice (some ⟨ga, 0, none⟩) NN k, .slice (some ⟨gv, 0, none⟩) NN q] 71) := ⟨_, rfl⟩
      obtain ⟨fb, hfb⟩ : ∃ fb, fb = w5.heap.size := ⟨_, rfl⟩
      rw [← hw6] at ha h2 h8
      rw [← hw6, ← hfb] at h1
      rw [← hw6, ← hfb]
      clear hw6 hfb hx xg
      have la := ha.lt_size ga rfl
      have lv := h2.lt_size gv rfl
      have c0 := (ba.ext h8).cell 0 rfl
      go_wp2_with fail
      refine (l05Blank_any N hn32 _).mono ?_
      rintro e w7 ⟨TB, k1, UB, q2, zs, rfl, h4, h6, h7, hx⟩
      clear c0
      rw [← HN.out] at h6 h7
      rw [← HN.out]
      go_upto_region 5 with (fail)
      have h5 := Blk.new w7 #[.int .i64 N, .slice TB NN k1, .slice UB NN q2] 71
      have xg : Ext w7 (w7.alloc (.cells #[.int .i64 N, .slice TB NN k1, .slice UB NN q2] 71)) := (Ext.refl _).alloc _
      have hx7 := hx.trans xg
      replace h6 := h6.ext xg
      replace h7 := h7.ext xg
      replace h1 := h1.ext hx7
      replace ha := ha.ext hx7
      replace h2 := h2.ext hx7
      obtain ⟨g1, rfl, hg1_⟩ := h6.head (by omega)
      obtain ⟨g2, rfl, hg2_⟩ := h7.head (by omega)
      have n1 : ga ≠ g1 := by omega
      have h3 : gv ≠ g2 := by omega
      replace h6 := h6.base h8.size
      replace h7 := h7.base h8.size
      replace h8 := h8.trans hx7
      obtain ⟨w8, hw8⟩ : ∃ v : World, v = w7.alloc (.cells #[.int .i64 N, .slice (some ⟨g1, 0, none⟩) NN k1, .slice (some ⟨g2, 0, none⟩) NN q2] 71) := ⟨_, rfl⟩
      obtain ⟨fb', hfb⟩ : ∃ fb, fb = w7.heap.size := ⟨_, rfl⟩
      rw [← hw8] at h1 ha h2 h6 h7 h8
      rw [← hw8, ← hfb] at h5
      rw [← hw8, ← hfb]
      clear hw8 hfb hx xg hx7 la lv hg1_ hg2_

      have hst : FD w2 fb fb' N NN M (orS N M xs 0 0) (orS N M xs 0 0) w8 := by
        rw [orS_zero]
        exact ⟨_, _, _, _, ys, _, _, _, _, zs, h0, h1, ha, n1, h2, h3, h4, h5, h6, h7, h8⟩
      clear h0 h1 ha n1 h2 h3 h4 h5 h6 h7 h8
      go_wp2_with fail
      go_loopw [28] (fun u wr => ∃ i : Nat, i ≤ N ∧ u = .int .i64 i ∧ FD w2 fb fb' N NN M (orS N M xs i 0) (orS N M xs i 0) wr) (fun u _ => N - (intOf u).toNat)
      case atStart => exact ⟨0, Nat.zero_le _, rfl, hst⟩
      case round =>
        rename World => wA
        clear hst
        obtain ⟨i, hi, rfl, hst⟩ := hrel
        by_cases hlt : i < N
        · have hg1 : IntKind.i64.wrap ((i : Int) + 1) = (i : Int) + 1 := IntWalk.i64_in _ (by omega)
          go_wp2_with fail
          go_loopw [33] (fun u wr => ∃ j : Nat, j ≤ N ∧ u = .int .i64 j ∧ FD w2 fb fb' N NN M (orS N M xs i j) (orS N M xs i j) wr) (fun u _ => N - (intOf u).toNat)
          case atStart => exact ⟨0, Nat.zero_le _, rfl, hst⟩
          case round =>
            rename World => wB
            clear hst
            obtain ⟨j, hj, rfl, hst⟩ := hrel
            by_cases hjn : j < N
            · have hg2 : IntKind.i64.wrap ((j : Int) + 1) = (j : Int) + 1 := IntWalk.i64_in _ (by omega)
              have c0 := (ba.ext hst.own).cell 0 rfl
              obtain ⟨ad, rfl, hci⟩ := (hS.below (hx0.trans hst.own)).intN i hlt
              obtain ⟨ad', had, hcj⟩ := (hS.below (hx0.trans hst.own)).intN j hjn
              obtain rfl := Option.some.inj had
              clear had
              obtain ⟨u, hu⟩ : ∃ u : Nat, rd xs i = u := ⟨(rd xs i).toNat, by have := HP.out.1 i hlt; omega⟩
              obtain ⟨v, hv_⟩ : ∃ v : Nat, rd xs j = v := ⟨(rd xs j).toNat, by have := HP.out.1 j hjn; omega⟩
              have hun : u < N := by have := HP.out.1 i hlt; omega
              have hvn : v < N := by have := HP.out.1 j hjn; omega
              rw [hu] at hci
              rw [hv_] at hcj
              have HU := Lib.hid hu
              have HW := Lib.hid hv_
              clear hu hv_
              obtain ⟨ga, k, gv, q, ys, g1, k1, g2, q2, zs, h0, h1, ha, n1, h2, h3, h4, h5, h6, h7, h8⟩ := hst
              obtain ⟨i1, i2, i3, i4, i5, i6⟩ := ix32 hlt hjn hn32
              rw [← HN.out] at i4 i6
              have i7 : i * N + j < NN := by omega
              obtain ⟨j1, j2, j3, j4, j5, j6⟩ := ix32 hun hvn hn32
              rw [← HN.out] at j4 j6
              have j7 : u * N + v < NN := by omega
              go_wp2_with fail
              refine wp_region_T (cs := []) [0, 1, 2, 3, 4, 5, 6, 7, 8, 9, 10, 11, 12] [] [] [] (fun _ _ => False) (fun _ _ _ => True) (by kernel_rfl) (by kernel_rfl) (fun _ _ _ _ _ _ => trivial) ?_
              refine' wpT_det (o := ⟨some 42, Op.move (Operand.tmp 1), 22, "l05_sparse.go:365", #[], none⟩) rfl (by rfl) (by rfl) (fun w' hw' => ?_) ?_; rotate_left
              · go_simp <;> first | rfl | exact ⟨rfl, rfl⟩
              simp only [Act.put, List.setIfInBounds_toArray, List.set_cons_zero, List.set_cons_succ]
              refine' wpT_det (o := ⟨some 43, Op.move (Operand.tmp 8), 3, "l05_sparse.go:365", #[], none⟩) rfl (by rfl) (by rfl) (fun w' hw' => ?_) ?_; rotate_left
              · go_simp <;> first | rfl | exact ⟨rfl, rfl⟩
              simp only [Act.put, List.setIfInBounds_toArray, List.set_cons_zero, List.set_cons_succ]
              refine' wpT_det (o := ⟨some 44, Op.indexAddr 22 (Operand.tmp 42) (Operand.tmp 43), 0, "l05_sparse.go:365", #[{ on := 0, ground := Ground.data }, { on := 1, ground := Ground.data }], none⟩) rfl (by rfl) (by rfl) (fun w' hw' => ?_) ?_; rotate_left
              · go_simp <;> first | rfl | exact ⟨rfl, rfl⟩
              simp only [Act.put, List.setIfInBounds_toArray, List.set_cons_zero, List.set_cons_succ]
              refine' wpT_det (o := ⟨some 45, Op.load 2 (Operand.tmp 44), 2, "l05_sparse.go:365", #[{ on := 2, ground := Ground.data }], none⟩) rfl (by rfl) (by rfl) (fun w' hw' => ?_) ?_; rotate_left
              · have c0_ := Ext.cell hw' c0; have hci_ := Ext.cell hw' hci; have hcj_ := Ext.cell hw' hcj; go_simp <;> first | rfl | exact ⟨rfl, rfl⟩
              simp only [Act.put, List.setIfInBounds_toArray, List.set_cons_zero, List.set_cons_succ]
              refine' wpT_det (o := ⟨some 46, Op.fieldAddr 27 (Operand.tmp 2) 0, 0, "l05_sparse.go:365", #[], none⟩) rfl (by rfl) (by rfl) (fun w' hw' => ?_) ?_; rotate_left
              · go_simp <;> first | rfl | exact ⟨rfl, rfl⟩
              simp only [Act.put, List.setIfInBounds_toArray, List.set_cons_zero, List.set_cons_succ]
              refine' wpT_det (o := ⟨some 47, Op.load 2 (Operand.tmp 46), 2, "l05_sparse.go:365", #[{ on := 4, ground := Ground.data }], none⟩) rfl (by rfl) (by rfl) (fun w' hw' => ?_) ?_; rotate_left
              · have c0_ := Ext.cell hw' c0; have hci_ := Ext.cell hw' hci; have hcj_ := Ext.cell hw' hcj; go_simp <;> first | rfl | exact ⟨rfl, rfl⟩
              simp only [Act.put, List.setIfInBounds_toArray, List.set_cons_zero, List.set_cons_succ]
              refine' wpT_det (o := ⟨some 48, Op.binOp BinOp.mul 2 (Operand.tmp 45) (Operand.tmp 47) 2, 2, "l05_sparse.go:365", #[{ on := 3, ground := Ground.data }, { on := 5, ground := Ground.data }], none⟩) rfl (by rfl) (by rfl) (fun w' hw' => ?_) ?_; rotate_left
              · go_simp <;> first | rfl | exact ⟨rfl, rfl⟩
              simp only [Act.put, List.setIfInBounds_toArray, List.set_cons_zero, List.set_cons_succ]
              refine' wpT_det (o := ⟨some 49, Op.move (Operand.tmp 1), 22, "l05_sparse.go:365", #[], none⟩) rfl (by rfl) (by rfl) (fun w' hw' => ?_) ?_; rotate_left
              · go_simp <;> first | rfl | exact ⟨rfl, rfl⟩
              simp only [Act.put, List.setIfInBounds_toArray, List.set_cons_zero, List.set_cons_succ]
              refine' wpT_det (o := ⟨some 50, Op.move (Operand.tmp 9), 3, "l05_sparse.go:365", #[], none⟩) rfl (by rfl) (by rfl) (fun w' hw' => ?_) ?_; rotate_left
              · go_simp <;> first | rfl | exact ⟨rfl, rfl⟩
              simp only [Act.put, List.setIfInBounds_toArray, List.set_cons_zero, List.set_cons_succ]
              refine' wpT_det (o := ⟨some 51, Op.indexAddr 22 (Operand.tmp 49) (Operand.tmp 50), 0, "l05_sparse.go:365", #[{ on := 7, ground := Ground.data }, { on := 8, ground := Ground.data }], none⟩) rfl (by rfl) (by rfl) (fun w' hw' => ?_) ?_; rotate_left
              · go_simp <;> first | rfl | exact ⟨rfl, rfl⟩
              simp only [Act.put, List.setIfInBounds_toArray, List.set_cons_zero, List.set_cons_succ]
              refine' wpT_det (o := ⟨some 52, Op.load 2 (Operand.tmp 51), 2, "l05_sparse.go:365", #[{ on := 9, ground := Ground.data }], none⟩) rfl (by rfl) (by rfl) (fun w' hw' => ?_) ?_; rotate_left
              · have c0_ := Ext.cell hw' c0; have hci_ := Ext.cell hw' hci; have hcj_ := Ext.cell hw' hcj; go_simp <;> first | rfl | exact ⟨rfl, rfl⟩
              simp only [Act.put, List.setIfInBounds_toArray, List.set_cons_zero, List.set_cons_succ]
              refine' wpT_det (o := ⟨some 53, Op.binOp BinOp.add 2 (Operand.tmp 48) (Operand.tmp 52) 2, 2, "l05_sparse.go:365", #[{ on := 6, ground := Ground.data }, { on := 10, ground := Ground.data }], none⟩) rfl (by rfl) (by rfl) (fun w' hw' => ?_) ?_; rotate_left
              · go_simp <;> first | rfl | exact ⟨rfl, rfl⟩
              simp only [Act.put, List.setIfInBounds_toArray, List.set_cons_zero, List.set_cons_succ]
              refine' wpT_det (o := ⟨some 11, Op.assign (Operand.tmp 53), 2, "l05_sparse.go:365", #[{ on := 11, ground := Ground.data }, { on := 0, ground := Ground.phase }, { on := 1, ground := Ground.phase }, { on := 2, ground := Ground.phase }, { on := 3, ground := Ground.phase }, { on := 4, ground := Ground.phase }, { on := 5, ground := Ground.phase }, { on := 6, ground := Ground.phase }, { on := 7, ground := Ground.phase }, { on := 8, ground := Ground.phase }, { on := 9, ground := Ground.phase }, { on := 10, ground := Ground.phase }, { on := 11, ground := Ground.phase }], none⟩) rfl (by rfl) (by rfl) (fun w' hw' => ?_) ?_; rotate_left
              · go_simp <;> first | rfl | exact ⟨rfl, rfl⟩
              simp only [Act.put, List.setIfInBounds_toArray, List.set_cons_zero, List.set_cons_succ]
              refine wpT_nil (fun w9 hw' hF => ?_)
              refine wpList_nil ?_
              have hx := hw'.undrew
              clear hF hw' c0 hci hcj
              replace h1 := h1.ext hx
              replace ha := ha.ext hx
              replace h2 := h2.ext hx
              replace h5 := h5.ext hx
              replace h6 := h6.ext hx
              replace h7 := h7.ext hx
              replace h8 := h8.trans hx

              clear hx
              have lt := ha.reads.blen
              have lt6 := h6.reads.blen
              obtain ⟨hca, _⟩ := ha.at_ (u * N + v) (by omega)
              rw [bools_get (by omega), tb_at M hun hvn] at hca
              have HTB := Lib.hid (orS_tb M xs hlt hjn HU.out HW.out)
              obtain ⟨t, ht⟩ : ∃ t, t = (M u v).isSome := ⟨_, rfl⟩
              rw [← ht] at hca HTB
              clear ht
              have z1 := h1.cell 1 rfl
              have z2 := h5.cell 1 rfl
              go_wp2_with fail
              refine wp_region_T (cs := []) [0, 1, 2, 3, 4, 5, 6, 7] [8, 9] [] [] (fun _ _ => False) (fun _ _ _ => True) (by kernel_rfl) (by kernel_rfl) (fun _ _ _ _ _ _ => trivial) ?_
              refine' wpT_det (o := ⟨some 54, Op.fieldAddr 71 (Operand.tmp 7) 1, 0, "l05_sparse.go:366", #[], none⟩) rfl (by rfl) (by rfl) (fun w' hw' => ?_) ?_; rotate_left
              · go_simp <;> first | rfl | exact ⟨rfl, rfl⟩
              simp only [Act.put, List.setIfInBounds_toArray, List.set_cons_zero, List.set_cons_succ]
              refine' wpT_det (o := ⟨some 55, Op.load 69 (Operand.tmp 54), 69, "l05_sparse.go:366", #[{ on := 0, ground := Ground.data }], none⟩) rfl (by rfl) (by rfl) (fun w' hw' => ?_) ?_; rotate_left
              · have z1_ := Ext.cell hw' z1; have z2_ := Ext.cell hw' z2; have hca_ := Ext.cell hw' hca; go_simp <;> first | rfl | exact ⟨rfl, rfl⟩
              simp only [Act.put, List.setIfInBounds_toArray, List.set_cons_zero, List.set_cons_succ]
              refine' wpT_det (o := ⟨some 56, Op.move (Operand.tmp 10), 2, "l05_sparse.go:366", #[], none⟩) rfl (by rfl) (by rfl) (fun w' hw' => ?_) ?_; rotate_left
              · go_simp <;> first | rfl | exact ⟨rfl, rfl⟩
              simp only [Act.put, List.setIfInBounds_toArray, List.set_cons_zero, List.set_cons_succ]
              refine' wpT_det (o := ⟨some 57, Op.fieldAddr 71 (Operand.tmp 6) 1, 0, "l05_sparse.go:366", #[], none⟩) rfl (by rfl) (by rfl) (fun w' hw' => ?_) ?_; rotate_left
              · go_simp <;> first | rfl | exact ⟨rfl, rfl⟩
              simp only [Act.put, List.setIfInBounds_toArray, List.set_cons_zero, List.set_cons_succ]
              refine' wpT_det (o := ⟨some 58, Op.load 69 (Operand.tmp 57), 69, "l05_sparse.go:366", #[{ on := 3, ground := Ground.data }], none⟩) rfl (by rfl) (by rfl) (fun w' hw' => ?_) ?_; rotate_left
              · have z1_ := Ext.cell hw' z1; have z2_ := Ext.cell hw' z2; have hca_ := Ext.cell hw' hca; go_simp <;> first | rfl | exact ⟨rfl, rfl⟩
              simp only [Act.put, List.setIfInBounds_toArray, List.set_cons_zero, List.set_cons_succ]
              refine' wpT_det (o := ⟨some 59, Op.move (Operand.tmp 11), 2, "l05_sparse.go:366", #[], none⟩) rfl (by rfl) (by rfl) (fun w' hw' => ?_) ?_; rotate_left
              · go_simp <;> first | rfl | exact ⟨rfl, rfl⟩
              simp only [Act.put, List.setIfInBounds_toArray, List.set_cons_zero, List.set_cons_succ]
              refine' wpT_det (o := ⟨some 60, Op.indexAddr 69 (Operand.tmp 58) (Operand.tmp 59), 0, "l05_sparse.go:366", #[{ on := 4, ground := Ground.data }, { on := 5, ground := Ground.data }], none⟩) rfl (by rfl) (by rfl) (fun w' hw' => ?_) ?_; rotate_left
              · go_simp <;> first | rfl | exact ⟨rfl, rfl⟩
              simp only [Act.put, List.setIfInBounds_toArray, List.set_cons_zero, List.set_cons_succ]
              refine' wpT_det (o := ⟨some 61, Op.load 4 (Operand.tmp 60), 4, "l05_sparse.go:366", #[{ on := 6, ground := Ground.data }], none⟩) rfl (by rfl) (by rfl) (fun w' hw' => ?_) ?_; rotate_left
              · have z1_ := Ext.cell hw' z1; have z2_ := Ext.cell hw' z2; have hca_ := Ext.cell hw' hca; go_simp <;> first | rfl | exact ⟨rfl, rfl⟩
              simp only [Act.put, List.setIfInBounds_toArray, List.set_cons_zero, List.set_cons_succ]
              refine wpT_nil (fun w11 hw' hF => ?_)
              show wpList _ _ _ [(⟨some 62, Op.indexAddr 69 (Operand.tmp 55) (Operand.tmp 56), 0, "l05_sparse.go:366", #[{ on := 1, ground := Ground.data }, { on := 2, ground := Ground.data }, { on := 0, ground := Ground.phase }, { on := 1, ground := Ground.phase }, { on := 2, ground := Ground.phase }, { on := 3, ground := Ground.phase }, { on := 4, ground := Ground.phase }, { on := 5, ground := Ground.phase }, { on := 6, ground := Ground.phase }, { on := 7, ground := Ground.phase }], none⟩ : Oper), (⟨none, Op.store 4 (Operand.tmp 62) (Operand.tmp 61), 0, "l05_sparse.go:366", #[{ on := 8, ground := Ground.data }, { on := 7, ground := Ground.data }, { on := 0, ground := Ground.phase }, { on := 1, ground := Ground.phase }, { on := 2, ground := Ground.phase }, { on := 3, ground := Ground.phase }, { on := 4, ground := Ground.phase }, { on := 5, ground := Ground.phase }, { on := 6, ground := Ground.phase }, { on := 7, ground := Ground.phase }], none⟩ : Oper)] _ _
              have hx := hw'.undrew
              clear hF hw' z1 z2 hca
              replace h1 := h1.ext hx
              replace ha := ha.ext hx
              replace h2 := h2.ext hx
              replace h5 := h5.ext hx
              replace h6 := h6.ext hx
              replace h7 := h7.ext hx
              replace h8 := h8.trans hx

              clear hx
              obtain ⟨hcb, hf⟩ := h6.at_ (i * N + j) (by omega)
              rw [bools_get (by omega)] at hcb
              have hsb := store_bool Try.prog t hcb hf
              have hm := FD.putT h0 h1 ha n1 h2 h3 h4 h5 h6 h7 h8 (i * N + j) t HTB.out
              clear h0 h1 ha n1 h2 h3 h4 h5 h6 h7 h8 lt lt6
              go_upto_region 14 with (fail)
              obtain ⟨w12, hw12⟩ : ∃ v : World, v = w11.setCell ⟨g1, i * N + j, none⟩ (.bool t) := ⟨_, rfl⟩
              rw [← hw12] at hm ⊢
              clear hw12 hcb hf hsb
              obtain ⟨ga, k, gv, q, ys, g1, k1, g2, q2, zs, h0, h1, ha, n1, h2, h3, h4, h5, h6, h7, h8⟩ := hm
              have ly := h2.reads.flen
              have lz := h7.reads.flen
              obtain ⟨hce, _⟩ := h2.at_ (u * N + v) (by omega)
              rw [flts_get (by omega)] at hce
              have HNB := Lib.hid (orS_nb M xs hlt hjn HU.out HW.out (nb_at h0 hun hvn))
              obtain ⟨x, hxv⟩ : ∃ x, x = rdf ys ((u * N + v : Nat) : Int) := ⟨_, rfl⟩
              rw [← hxv] at hce HNB
              clear hxv
              have z1 := h1.cell 2 rfl
              have z2 := h5.cell 2 rfl
              refine wp_region_T (cs := []) [0, 1, 2, 3, 4, 5, 6, 7] [8, 9] [] [] (fun _ _ => False) (fun _ _ _ => True) (by kernel_rfl) (by kernel_rfl) (fun _ _ _ _ _ _ => trivial) ?_
              refine' wpT_det (o := ⟨some 63, Op.fieldAddr 71 (Operand.tmp 7) 2, 0, "l05_sparse.go:367", #[], none⟩) rfl (by rfl) (by rfl) (fun w' hw' => ?_) ?_; rotate_left
              · go_simp <;> first | rfl | exact ⟨rfl, rfl⟩
              simp only [Act.put, List.setIfInBounds_toArray, List.set_cons_zero, List.set_cons_succ]
              refine' wpT_det (o := ⟨some 64, Op.load 23 (Operand.tmp 63), 23, "l05_sparse.go:367", #[{ on := 0, ground := Ground.data }], none⟩) rfl (by rfl) (by rfl) (fun w' hw' => ?_) ?_; rotate_left
              · have z1_ := Ext.cell hw' z1; have z2_ := Ext.cell hw' z2; have hce_ := Ext.cell hw' hce; go_simp <;> first | rfl | exact ⟨rfl, rfl⟩
              simp only [Act.put, List.setIfInBounds_toArray, List.set_cons_zero, List.set_cons_succ]
              refine' wpT_det (o := ⟨some 65, Op.move (Operand.tmp 10), 2, "l05_sparse.go:367", #[], none⟩) rfl (by rfl) (by rfl) (fun w' hw' => ?_) ?_; rotate_left
              · go_simp <;> first | rfl | exact ⟨rfl, rfl⟩
              simp only [Act.put, List.setIfInBounds_toArray, List.set_cons_zero, List.set_cons_succ]
              refine' wpT_det (o := ⟨some 66, Op.fieldAddr 71 (Operand.tmp 6) 2, 0, "l05_sparse.go:367", #[], none⟩) rfl (by rfl) (by rfl) (fun w' hw' => ?_) ?_; rotate_left
              · go_simp <;> first | rfl | exact ⟨rfl, rfl⟩
              simp only [Act.put, List.setIfInBounds_toArray, List.set_cons_zero, List.set_cons_succ]
              refine' wpT_det (o := ⟨some 67, Op.load 23 (Operand.tmp 66), 23, "l05_sparse.go:367", #[{ on := 3, ground := Ground.data }], none⟩) rfl (by rfl) (by rfl) (fun w' hw' => ?_) ?_; rotate_left
              · have z1_ := Ext.cell hw' z1; have z2_ := Ext.cell hw' z2; have hce_ := Ext.cell hw' hce; go_simp <;> first | rfl | exact ⟨rfl, rfl⟩
              simp only [Act.put, List.setIfInBounds_toArray, List.set_cons_zero, List.set_cons_succ]
              refine' wpT_det (o := ⟨some 68, Op.move (Operand.tmp 11), 2, "l05_sparse.go:367", #[], none⟩) rfl (by rfl) (by rfl) (fun w' hw' => ?_) ?_; rotate_left
              · go_simp <;> first | rfl | exact ⟨rfl, rfl⟩
              simp only [Act.put, List.setIfInBounds_toArray, List.set_cons_zero, List.set_cons_succ]
              refine' wpT_det (o := ⟨some 69, Op.indexAddr 23 (Operand.tmp 67) (Operand.tmp 68), 0, "l05_sparse.go:367", #[{ on := 4, ground := Ground.data }, { on := 5, ground := Ground.data }], none⟩) rfl (by rfl) (by rfl) (fun w' hw' => ?_) ?_; rotate_left
              · go_simp <;> first | rfl | exact ⟨rfl, rfl⟩
              simp only [Act.put, List.setIfInBounds_toArray, List.set_cons_zero, List.set_cons_succ]
              refine' wpT_det (o := ⟨some 70, Op.load 43 (Operand.tmp 69), 43, "l05_sparse.go:367", #[{ on := 6, ground := Ground.data }], none⟩) rfl (by rfl) (by rfl) (fun w' hw' => ?_) ?_; rotate_left
              · have z1_ := Ext.cell hw' z1; have z2_ := Ext.cell hw' z2; have hce_ := Ext.cell hw' hce; go_simp <;> first | rfl | exact ⟨rfl, rfl⟩
              simp only [Act.put, List.setIfInBounds_toArray, List.set_cons_zero, List.set_cons_succ]
              refine wpT_nil (fun w13 hw' hF => ?_)
              show wpList _ _ _ [(⟨some 71, Op.indexAddr 23 (Operand.tmp 64) (Operand.tmp 65), 0, "l05_sparse.go:367", #[{ on := 1, ground := Ground.data }, { on := 2, ground := Ground.data }, { on := 0, ground := Ground.phase }, { on := 1, ground := Ground.phase }, { on := 2, ground := Ground.phase }, { on := 3, ground := Ground.phase }, { on := 4, ground := Ground.phase }, { on := 5, ground := Ground.phase }, { on := 6, ground := Ground.phase }, { on := 7, ground := Ground.phase }], none⟩ : Oper), (⟨none, Op.store 43 (Operand.tmp 71) (Operand.tmp 70), 0, "l05_sparse.go:367", #[{ on := 8, ground := Ground.data }, { on := 7, ground := Ground.data }, { on := 0, ground := Ground.phase }, { on := 1, ground := Ground.phase }, { on := 2, ground := Ground.phase }, { on := 3, ground := Ground.phase }, { on := 4, ground := Ground.phase }, { on := 5, ground := Ground.phase }, { on := 6, ground := Ground.phase }, { on := 7, ground := Ground.phase }], none⟩ : Oper)] _ _
              have hx := hw'.undrew
              clear hF hw' z1 z2 hce
              replace h1 := h1.ext hx
              replace ha := ha.ext hx
              replace h2 := h2.ext hx
              replace h5 := h5.ext hx
              replace h6 := h6.ext hx
              replace h7 := h7.ext hx
              replace h8 := h8.trans hx

              clear hx
              obtain ⟨hcb, hf⟩ := h7.at_ (i * N + j) (by omega)
              rw [flts_get (by omega)] at hcb
              have hsf := store_f32 Try.prog x hcb hf
              have hm := FD.putN h0 h1 ha n1 h2 h3 h4 h5 h6 h7 h8 (i * N + j) x HNB.out
              clear h0 h1 ha n1 h2 h3 h4 h5 h6 h7 h8
              go_wp2_with fail
              go_roundw
              case rel => exact ⟨j + 1, by omega, by go_num, hm⟩
              case measure => simp [intOf]; omega
            · obtain rfl : N = j := by omega
              rw [orS_row] at hst
              go_wp2_with fail
              go_roundw
              case rel => exact ⟨i + 1, by omega, by go_num, hst⟩
              case measure => simp [intOf]; omega
        · obtain rfl : N = i := by omega
          obtain ⟨ga, k, gv, q, ys, g1, k1, g2, q2, zs, h0, h1, ha, n1, h2, h3, h4, h5, h6, h7, h8⟩ := hst
          clear h0 h1 ha n1 h2 h3
          replace b1 := b1.ext h8
          replace hx0 := hx0.trans h8
          go_wp2_with fail
          refine (l05Close_any _ N NN _ k1 _ q2 (orS N M xs N 0) zs hn1 hn32 HN.out _ (FAt.of h5 h6.reads h7.reads h4)).mono ?_
          have HG : Hid (giveSp N (orS N M xs N 0) = D) := by show _ = _; rw [HD.out]; exact giveSp_congr hn1 (orS_end M xs)
          rw [HG.out]
          rintro e w16 ⟨A'', kA, B'', kB, V'', kV, rfl, p1, p2, p3, n12, n13, n23, hx⟩
          clear h4 h5 h6 h7 h8 ba
          replace p1 := p1.base hx0.size
          replace p2 := p2.base hx0.size
          replace p3 := p3.base hx0.size
          replace b1 := b1.ext hx
          replace hx0 := hx0.trans hx
          clear hx
          have y0 := b1.cell 0 rfl
          have y1 := b1.cell 1 rfl
          have y2 := b1.cell 2 rfl
          have y3 := b1.cell 3 rfl
          have f0 := b1.free 0
          have f1 := b1.free 1
          have f2 := b1.free 2
          have f3 := b1.free 3
          have hq0 := b1.lt
          go_wp2_with fail
          have d0 := b1.set 0 (.int .i64 D.sd)
          have d1 := d0.set 1 (.slice A'' D.st.length kA)
          have d2 := d1.set 2 (.slice B'' D.co.length kB)
          have d3 := d2.set 3 (.slice V'' D.va.length kV)
          have q1 := ((((p1.setBlk b1 (by decide) 0 (.int .i64 D.sd)).setBlk d0 (by decide) 1 (.slice A'' D.st.length kA)).setBlk d1 (by decide) 2 (.slice B'' D.co.length kB)).setBlk d2 (by decide) 3 (.slice V'' D.va.length kV))
          have q2 := ((((p2.setBlk b1 (by decide) 0 (.int .i64 D.sd)).setBlk d0 (by decide) 1 (.slice A'' D.st.length kA)).setBlk d1 (by decide) 2 (.slice B'' D.co.length kB)).setBlk d2 (by decide) 3 (.slice V'' D.va.length kV))
          have q3 := ((((p3.setBlk b1 (by decide) 0 (.int .i64 D.sd)).setBlk d0 (by decide) 1 (.slice A'' D.st.length kA)).setBlk d1 (by decide) 2 (.slice B'' D.co.length kB)).setBlk d2 (by decide) 3 (.slice V'' D.va.length kV))
          have x2 := ((((hx0.set (p := ⟨w.heap.size + 1, 0, none⟩) (by simp; try omega) (.int .i64 D.sd)).set (p := ⟨w.heap.size + 1, 1, none⟩) (by simp; try omega) (.slice A'' D.st.length kA)).set (p := ⟨w.heap.size + 1, 2, none⟩) (by simp; try omega) (.slice B'' D.co.length kB)).set (p := ⟨w.heap.size + 1, 3, none⟩) (by simp; try omega) (.slice V'' D.va.length kV))
          have r0 := d3.cell 0 rfl
          have r1 := d3.cell 1 rfl
          have r2 := d3.cell 2 rfl
          have r3 := d3.cell 3 rfl
          refine bodyPost_ret (v := .tuple #[.agg #[.int .i64 D.sd, .slice A'' D.st.length kA, .slice B'' D.co.length kB, .slice V'' D.va.length kV], .bool D.ok]) (by simp only [results, Try.results27]; simp [go_sem, r0, r1, r2, r3]) rfl ?_
          exact ⟨A'', kA, B'', kB, V'', kV, rfl, q1, q2, q3, n12, n13, n23, x2⟩
end Go.Proofs.Ytkifpligpobiaaa
