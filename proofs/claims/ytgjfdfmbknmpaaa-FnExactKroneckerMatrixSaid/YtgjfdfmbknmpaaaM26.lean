import Derived.Test.YtgjfdfmbknmpaaaM25
set_option linter.unusedVariables false
set_option linter.unusedSimpArgs false
namespace Go.Proofs.Ytgjfdfmbknmpaaa
open Go.RowKit

set_option maxRecDepth 20000 in
set_option maxHeartbeats 8000000 in
theorem specKroneckerMatrix_any (r c : Int) (A : Option Addr) (n cap : Nat) (r' c' : Int) (B : Option Addr) (m cap' : Nat) (xs ys : List Nat) (w : World) (hr : Rds w A n (flts xs)) (hq : Rds w B m (flts ys)) :
    Calls Try.prog 69 #[.agg #[.int .i64 r, .int .i64 c, .slice A n cap], .agg #[.int .i64 r', .int .i64 c', .slice B m cap']] w (RetMD w (kronD r c r' c' xs ys)) := by
  have HL := Lib.hid hr.flen
  have HL' := Lib.hid hq.flen
  cases hv : isMat r c xs with
  | false =>
    have hd := kD_bad (r := r) (c := c) (r' := r') (c' := c') (xs := xs) (ys := ys) (by unfold kronB; rw [hv]; rfl)
    go_enter Try.func69, Try.ntmps69
    go_upto_region 1 with (fail)
    obtain ⟨w0, hw0⟩ : ∃ w0, w0 = (((w.alloc (.cells #[.int .i64 r, .int .i64 c, .slice A n cap] 35)).alloc (.cells #[.int .i64 r', .int .i64 c', .slice B m cap'] 35)).alloc (.cells #[.int .i64 0, .int .i64 0, .slice none 0 0] 35)) := ⟨_, rfl⟩
    have hx0 : Ext w w0 := by subst hw0; exact (((Ext.refl _).alloc _).alloc _).alloc _
    have ba : Blk w0 (w.heap.size) #[.int .i64 r, .int .i64 c, .slice A n cap] 35 := by subst hw0; exact (Blk.new w _ _).ext (((Ext.refl _).alloc _).alloc _)
    have bb : Blk w0 (w.heap.size + 1) #[.int .i64 r', .int .i64 c', .slice B m cap'] 35 := by subst hw0; simpa using (Blk.new (w.alloc (.cells #[.int .i64 r, .int .i64 c, .slice A n cap] 35)) _ _).ext ((Ext.refl _).alloc _)
    have b0 : Blk w0 (w.heap.size + 1 + 1) #[.int .i64 0, .int .i64 0, .slice none 0 0] 35 := by subst hw0; simpa using (Blk.new ((w.alloc (.cells #[.int .i64 r, .int .i64 c, .slice A n cap] 35)).alloc (.cells #[.int .i64 r', .int .i64 c', .slice B m cap'] 35)) _ _)
    rw [← hw0]
    clear hw0
    go_wp2_with fail
    refine (l02Is_any _ r c A n cap xs _ (MAt.blk ba (hr.below hx0))).mono ?_
    rintro e w1 ⟨rfl, hx⟩
    rw [hv]
    replace b0 := b0.ext hx
    replace hx0 := hx0.trans hx
    clear  hx
    have y0 : w1.cell? ⟨w.heap.size + 1 + 1, 0, none⟩ = some (.int .i64 0) := b0.cell 0 rfl
    have y1 : w1.cell? ⟨w.heap.size + 1 + 1, 1, none⟩ = some (.int .i64 0) := b0.cell 1 rfl
    have y2 : w1.cell? ⟨w.heap.size + 1 + 1, 2, none⟩ = some (.slice none 0 0) := b0.cell 2 rfl
    have q0 := b0.free 0
    have q1 := b0.free 1
    have q2 := b0.free 2
    have hq := b0.lt
    go_wp2_with fail
    obtain ⟨k1, k2, k3⟩ := Own.resM (w := w) (u := .int .i64 0) (v := .int .i64 0) (x := .slice none 0 0) b0 (own_nil _ w.heap.size _) hx0 (by omega)
    exact bodyPost_ret (resMB (x := .bool false) rfl rfl rfl k3) rfl (RetMD.bad hd k2)
  | true =>
    cases hv' : isMat r' c' ys with
    | false =>
      have hd := kD_bad (r := r) (c := c) (r' := r') (c' := c') (xs := xs) (ys := ys) (by unfold kronB; rw [hv, hv']; rfl)
      go_enter Try.func69, Try.ntmps69
      go_upto_region 1 with (fail)
      obtain ⟨w0, hw0⟩ : ∃ w0, w0 = (((w.alloc (.cells #[.int .i64 r, .int .i64 c, .slice A n cap] 35)).alloc (.cells #[.int .i64 r', .int .i64 c', .slice B m cap'] 35)).alloc (.cells #[.int .i64 0, .int .i64 0, .slice none 0 0] 35)) := ⟨_, rfl⟩
      have hx0 : Ext w w0 := by subst hw0; exact (((Ext.refl _).alloc _).alloc _).alloc _
      have ba : Blk w0 (w.heap.size) #[.int .i64 r, .int .i64 c, .slice A n cap] 35 := by subst hw0; exact (Blk.new w _ _).ext (((Ext.refl _).alloc _).alloc _)
      have bb : Blk w0 (w.heap.size + 1) #[.int .i64 r', .int .i64 c', .slice B m cap'] 35 := by subst hw0; simpa using (Blk.new (w.alloc (.cells #[.int .i64 r, .int .i64 c, .slice A n cap] 35)) _ _).ext ((Ext.refl _).alloc _)
      have b0 : Blk w0 (w.heap.size + 1 + 1) #[.int .i64 0, .int .i64 0, .slice none 0 0] 35 := by subst hw0; simpa using (Blk.new ((w.alloc (.cells #[.int .i64 r, .int .i64 c, .slice A n cap] 35)).alloc (.cells #[.int .i64 r', .int .i64 c', .slice B m cap'] 35)) _ _)
      rw [← hw0]
      clear hw0
      go_wp2_with fail
      refine (l02Is_any _ r c A n cap xs _ (MAt.blk ba (hr.below hx0))).mono ?_
      rintro e w1 ⟨rfl, hx⟩
      rw [hv]
      replace b0 := b0.ext hx
      replace bb := bb.ext hx
      replace hx0 := hx0.trans hx
      clear  hx
      go_wp2_with fail
      refine (l02Is_any _ r' c' B m cap' ys _ (MAt.blk bb (hq.below hx0))).mono ?_
      rintro e w2 ⟨rfl, hx⟩
      rw [hv']
      replace b0 := b0.ext hx
      replace hx0 := hx0.trans hx
      clear  hx
      have y0 : w2.cell? ⟨w.heap.size + 1 + 1, 0, none⟩ = some (.int .i64 0) := b0.cell 0 rfl
      have y1 : w2.cell? ⟨w.heap.size + 1 + 1, 1, none⟩ = some (.int .i64 0) := b0.cell 1 rfl
      have y2 : w2.cell? ⟨w.heap.size + 1 + 1, 2, none⟩ = some (.slice none 0 0) := b0.cell 2 rfl
      have q0 := b0.free 0
      have q1 := b0.free 1
      have q2 := b0.free 2
      have hq := b0.lt
      go_wp2_with fail
      obtain ⟨k1, k2, k3⟩ := Own.resM (w := w) (u := .int .i64 0) (v := .int .i64 0) (x := .slice none 0 0) b0 (own_nil _ w.heap.size _) hx0 (by omega)
      exact bodyPost_ret (resMB (x := .bool false) rfl rfl rfl k3) rfl (RetMD.bad hd k2)
    | true =>
      obtain ⟨s1, s2⟩ := mat_sides hv
      obtain ⟨s3, s4⟩ := mat_sides hv'
      have hwr := side_prod s1 s3
      have hwc := side_prod s2 s4
      cases ht : (inR 1 (r * r') 12 && inR 1 (c * c') 12) with
      | false =>
        have hd := kD_bad (r := r) (c := c) (r' := r') (c' := c') (xs := xs) (ys := ys) (by unfold kronB; rw [Bool.and_assoc, ht, hv, hv']; rfl)
        go_enter Try.func69, Try.ntmps69
        go_upto_region 1 with (fail)
        obtain ⟨w0, hw0⟩ : ∃ w0, w0 = (((w.alloc (.cells #[.int .i64 r, .int .i64 c, .slice A n cap] 35)).alloc (.cells #[.int .i64 r', .int .i64 c', .slice B m cap'] 35)).alloc (.cells #[.int .i64 0, .int .i64 0, .slice none 0 0] 35)) := ⟨_, rfl⟩
        have hx0 : Ext w w0 := by subst hw0; exact (((Ext.refl _).alloc _).alloc _).alloc _
        have ba : Blk w0 (w.heap.size) #[.int .i64 r, .int .i64 c, .slice A n cap] 35 := by subst hw0; exact (Blk.new w _ _).ext (((Ext.refl _).alloc _).alloc _)
        have bb : Blk w0 (w.heap.size + 1) #[.int .i64 r', .int .i64 c', .slice B m cap'] 35 := by subst hw0; simpa using (Blk.new (w.alloc (.cells #[.int .i64 r, .int .i64 c, .slice A n cap] 35)) _ _).ext ((Ext.refl _).alloc _)
        have b0 : Blk w0 (w.heap.size + 1 + 1) #[.int .i64 0, .int .i64 0, .slice none 0 0] 35 := by subst hw0; simpa using (Blk.new ((w.alloc (.cells #[.int .i64 r, .int .i64 c, .slice A n cap] 35)).alloc (.cells #[.int .i64 r', .int .i64 c', .slice B m cap'] 35)) _ _)
        rw [← hw0]
        clear hw0
        go_wp2_with fail
        refine (l02Is_any _ r c A n cap xs _ (MAt.blk ba (hr.below hx0))).mono ?_
        rintro e w1 ⟨rfl, hx⟩
        rw [hv]
        replace b0 := b0.ext hx
        replace ba := ba.ext hx
        replace bb := bb.ext hx
        replace hx0 := hx0.trans hx
        clear  hx
        go_wp2_with fail
        refine (l02Is_any _ r' c' B m cap' ys _ (MAt.blk bb (hq.below hx0))).mono ?_
        rintro e w2 ⟨rfl, hx⟩
        rw [hv']
        replace b0 := b0.ext hx
        replace ba := ba.ext hx
        replace bb := bb.ext hx
        replace hx0 := hx0.trans hx
        clear  hx
        obtain ⟨c0, c1, c2, hr1⟩ := MAt.blk ba (hr.below hx0)
        obtain ⟨d0, d1, d2, hq1⟩ := MAt.blk bb (hq.below hx0)
        go_wp2_with fail
        refine (l02Sides_any _ _ _).mono ?_
        rintro e w9 ⟨rfl, rfl⟩
        rw [ht]
        clear c0 c1 c2 d0 d1 d2
        have y0 : w2.cell? ⟨w.heap.size + 1 + 1, 0, none⟩ = some (.int .i64 0) := b0.cell 0 rfl
        have y1 : w2.cell? ⟨w.heap.size + 1 + 1, 1, none⟩ = some (.int .i64 0) := b0.cell 1 rfl
        have y2 : w2.cell? ⟨w.heap.size + 1 + 1, 2, none⟩ = some (.slice none 0 0) := b0.cell 2 rfl
        have q0 := b0.free 0
        have q1 := b0.free 1
        have q2 := b0.free 2
        have hq := b0.lt
        go_wp2_with fail
        obtain ⟨k1, k2, k3⟩ := Own.resM (w := w) (u := .int .i64 0) (v := .int .i64 0) (x := .slice none 0 0) b0 (own_nil _ w.heap.size _) hx0 (by omega)
        exact bodyPost_ret (resMB (x := .bool false) rfl rfl rfl k3) rfl (RetMD.bad hd k2)
      | true =>
        obtain ⟨R, C, rfl, rfl, p1, p2, p3, p4, p5⟩ := mat_nat hv
        obtain ⟨R', C', rfl, rfl, q1, q2, q3, q4, q5⟩ := mat_nat hv'
        have eR : (R : Int) * R' = ((R * R' : Nat) : Int) := by simp
        have eC : (C : Int) * C' = ((C * C' : Nat) : Int) := by simp
        have hkb : kronB R C R' C' xs ys = true := by unfold kronB; rw [Bool.and_assoc, ht, hv, hv']; rfl
        obtain ⟨d, hd⟩ : ∃ d, d = kronD R C R' C' xs ys := ⟨_, rfl⟩
        have hd' : d = giveM ((R * R' : Nat) : Int) ((C * C' : Nat) : Int) (tab (C * C') (kronF xs ys C R' C') ((R * R') * (C * C'))) := by
          rw [hd]; unfold kronD; rw [hkb, if_pos rfl, eR, eC]; rfl
        rw [← hd]
        replace hwr : IntKind.i64.wrap ((R : Int) * R') = ((R * R' : Nat) : Int) := by rw [hwr, eR]
        replace hwc : IntKind.i64.wrap ((C : Int) * C') = ((C * C' : Nat) : Int) := by rw [hwc, eC]
        rw [eR, eC] at ht
        have h12 : R * R' ≤ 12 := by rw [Bool.and_eq_true] at ht; have := inR_iff.1 ht.1; omega
        have h12' : C * C' ≤ 12 := by rw [Bool.and_eq_true] at ht; have := inR_iff.1 ht.2; omega
        obtain ⟨S, hS⟩ : ∃ S, S = R * R' := ⟨_, rfl⟩
        obtain ⟨T, hT⟩ : ∃ T, T = C * C' := ⟨_, rfl⟩
        rw [← hS] at hwr h12 ht
        rw [← hT] at hwc h12' ht
        rw [← hS, ← hT] at hd'
        have HD := Lib.hid hd'
        have HS := Lib.hid hS
        have HT := Lib.hid hT
        have Hn : Hid (n = R * C) := by have := HL.out; show n = _; omega
        have Hm : Hid (m = R' * C') := by have := HL'.out; show m = _; omega
        clear hd hd' eR eC hS hT p5 q5 hkb s1 s2 s3 s4
        go_enter Try.func69, Try.ntmps69
        go_upto_region 1 with (fail)
        obtain ⟨w0, hw0⟩ : ∃ w0, w0 = (((w.alloc (.cells #[.int .i64 R, .int .i64 C, .slice A n cap] 35)).alloc (.cells #[.int .i64 R', .int .i64 C', .slice B m cap'] 35)).alloc (.cells #[.int .i64 0, .int .i64 0, .slice none 0 0] 35)) := ⟨_, rfl⟩
        have hx0 : Ext w w0 := by subst hw0; exact (((Ext.refl _).alloc _).alloc _).alloc _
        have ba : Blk w0 (w.heap.size) #[.int .i64 R, .int .i64 C, .slice A n cap] 35 := by subst hw0; exact (Blk.new w _ _).ext (((Ext.refl _).alloc _).alloc _)
        have bb : Blk w0 (w.heap.size + 1) #[.int .i64 R', .int .i64 C', .slice B m cap'] 35 := by subst hw0; simpa using (Blk.new (w.alloc (.cells #[.int .i64 R, .int .i64 C, .slice A n cap] 35)) _ _).ext ((Ext.refl _).alloc _)
        have b0 : Blk w0 (w.heap.size + 1 + 1) #[.int .i64 0, .int .i64 0, .slice none 0 0] 35 := by subst hw0; simpa using (Blk.new ((w.alloc (.cells #[.int .i64 R, .int .i64 C, .slice A n cap] 35)).alloc (.cells #[.int .i64 R', .int .i64 C', .slice B m cap'] 35)) _ _)
        rw [← hw0]
        clear hw0
        go_wp2_with fail
        refine (l02Is_any _ _ _ A n cap xs _ (MAt.blk ba (hr.below hx0))).mono ?_
        rintro e w1 ⟨rfl, hx⟩
        rw [hv]
        replace b0 := b0.ext hx
        replace ba := ba.ext hx
        replace bb := bb.ext hx
        replace hx0 := hx0.trans hx
        clear  hx
        go_wp2_with fail
        refine (l02Is_any _ _ _ B m cap' ys _ (MAt.blk bb (hq.below hx0))).mono ?_
        rintro e w4 ⟨rfl, hx⟩
        rw [hv']
        replace b0 := b0.ext hx
        replace ba := ba.ext hx
        replace bb := bb.ext hx
        replace hx0 := hx0.trans hx
        clear  hx
        obtain ⟨c0, c1, c2, hr1⟩ := MAt.blk ba (hr.below hx0)
        obtain ⟨d0, d1, d2, hq1⟩ := MAt.blk bb (hq.below hx0)
        go_wp2_with fail
        refine (l02Sides_any _ _ _).mono ?_
        rintro e w9 ⟨rfl, rfl⟩
        rw [ht]
        clear c2 d2 hr1 hq1
        go_wp2_with fail
        refine (l02Blank_any S T _).mono ?_
        rintro e w5 ⟨A1, k1, zs, hz, rfl, o1, hx⟩
        obtain rfl : zs = [] := List.length_eq_zero_iff.1 (by rw [MO.len hz]; rfl)
        have hne : w.heap.size + 1 + 1 ≠ w5.heap.size := by have := b0.lt; have := hx.size; omega
        have hle : w4.heap.size ≤ w5.heap.size := hx.size
        have hsz4 : w.heap.size ≤ w4.heap.size := hx0.size
        clear c0 c1 d0 d1
        go_wp2_with fail
        have hst : MO w4 w5.heap.size (w.heap.size + 1 + 1) S T 0 (tab T (kronF xs ys C R' C') 0) (w5.alloc (.cells #[.int .i64 S, .int .i64 T, .slice A1 0 k1] 35)) :=
          ⟨A1, k1, [], rfl, Blk.new _ _ _, (b0.ext hx).ext ((Ext.refl _).alloc _), o1.ext ((Ext.refl _).alloc _), hx.alloc _⟩
        clear o1 hx hz
        go_loopw [7] (fun u wr => ∃ i : Nat, i ≤ S ∧ u = .int .i64 i ∧ MO w4 w5.heap.size (w.heap.size + 1 + 1) S T (i * T) (tab T (kronF xs ys C R' C') (i * T)) wr) (fun u _ => S - (intOf u).toNat)
        case atStart => exact ⟨0, Nat.zero_le _, rfl, by rw [Nat.zero_mul]; exact hst⟩
        case round =>
          clear hst
          obtain ⟨i, hi, rfl, hst⟩ := hrel
          have hst' := hst
          obtain ⟨A2, k2, zs, hz, h1, h2, h3, h4⟩ := hst'
          have z0 : wr.cell? ⟨w5.heap.size, 0, none⟩ = some (.int .i64 S) := h1.cell 0 rfl
          by_cases hlt : i < S
          · clear h1 h2 h3 h4 hz
            go_wp2_with fail
            go_loopw [8] (fun u wr => ∃ k : Nat, k ≤ T ∧ u = .int .i64 k ∧ MO w4 w5.heap.size (w.heap.size + 1 + 1) S T (i * T + k) (tab T (kronF xs ys C R' C') (i * T + k)) wr) (fun u _ => T - (intOf u).toNat)
            case atStart => exact ⟨0, Nat.zero_le _, rfl, hst⟩
            case round =>
              clear hst z0
              obtain ⟨k, hk, rfl, A2, k2, zs, hz, h1, h2, h3, h4⟩ := hrel
              have z1 : wr.cell? ⟨w5.heap.size, 1, none⟩ = some (.int .i64 T) := h1.cell 1 rfl
              by_cases hlk : k < T
              · obtain ⟨p, q, g1, g2, Hp, Hq, e1, e2, e3, e4, e5⟩ := kron_ix (by rw [← HS.out]; exact hlt) (by rw [← HS.out]; exact h12)
                obtain ⟨s, t, g3, g4, Hs, Ht, e6, e7, e8, e9, e10⟩ := kron_ix (by rw [← HT.out]; exact hlk) (by rw [← HT.out]; exact h12')
                have hxa := hx0.trans h4
                obtain ⟨c0, c1, c2, hr1⟩ := (MAt.blk ba (hr.below hx0)).ext h4
                obtain ⟨d0, d1, d2, hq1⟩ := (MAt.blk bb (hq.below hx0)).ext h4
                have z2 : wr.cell? ⟨w5.heap.size, 2, none⟩ = some (.slice A2 (i * T + k) k2) := h1.cell 2 rfl
                have hit : i * T + k ≤ 156 := by
                  have : i * T ≤ 12 * 12 := Nat.mul_le_mul (by omega) (by omega)
                  omega
                have Hv : Hid (fmul (c32 (at_ xs C p s)) (c32 (at_ ys C' q t)) = kronF xs ys C R' C' i k) := by show _ = _; unfold kronF; rw [Hp.out, Hq.out, Hs.out, Ht.out]
                clear c0 c1 c2 d2
                go_upto_region 10 with (fail)
                refine wp_region_T (cs := []) [0, 1, 2, 3, 4, 5, 6, 7, 8, 9, 10, 11, 12, 13, 14, 15, 16, 17, 18, 19, 20, 21] [22, 23, 24] [10, 19, 20, 21] [] (fun i__ v => match i__ with | 10 => v = (.float .f32 (at_ xs C p s)) | 19 => v = (.float .f32 (at_ ys C' q t)) | 20 => ∃ r, v = .float .f32 r ∧ c32 r = (kronF xs ys C R' C' i k) | 21 => ∃ g, v = .slice (some ⟨g, 0, none⟩) 1 1 | _ => False) (fun i__ v w' => match i__ with | 21 => OneF w' v (kronF xs ys C R' C' i k) 39 | _ => True) (by kernel_rfl) (by kernel_rfl) (by intro i v w' w2 h hx; revert h; (try dsimp only); split <;> intro h <;> first | trivial | exact OneF.ext h hx) ?_
                refine' wpT_det (o := ⟨some 53, Op.fieldAddr 35 (Operand.tmp 6) 2, 0, "l02_matrices.go:292", #[], none⟩) rfl (by rfl) (by rfl) (fun w' hw' => ?_) ?_; rotate_left
                · go_simp <;> first | rfl | exact ⟨rfl, rfl⟩
                simp only [Act.put, List.setIfInBounds_toArray, List.set_cons_zero, List.set_cons_succ]
                refine' wpT_det (o := ⟨some 54, Op.load 22 (Operand.tmp 53), 22, "l02_matrices.go:292", #[{ on := 0, ground := Ground.data }], none⟩) rfl (by rfl) (by rfl) (fun w' hw' => ?_) ?_; rotate_left
                · have d0_ := Ext.cell hw' d0; have d1_ := Ext.cell hw' d1; have z2_ := Ext.cell hw' z2; go_simp <;> first | rfl | exact ⟨rfl, rfl⟩
                simp only [Act.put, List.setIfInBounds_toArray, List.set_cons_zero, List.set_cons_succ]
                refine' wpT_det (o := ⟨some 55, Op.move (Operand.tmp 7), 2, "l02_matrices.go:292", #[], none⟩) rfl (by rfl) (by rfl) (fun w' hw' => ?_) ?_; rotate_left
                · go_simp <;> first | rfl | exact ⟨rfl, rfl⟩
                simp only [Act.put, List.setIfInBounds_toArray, List.set_cons_zero, List.set_cons_succ]
                refine' wpT_det (o := ⟨some 56, Op.fieldAddr 35 (Operand.tmp 3) 0, 0, "l02_matrices.go:292", #[], none⟩) rfl (by rfl) (by rfl) (fun w' hw' => ?_) ?_; rotate_left
                · go_simp <;> first | rfl | exact ⟨rfl, rfl⟩
                simp only [Act.put, List.setIfInBounds_toArray, List.set_cons_zero, List.set_cons_succ]
                refine' wpT_det (o := ⟨some 57, Op.load 2 (Operand.tmp 56), 2, "l02_matrices.go:292", #[{ on := 3, ground := Ground.data }], none⟩) rfl (by rfl) (by rfl) (fun w' hw' => ?_) ?_; rotate_left
                · have d0_ := Ext.cell hw' d0; have d1_ := Ext.cell hw' d1; have z2_ := Ext.cell hw' z2; go_simp <;> first | rfl | exact ⟨rfl, rfl⟩
                simp only [Act.put, List.setIfInBounds_toArray, List.set_cons_zero, List.set_cons_succ]
                refine' wpT_det (o := ⟨some 58, Op.binOp BinOp.quo 2 (Operand.tmp 55) (Operand.tmp 57) 2, 2, "l02_matrices.go:292", #[{ on := 2, ground := Ground.data }, { on := 4, ground := Ground.data }], none⟩) rfl (by rfl) (by rfl) (fun w' hw' => ?_) ?_; rotate_left
                · go_simp <;> first | rfl | exact ⟨rfl, rfl⟩
                simp only [Act.put, List.setIfInBounds_toArray, List.set_cons_zero, List.set_cons_succ]
                refine' wpT_det (o := ⟨some 59, Op.move (Operand.tmp 8), 2, "l02_matrices.go:292", #[], none⟩) rfl (by rfl) (by rfl) (fun w' hw' => ?_) ?_; rotate_left
                · go_simp <;> first | rfl | exact ⟨rfl, rfl⟩
                simp only [Act.put, List.setIfInBounds_toArray, List.set_cons_zero, List.set_cons_succ]
                refine' wpT_det (o := ⟨some 60, Op.fieldAddr 35 (Operand.tmp 3) 1, 0, "l02_matrices.go:292", #[], none⟩) rfl (by rfl) (by rfl) (fun w' hw' => ?_) ?_; rotate_left
                · go_simp <;> first | rfl | exact ⟨rfl, rfl⟩
                simp only [Act.put, List.setIfInBounds_toArray, List.set_cons_zero, List.set_cons_succ]
                refine' wpT_det (o := ⟨some 61, Op.load 2 (Operand.tmp 60), 2, "l02_matrices.go:292", #[{ on := 7, ground := Ground.data }], none⟩) rfl (by rfl) (by rfl) (fun w' hw' => ?_) ?_; rotate_left
                · have d0_ := Ext.cell hw' d0; have d1_ := Ext.cell hw' d1; have z2_ := Ext.cell hw' z2; go_simp <;> first | rfl | exact ⟨rfl, rfl⟩
                simp only [Act.put, List.setIfInBounds_toArray, List.set_cons_zero, List.set_cons_succ]
                refine' wpT_det (o := ⟨some 62, Op.binOp BinOp.quo 2 (Operand.tmp 59) (Operand.tmp 61) 2, 2, "l02_matrices.go:292", #[{ on := 6, ground := Ground.data }, { on := 8, ground := Ground.data }], none⟩) rfl (by rfl) (by rfl) (fun w' hw' => ?_) ?_; rotate_left
                · go_simp <;> first | rfl | exact ⟨rfl, rfl⟩
                simp only [Act.put, List.setIfInBounds_toArray, List.set_cons_zero, List.set_cons_succ]
                refine wpT_nd (o := ⟨some 63, Op.call { callee := Callee.value (Operand.func 107), args := #[Operand.tmp 2, Operand.tmp 58, Operand.tmp 62], argTypes := #[85, 2, 2] }, 39, "l02_matrices.go:292", #[{ on := 5, ground := Ground.data }, { on := 9, ground := Ground.data }], none⟩) rfl (by rfl) (by rfl) (fun w' hw' hF R__ hGo => ?_) ⟨_, rfl⟩ ?_
                · go_simp
                  refine gives_enter rfl ?_
                  refine (l02At_any _ R C p s n cap A xs _ g1 g3 p2 p4 Hn.out (((MAt.blk ba (hr.below hx0)).ext h4).ext hw'.undrew)).mono ?_
                  rintro e w2 ⟨rfl, hx⟩
                  exact ⟨_, rfl, hGo _ _ hx rfl trivial⟩
                intro v hv
                obtain rfl : v = (.float .f32 (at_ xs C p s)) := hv
                simp only [Act.put, List.setIfInBounds_toArray, List.set_cons_zero, List.set_cons_succ]
                refine' wpT_det (o := ⟨some 64, Op.move (Operand.tmp 7), 2, "l02_matrices.go:292", #[], none⟩) rfl (by rfl) (by rfl) (fun w' hw' => ?_) ?_; rotate_left
                · go_simp <;> first | rfl | exact ⟨rfl, rfl⟩
                simp only [Act.put, List.setIfInBounds_toArray, List.set_cons_zero, List.set_cons_succ]
                refine' wpT_det (o := ⟨some 65, Op.fieldAddr 35 (Operand.tmp 3) 0, 0, "l02_matrices.go:292", #[], none⟩) rfl (by rfl) (by rfl) (fun w' hw' => ?_) ?_; rotate_left
                · go_simp <;> first | rfl | exact ⟨rfl, rfl⟩
                simp only [Act.put, List.setIfInBounds_toArray, List.set_cons_zero, List.set_cons_succ]
                refine' wpT_det (o := ⟨some 66, Op.load 2 (Operand.tmp 65), 2, "l02_matrices.go:292", #[{ on := 12, ground := Ground.data }], none⟩) rfl (by rfl) (by rfl) (fun w' hw' => ?_) ?_; rotate_left
                · have d0_ := Ext.cell hw' d0; have d1_ := Ext.cell hw' d1; have z2_ := Ext.cell hw' z2; go_simp <;> first | rfl | exact ⟨rfl, rfl⟩
                simp only [Act.put, List.setIfInBounds_toArray, List.set_cons_zero, List.set_cons_succ]
                refine' wpT_det (o := ⟨some 67, Op.binOp BinOp.rem 2 (Operand.tmp 64) (Operand.tmp 66) 2, 2, "l02_matrices.go:292", #[{ on := 11, ground := Ground.data }, { on := 13, ground := Ground.data }], none⟩) rfl (by rfl) (by rfl) (fun w' hw' => ?_) ?_; rotate_left
                · go_simp <;> first | rfl | exact ⟨rfl, rfl⟩
                simp only [Act.put, List.setIfInBounds_toArray, List.set_cons_zero, List.set_cons_succ]
                refine' wpT_det (o := ⟨some 68, Op.move (Operand.tmp 8), 2, "l02_matrices.go:292", #[], none⟩) rfl (by rfl) (by rfl) (fun w' hw' => ?_) ?_; rotate_left
                · go_simp <;> first | rfl | exact ⟨rfl, rfl⟩
                simp only [Act.put, List.setIfInBounds_toArray, List.set_cons_zero, List.set_cons_succ]
                refine' wpT_det (o := ⟨some 69, Op.fieldAddr 35 (Operand.tmp 3) 1, 0, "l02_matrices.go:292", #[], none⟩) rfl (by rfl) (by rfl) (fun w' hw' => ?_) ?_; rotate_left
                · go_simp <;> first | rfl | exact ⟨rfl, rfl⟩
                simp only [Act.put, List.setIfInBounds_toArray, List.set_cons_zero, List.set_cons_succ]
                refine' wpT_det (o := ⟨some 70, Op.load 2 (Operand.tmp 69), 2, "l02_matrices.go:292", #[{ on := 16, ground := Ground.data }], none⟩) rfl (by rfl) (by rfl) (fun w' hw' => ?_) ?_; rotate_left
                · have d0_ := Ext.cell hw' d0; have d1_ := Ext.cell hw' d1; have z2_ := Ext.cell hw' z2; go_simp <;> first | rfl | exact ⟨rfl, rfl⟩
                simp only [Act.put, List.setIfInBounds_toArray, List.set_cons_zero, List.set_cons_succ]
                refine' wpT_det (o := ⟨some 71, Op.binOp BinOp.rem 2 (Operand.tmp 68) (Operand.tmp 70) 2, 2, "l02_matrices.go:292", #[{ on := 15, ground := Ground.data }, { on := 17, ground := Ground.data }], none⟩) rfl (by rfl) (by rfl) (fun w' hw' => ?_) ?_; rotate_left
                · go_simp <;> first | rfl | exact ⟨rfl, rfl⟩
                simp only [Act.put, List.setIfInBounds_toArray, List.set_cons_zero, List.set_cons_succ]
                refine wpT_nd (o := ⟨some 72, Op.call { callee := Callee.value (Operand.func 107), args := #[Operand.tmp 3, Operand.tmp 67, Operand.tmp 71], argTypes := #[85, 2, 2] }, 39, "l02_matrices.go:292", #[{ on := 14, ground := Ground.data }, { on := 18, ground := Ground.data }, { on := 10, ground := Ground.chain }], none⟩) rfl (by rfl) (by rfl) (fun w' hw' hF R__ hGo => ?_) ⟨_, rfl⟩ ?_
                · go_simp
                  refine gives_enter rfl ?_
                  refine (l02At_any _ R' C' q t m cap' B ys _ g2 g4 q2 q4 Hm.out (((MAt.blk bb (hq.below hx0)).ext h4).ext hw'.undrew)).mono ?_
                  rintro e w2 ⟨rfl, hx⟩
                  exact ⟨_, rfl, hGo _ _ hx rfl trivial⟩
                intro v hv
                obtain rfl : v = (.float .f32 (at_ ys C' q t)) := hv
                simp only [Act.put, List.setIfInBounds_toArray, List.set_cons_zero, List.set_cons_succ]
                refine wpT_nd (o := ⟨some 73, Op.binOp BinOp.mul 39 (Operand.tmp 63) (Operand.tmp 72) 39, 39, "l02_matrices.go:292", #[{ on := 10, ground := Ground.data }, { on := 19, ground := Ground.data }], none⟩) rfl (by rfl) (by rfl) (fun w' hw' hF R__ hGo => ?_) (by obtain ⟨r, hr⟩ := ex_d .mul (Hv.out : fop .mul .f32 (c32 (at_ xs C p s)) (c32 (at_ ys C' q t)) = (kronF xs ys C R' C' i k)); exact ⟨_, r, rfl, hr⟩) ?_
                · exact gives_f .mul (.inr (.inr (.inl rfl))) _ _ _ _ rfl (at_ xs C p s) (at_ ys C' q t) rfl rfl (kronF xs ys C R' C' i k) Hv.out (fun r w2 hx hc => hGo _ _ hx ⟨r, rfl, hc⟩ trivial)
                rintro _ ⟨f20, rfl, hf20⟩
                simp only [Act.put, List.setIfInBounds_toArray, List.set_cons_zero, List.set_cons_succ]
                refine wpT_nd (o := ⟨some 74, Op.buildSlice 22 1 #[(0, Operand.tmp 73)], 22, "l02_matrices.go:292", #[{ on := 20, ground := Ground.data }], none⟩) rfl (by rfl) (by rfl) (fun w' hw' hF R__ hGo => ?_) ⟨_, 0, rfl⟩ ?_
                · go_simp; exact gives_value rfl (hGo _ _ ((Ext.refl _).alloc _) ⟨_, rfl⟩ ⟨f20, hf20, One.new _ _ _⟩)
                rintro _ ⟨g1', rfl⟩
                simp only [Act.put, List.setIfInBounds_toArray, List.set_cons_zero, List.set_cons_succ]
                refine wpT_nil (fun w6 hw' hF => ?_)
                show wpList _ _ _ [(⟨some 75, Op.call { callee := Callee.builtin Builtin.append, args := #[Operand.tmp 54, Operand.tmp 74], argTypes := #[22, 22] }, 22, "l02_matrices.go:292", #[{ on := 1, ground := Ground.data }, { on := 21, ground := Ground.data }, { on := 19, ground := Ground.chain }], none⟩ : Oper), (⟨some 76, Op.fieldAddr 35 (Operand.tmp 6) 2, 0, "l02_matrices.go:292", #[{ on := 0, ground := Ground.phase }, { on := 1, ground := Ground.phase }, { on := 2, ground := Ground.phase }, { on := 3, ground := Ground.phase }, { on := 4, ground := Ground.phase }, { on := 5, ground := Ground.phase }, { on := 6, ground := Ground.phase }, { on := 7, ground := Ground.phase }, { on := 8, ground := Ground.phase }, { on := 9, ground := Ground.phase }, { on := 10, ground := Ground.phase }, { on := 11, ground := Ground.phase }, { on := 12, ground := Ground.phase }, { on := 13, ground := Ground.phase }, { on := 14, ground := Ground.phase }, { on := 15, ground := Ground.phase }, { on := 16, ground := Ground.phase }, { on := 17, ground := Ground.phase }, { on := 18, ground := Ground.phase }, { on := 19, ground := Ground.phase }, { on := 20, ground := Ground.phase }, { on := 21, ground := Ground.phase }, { on := 22, ground := Ground.phase }], none⟩ : Oper), (⟨none, Op.store 22 (Operand.tmp 76) (Operand.tmp 75), 0, "l02_matrices.go:292", #[{ on := 23, ground := Ground.data }, { on := 22, ground := Ground.data }, { on := 22, ground := Ground.chain }, { on := 0, ground := Ground.phase }, { on := 1, ground := Ground.phase }, { on := 2, ground := Ground.phase }, { on := 3, ground := Ground.phase }, { on := 4, ground := Ground.phase }, { on := 5, ground := Ground.phase }, { on := 6, ground := Ground.phase }, { on := 7, ground := Ground.phase }, { on := 8, ground := Ground.phase }, { on := 9, ground := Ground.phase }, { on := 10, ground := Ground.phase }, { on := 11, ground := Ground.phase }, { on := 12, ground := Ground.phase }, { on := 13, ground := Ground.phase }, { on := 14, ground := Ground.phase }, { on := 15, ground := Ground.phase }, { on := 16, ground := Ground.phase }, { on := 17, ground := Ground.phase }, { on := 18, ground := Ground.phase }, { on := 19, ground := Ground.phase }, { on := 20, ground := Ground.phase }, { on := 21, ground := Ground.phase }, { on := 22, ground := Ground.phase }], none⟩ : Oper)] _ _
                obtain ⟨r, hr', hg⟩ : OneF w6 (.slice (some ⟨g1', 0, none⟩) 1 1) (kronF xs ys C R' C' i k) 39 := hF 21 _ rfl
                have hx := hw'.undrew
                clear hF hw' z1 z2 d0 d1 hr1 hq1
                replace h1 := h1.ext hx
                replace h2 := h2.ext hx
                replace h3 := h3.ext hx
                replace h4 := h4.trans hx
                clear hx
                have hsz := h4.size
                have hl0 := h3.len
                have hlc : (flts zs).length = (i * T + k) := hl0
                have hf := h1.free 2
                have hc := h1.cell 2 rfl
                go_wp2_with (at_builtin; go_loud (refine wpList_app1 rfl _ _ _ rfl w6 w4.heap.size 39 (.float .f32 0) 4 Try.underlying22 info_f32 rfl (by decide) (.slice A2 (i * T + k) k2) (flts zs) rfl g1' (.float .f32 r) rfl hg h3 rfl (by omega) hsz ?_); rw [hl0]; intro A' c' w7 h5 h6 h7; clear hf hc; have b1 := h1.wr h6 h3 (by decide); have hf := b1.free 2; have hq := b1.lt; have hc := b1.cell 2 rfl)
                go_roundw
                case rel =>
                  refine ⟨k + 1, by omega, by go_num, ?_⟩
                  have := MO.app hle hne hz h1 h2 h3 h4 h5 h6
                  rwa [hr', tab_succ (kronF xs ys C R' C') i k hlk] at this
                case measure => simp [intOf]; omega
              · obtain rfl : k = T := by omega
                go_wp2_with fail
                go_roundw
                case rel => exact ⟨i + 1, by omega, by go_num, by rw [Nat.succ_mul]; exact ⟨A2, k2, zs, hz, h1, h2, h3, h4⟩⟩
                case measure => simp [intOf]; omega
          · obtain rfl : i = S := by omega
            have z1 : wr.cell? ⟨w5.heap.size, 1, none⟩ = some (.int .i64 T) := h1.cell 1 rfl
            have z2 : wr.cell? ⟨w5.heap.size, 2, none⟩ = some (.slice A2 (i * T) k2) := h1.cell 2 rfl
            go_wp2_with fail
            refine (l02Give_any w4.heap.size i T A2 (i * T) k2 zs _ h3 h4.size).mono ?_
            have HD' : Hid (d = giveM i T (cfs zs)) := by rw [hz]; exact HD.out
            rw [← HD'.out]
            rintro e w8 ⟨A3, k3, rfl, ho, hx⟩
            replace b0 := h2.ext hx
            replace hx0 := (hx0.trans h4).trans hx
            have ho' := ho.base hsz4
            clear z0 z1 z2
            have y0 : w8.cell? ⟨w.heap.size + 1 + 1, 0, none⟩ = some (.int .i64 0) := b0.cell 0 rfl
            have y1 : w8.cell? ⟨w.heap.size + 1 + 1, 1, none⟩ = some (.int .i64 0) := b0.cell 1 rfl
            have y2 : w8.cell? ⟨w.heap.size + 1 + 1, 2, none⟩ = some (.slice none 0 0) := b0.cell 2 rfl
            have q0 := b0.free 0
            have q1 := b0.free 1
            have q2 := b0.free 2
            have hq := b0.lt
            go_wp2_with fail
            obtain ⟨j1, j2, j3⟩ := Own.resM (w := w) (u := .int .i64 d.r) (v := .int .i64 d.c) (x := .slice A3 d.xs.length k3) b0 ho' hx0 (by omega)
            exact bodyPost_ret (resMB (x := .bool d.ok) rfl rfl rfl j3) rfl ⟨A3, k3, rfl, j1, j2⟩

end Go.Proofs.Ytgjfdfmbknmpaaa
