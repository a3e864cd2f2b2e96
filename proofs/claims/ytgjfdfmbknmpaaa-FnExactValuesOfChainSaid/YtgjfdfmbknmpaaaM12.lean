import Derived.Test.YtgjfdfmbknmpaaaM11
set_option linter.unusedVariables false
set_option linter.unusedSimpArgs false
namespace Go.Proofs.Ytgjfdfmbknmpaaa
open Go.RowKit

set_option maxRecDepth 20000 in
set_option maxHeartbeats 8000000 in
theorem specWeighMatrices_any (r c : Int) (A : Option Addr) (n cap : Nat) (r' c' : Int) (B : Option Addr) (m cap' : Nat) (x y : Nat) (xs ys : List Nat) (w : World) (hr : Rds w A n (flts xs)) (hq : Rds w B m (flts ys)) :
    Calls Try.prog 65 #[.agg #[.int .i64 r, .int .i64 c, .slice A n cap], .agg #[.int .i64 r', .int .i64 c', .slice B m cap'], .float .f32 x, .float .f32 y] w (RetMD w (weighD r c r' c' x y xs ys)) := by
  have HL := Lib.hid hr.flen
  have HL' := Lib.hid hq.flen
  cases hv : isMat r c xs with
  | false =>
    have hd := wD_a (r' := r') (c' := c') (x := x) (y := y) (ys := ys) hv
    go_enter Try.func65, Try.ntmps65
    go_upto_region 1 with (fail)
    obtain ⟨w0, hw0⟩ : ∃ w0, w0 = (((w.alloc (.cells #[.int .i64 r, .int .i64 c, .slice A n cap] 35)).alloc (.cells #[.int .i64 r', .int .i64 c', .slice B m cap'] 35)).alloc (.cells #[.int .i64 0, .int .i64 0, .slice none 0 0] 35)) := ⟨_, rfl⟩
    have hx0 : Ext w w0 := by subst hw0; exact (((Ext.refl _).alloc _).alloc _).alloc _
    have ba : Blk w0 (w.heap.size) #[.int .i64 r, .int .i64 c, .slice A n cap] 35 := by subst hw0; exact (Blk.new w _ _).ext (((Ext.refl _).alloc _).alloc _)
    have bb : Blk w0 (w.heap.size + 1) #[.int .i64 r', .int .i64 c', .slice B m cap'] 35 := by subst hw0; simpa using (Blk.new (w.alloc (.cells #[.int .i64 r, .int .i64 c, .slice A n cap] 35)) _ _).ext ((Ext.refl _).alloc _)
    have b0 : Blk w0 (w.heap.size + 1 + 1) #[.int .i64 0, .int .i64 0, .slice none 0 0] 35 := by subst hw0; simpa using (Blk.new ((w.alloc (.cells #[.int .i64 r, .int .i64 c, .slice A n cap] 35)).alloc (.cells #[.int .i64 r', .int .i64 c', .slice B m cap'] 35)) _ _)
    rw [← hw0]
    clear hw0
    go_wp2_with fail
    refine (l02Is_any _ r c A n cap xs _ (MAt.blk ba (hr.below hx0))).mono ?_
    rintro e w1 ⟨rfl, hx⟩
    rw [hv]
    replace b0 := b0.ext hx
    replace hx0 := hx0.trans hx
    clear  hx
    have y0 : w1.cell? ⟨w.heap.size + 1 + 1, 0, none⟩ = some (.int .i64 0) := b0.cell 0 rfl
    have y1 : w1.cell? ⟨w.heap.size + 1 + 1, 1, none⟩ = some (.int .i64 0) := b0.cell 1 rfl
    have y2 : w1.cell? ⟨w.heap.size + 1 + 1, 2, none⟩ = some (.slice none 0 0) := b0.cell 2 rfl
    have q0 := b0.free 0
    have q1 := b0.free 1
    have q2 := b0.free 2
    have hq := b0.lt
    go_wp2_with fail
    obtain ⟨k1, k2, k3⟩ := Own.resM (w := w) (u := .int .i64 0) (v := .int .i64 0) (x := .slice none 0 0) b0 (own_nil _ w.heap.size _) hx0 (by omega)
    exact bodyPost_ret (resMB (x := .bool false) rfl rfl rfl k3) rfl (RetMD.bad hd k2)
  | true =>
    cases hv' : isMat r' c' ys with
    | false =>
      have hd := wD_b (r := r) (c := c) (x := x) (y := y) (xs := xs) hv'
      go_enter Try.func65, Try.ntmps65
      go_upto_region 1 with (fail)
      obtain ⟨w0, hw0⟩ : ∃ w0, w0 = (((w.alloc (.cells #[.int .i64 r, .int .i64 c, .slice A n cap] 35)).alloc (.cells #[.int .i64 r', .int .i64 c', .slice B m cap'] 35)).alloc (.cells #[.int .i64 0, .int .i64 0, .slice none 0 0] 35)) := ⟨_, rfl⟩
      have hx0 : Ext w w0 := by subst hw0; exact (((Ext.refl _).alloc _).alloc _).alloc _
      have ba : Blk w0 (w.heap.size) #[.int .i64 r, .int .i64 c, .slice A n cap] 35 := by subst hw0; exact (Blk.new w _ _).ext (((Ext.refl _).alloc _).alloc _)
      have bb : Blk w0 (w.heap.size + 1) #[.int .i64 r', .int .i64 c', .slice B m cap'] 35 := by subst hw0; simpa using (Blk.new (w.alloc (.cells #[.int .i64 r, .int .i64 c, .slice A n cap] 35)) _ _).ext ((Ext.refl _).alloc _)
      have b0 : Blk w0 (w.heap.size + 1 + 1) #[.int .i64 0, .int .i64 0, .slice none 0 0] 35 := by subst hw0; simpa using (Blk.new ((w.alloc (.cells #[.int .i64 r, .int .i64 c, .slice A n cap] 35)).alloc (.cells #[.int .i64 r', .int .i64 c', .slice B m cap'] 35)) _ _)
      rw [← hw0]
      clear hw0
      go_wp2_with fail
      refine (l02Is_any _ r c A n cap xs _ (MAt.blk ba (hr.below hx0))).mono ?_
      rintro e w1 ⟨rfl, hx⟩
      rw [hv]
      replace b0 := b0.ext hx
      replace ba := ba.ext hx
      replace bb := bb.ext hx
      replace hx0 := hx0.trans hx
      clear  hx
      go_wp2_with fail
      refine (l02Is_any _ r' c' B m cap' ys _ (MAt.blk bb (hq.below hx0))).mono ?_
      rintro e w2 ⟨rfl, hx⟩
      rw [hv']
      replace b0 := b0.ext hx
      replace ba := ba.ext hx
      replace bb := bb.ext hx
      replace hx0 := hx0.trans hx
      clear  hx
      have y0 : w2.cell? ⟨w.heap.size + 1 + 1, 0, none⟩ = some (.int .i64 0) := b0.cell 0 rfl
      have y1 : w2.cell? ⟨w.heap.size + 1 + 1, 1, none⟩ = some (.int .i64 0) := b0.cell 1 rfl
      have y2 : w2.cell? ⟨w.heap.size + 1 + 1, 2, none⟩ = some (.slice none 0 0) := b0.cell 2 rfl
      have q0 := b0.free 0
      have q1 := b0.free 1
      have q2 := b0.free 2
      have hq := b0.lt
      go_wp2_with fail
      obtain ⟨k1, k2, k3⟩ := Own.resM (w := w) (u := .int .i64 0) (v := .int .i64 0) (x := .slice none 0 0) b0 (own_nil _ w.heap.size _) hx0 (by omega)
      exact bodyPost_ret (resMB (x := .bool false) rfl rfl rfl k3) rfl (RetMD.bad hd k2)
    | true =>
      by_cases hrr : r = r'
      · subst hrr
        have dr : (r != r) = false := by simp
        by_cases hcc : c = c'
        · subst hcc
          have dc : (c != c) = false := by simp
          cases hf1 : isFin .f32 x with
          | false =>
            have hd := wD_f (r := r) (r' := r) (c := c) (c' := c) (xs := xs) (ys := ys) (x := x) (y := y) (by rw [hf1]; rfl)
            go_enter Try.func65, Try.ntmps65
            go_upto_region 1 with (fail)
            obtain ⟨w0, hw0⟩ : ∃ w0, w0 = (((w.alloc (.cells #[.int .i64 r, .int .i64 c, .slice A n cap] 35)).alloc (.cells #[.int .i64 r, .int .i64 c, .slice B m cap'] 35)).alloc (.cells #[.int .i64 0, .int .i64 0, .slice none 0 0] 35)) := ⟨_, rfl⟩
            have hx0 : Ext w w0 := by subst hw0; exact (((Ext.refl _).alloc _).alloc _).alloc _
            have ba : Blk w0 (w.heap.size) #[.int .i64 r, .int .i64 c, .slice A n cap] 35 := by subst hw0; exact (Blk.new w _ _).ext (((Ext.refl _).alloc _).alloc _)
            have bb : Blk w0 (w.heap.size + 1) #[.int .i64 r, .int .i64 c, .slice B m cap'] 35 := by subst hw0; simpa using (Blk.new (w.alloc (.cells #[.int .i64 r, .int .i64 c, .slice A n cap] 35)) _ _).ext ((Ext.refl _).alloc _)
            have b0 : Blk w0 (w.heap.size + 1 + 1) #[.int .i64 0, .int .i64 0, .slice none 0 0] 35 := by subst hw0; simpa using (Blk.new ((w.alloc (.cells #[.int .i64 r, .int .i64 c, .slice A n cap] 35)).alloc (.cells #[.int .i64 r, .int .i64 c, .slice B m cap'] 35)) _ _)
            rw [← hw0]
            clear hw0
            go_wp2_with fail
            refine (l02Is_any _ r c A n cap xs _ (MAt.blk ba (hr.below hx0))).mono ?_
            rintro e w1 ⟨rfl, hx⟩
            rw [hv]
            replace b0 := b0.ext hx
            replace ba := ba.ext hx
            replace bb := bb.ext hx
            replace hx0 := hx0.trans hx
            clear  hx
            go_wp2_with fail
            refine (l02Is_any _ r c B m cap' ys _ (MAt.blk bb (hq.below hx0))).mono ?_
            rintro e w2 ⟨rfl, hx⟩
            rw [hv']
            replace b0 := b0.ext hx
            replace ba := ba.ext hx
            replace bb := bb.ext hx
            replace hx0 := hx0.trans hx
            clear  hx
            obtain ⟨c0, c1, c2, hr1⟩ := MAt.blk ba (hr.below hx0)
            obtain ⟨d0, d1, d2, hq1⟩ := MAt.blk bb (hq.below hx0)
            go_wp2_with fail
            refine (l01Finite_any x _).mono ?_
            rintro e w3 ⟨rfl, hx⟩
            rw [hf1]
            replace b0 := b0.ext hx
            replace hx0 := hx0.trans hx
            clear c0 c1 c2 d0 d1 d2 hx
            have y0 : w3.cell? ⟨w.heap.size + 1 + 1, 0, none⟩ = some (.int .i64 0) := b0.cell 0 rfl
            have y1 : w3.cell? ⟨w.heap.size + 1 + 1, 1, none⟩ = some (.int .i64 0) := b0.cell 1 rfl
            have y2 : w3.cell? ⟨w.heap.size + 1 + 1, 2, none⟩ = some (.slice none 0 0) := b0.cell 2 rfl
            have q0 := b0.free 0
            have q1 := b0.free 1
            have q2 := b0.free 2
            have hq := b0.lt
            go_wp2_with fail
            obtain ⟨k1, k2, k3⟩ := Own.resM (w := w) (u := .int .i64 0) (v := .int .i64 0) (x := .slice none 0 0) b0 (own_nil _ w.heap.size _) hx0 (by omega)
            exact bodyPost_ret (resMB (x := .bool false) rfl rfl rfl k3) rfl (RetMD.bad hd k2)
          | true =>
            cases hf2 : isFin .f32 y with
            | false =>
              have hd := wD_f (r := r) (r' := r) (c := c) (c' := c) (xs := xs) (ys := ys) (x := x) (y := y) (by rw [hf1, hf2]; rfl)
              go_enter Try.func65, Try.ntmps65
              go_upto_region 1 with (fail)
              obtain ⟨w0, hw0⟩ : ∃ w0, w0 = (((w.alloc (.cells #[.int .i64 r, .int .i64 c, .slice A n cap] 35)).alloc (.cells #[.int .i64 r, .int .i64 c, .slice B m cap'] 35)).alloc (.cells #[.int .i64 0, .int .i64 0, .slice none 0 0] 35)) := ⟨_, rfl⟩
              have hx0 : Ext w w0 := by subst hw0; exact (((Ext.refl _).alloc _).alloc _).alloc _
              have ba : Blk w0 (w.heap.size) #[.int .i64 r, .int .i64 c, .slice A n cap] 35 := by subst hw0; exact (Blk.new w _ _).ext (((Ext.refl _).alloc _).alloc _)
              have bb : Blk w0 (w.heap.size + 1) #[.int .i64 r, .int .i64 c, .slice B m cap'] 35 := by subst hw0; simpa using (Blk.new (w.alloc (.cells #[.int .i64 r, .int .i64 c, .slice A n cap] 35)) _ _).ext ((Ext.refl _).alloc _)
              have b0 : Blk w0 (w.heap.size + 1 + 1) #[.int .i64 0, .int .i64 0, .slice none 0 0] 35 := by subst hw0; simpa using (Blk.new ((w.alloc (.cells #[.int .i64 r, .int .i64 c, .slice A n cap] 35)).alloc (.cells #[.int .i64 r, .int .i64 c, .slice B m cap'] 35)) _ _)
              rw [← hw0]
              clear hw0
              go_wp2_with fail
              refine (l02Is_any _ r c A n cap xs _ (MAt.blk ba (hr.below hx0))).mono ?_
              rintro e w1 ⟨rfl, hx⟩
              rw [hv]
              replace b0 := b0.ext hx
              replace ba := ba.ext hx
              replace bb := bb.ext hx
              replace hx0 := hx0.trans hx
              clear  hx
              go_wp2_with fail
              refine (l02Is_any _ r c B m cap' ys _ (MAt.blk bb (hq.below hx0))).mono ?_
              rintro e w2 ⟨rfl, hx⟩
              rw [hv']
              replace b0 := b0.ext hx
              replace ba := ba.ext hx
              replace bb := bb.ext hx
              replace hx0 := hx0.trans hx
              clear  hx
              obtain ⟨c0, c1, c2, hr1⟩ := MAt.blk ba (hr.below hx0)
              obtain ⟨d0, d1, d2, hq1⟩ := MAt.blk bb (hq.below hx0)
              go_wp2_with fail
              refine (l01Finite_any x _).mono ?_
              rintro e w3 ⟨rfl, hx⟩
              rw [hf1]
              replace b0 := b0.ext hx
              replace hx0 := hx0.trans hx
              clear c0 c1 c2 d0 d1 d2 hx
              go_wp2_with fail
              refine (l01Finite_any y _).mono ?_
              rintro e w4 ⟨rfl, hx⟩
              rw [hf2]
              replace b0 := b0.ext hx
              replace hx0 := hx0.trans hx
              clear  hx
              have y0 : w4.cell? ⟨w.heap.size + 1 + 1, 0, none⟩ = some (.int .i64 0) := b0.cell 0 rfl
              have y1 : w4.cell? ⟨w.heap.size + 1 + 1, 1, none⟩ = some (.int .i64 0) := b0.cell 1 rfl
              have y2 : w4.cell? ⟨w.heap.size + 1 + 1, 2, none⟩ = some (.slice none 0 0) := b0.cell 2 rfl
              have q0 := b0.free 0
              have q1 := b0.free 1
              have q2 := b0.free 2
              have hq := b0.lt
              go_wp2_with fail
              obtain ⟨k1, k2, k3⟩ := Own.resM (w := w) (u := .int .i64 0) (v := .int .i64 0) (x := .slice none 0 0) b0 (own_nil _ w.heap.size _) hx0 (by omega)
              exact bodyPost_ret (resMB (x := .bool false) rfl rfl rfl k3) rfl (RetMD.bad hd k2)
            | true =>
              obtain ⟨R, C, rfl, rfl, u1, u2, u3, u4, u5⟩ := mat_nat hv
              obtain ⟨R2, C2, e1, e2, _, _, _, _, u6⟩ := mat_nat hv'
              obtain rfl : R2 = R := by omega
              obtain rfl : C2 = C := by omega
              obtain rfl : n = R2 * C2 := by have := HL.out; omega
              obtain rfl : m = R2 * C2 := by have := HL'.out; omega
              obtain ⟨N, hN⟩ : ∃ N, N = R2 * C2 := ⟨_, rfl⟩
              obtain ⟨d, hd⟩ : ∃ d, d = weighD R2 C2 R2 C2 x y xs ys := ⟨_, rfl⟩
              have hd' : d = giveM R2 C2 (tab C2 (weighF xs ys x y C2) (R2 * C2)) := by rw [hd]; simp [weighD, hv, hv', hf1, hf2]
              have HD := Lib.hid hd'
              rw [← hd]
              have hN144 : N ≤ 144 := by rw [hN]; exact Nat.mul_le_mul u2 u4
              rw [← hN] at hr hq
              rw [← hN]
              have HN := Lib.hid hN
              clear hd hd' e1 e2 u5 u6 hN
              go_enter Try.func65, Try.ntmps65
              go_upto_region 1 with (fail)
              obtain ⟨w0, hw0⟩ : ∃ w0, w0 = (((w.alloc (.cells #[.int .i64 R2, .int .i64 C2, .slice A N cap] 35)).alloc (.cells #[.int .i64 R2, .int .i64 C2, .slice B N cap'] 35)).alloc (.cells #[.int .i64 0, .int .i64 0, .slice none 0 0] 35)) := ⟨_, rfl⟩
              have hx0 : Ext w w0 := by subst hw0; exact (((Ext.refl _).alloc _).alloc _).alloc _
              have ba : Blk w0 (w.heap.size) #[.int .i64 R2, .int .i64 C2, .slice A N cap] 35 := by subst hw0; exact (Blk.new w _ _).ext (((Ext.refl _).alloc _).alloc _)
              have bb : Blk w0 (w.heap.size + 1) #[.int .i64 R2, .int .i64 C2, .slice B N cap'] 35 := by subst hw0; simpa using (Blk.new (w.alloc (.cells #[.int .i64 R2, .int .i64 C2, .slice A N cap] 35)) _ _).ext ((Ext.refl _).alloc _)
              have b0 : Blk w0 (w.heap.size + 1 + 1) #[.int .i64 0, .int .i64 0, .slice none 0 0] 35 := by subst hw0; simpa using (Blk.new ((w.alloc (.cells #[.int .i64 R2, .int .i64 C2, .slice A N cap] 35)).alloc (.cells #[.int .i64 R2, .int .i64 C2, .slice B N cap'] 35)) _ _)
              rw [← hw0]
              clear hw0
              go_wp2_with fail
              refine (l02Is_any _ _ _ A N cap xs _ (MAt.blk ba (hr.below hx0))).mono ?_
              rintro e w1 ⟨rfl, hx⟩
              rw [hv]
              replace b0 := b0.ext hx
              replace ba := ba.ext hx
              replace bb := bb.ext hx
              replace hx0 := hx0.trans hx
              clear  hx
              go_wp2_with fail
              refine (l02Is_any _ _ _ B N cap' ys _ (MAt.blk bb (hq.below hx0))).mono ?_
              rintro e w2 ⟨rfl, hx⟩
              rw [hv']
              replace b0 := b0.ext hx
              replace ba := ba.ext hx
              replace bb := bb.ext hx
              replace hx0 := hx0.trans hx
              clear  hx
              obtain ⟨c0, c1, c2, hr1⟩ := MAt.blk ba (hr.below hx0)
              obtain ⟨d0, d1, d2, hq1⟩ := MAt.blk bb (hq.below hx0)
              go_wp2_with fail
              refine (l01Finite_any x _).mono ?_
              rintro e w3 ⟨rfl, hx⟩
              rw [hf1]
              replace b0 := b0.ext hx
              replace ba := ba.ext hx
              replace bb := bb.ext hx
              replace hx0 := hx0.trans hx
              clear c0 c1 c2 d0 d1 d2 hr1 hq1 hx
              go_wp2_with fail
              refine (l01Finite_any y _).mono ?_
              rintro e w4 ⟨rfl, hx⟩
              rw [hf2]
              replace b0 := b0.ext hx
              replace ba := ba.ext hx
              replace bb := bb.ext hx
              replace hx0 := hx0.trans hx
              clear  hx
              obtain ⟨c0, c1, c2, hr1⟩ := MAt.blk ba (hr.below hx0)
              clear c2 hr1
              go_wp2_with fail
              refine (l02Blank_any R2 C2 _).mono ?_
              rintro e w5 ⟨A1, k1, zs, hz, rfl, o1, hx⟩
              obtain rfl : zs = [] := List.length_eq_zero_iff.1 (by rw [MO.len hz]; rfl)
              have hne : w.heap.size + 1 + 1 ≠ w5.heap.size := by have := b0.lt; have := hx.size; omega
              have hle : w4.heap.size ≤ w5.heap.size := hx.size
              have hsz4 : w.heap.size ≤ w4.heap.size := hx0.size
              clear c0 c1
              go_wp2_with fail
              have hst : MO w4 w5.heap.size (w.heap.size + 1 + 1) R2 C2 0 (tab C2 (weighF xs ys x y C2) 0) (w5.alloc (.cells #[.int .i64 R2, .int .i64 C2, .slice A1 0 k1] 35)) :=
                ⟨A1, k1, [], rfl, Blk.new _ _ _, (b0.ext hx).ext ((Ext.refl _).alloc _), o1.ext ((Ext.refl _).alloc _), hx.alloc _⟩
              clear o1 hx hz
              go_loopw [11] (fun u wr => ∃ i : Nat, i ≤ N ∧ u = .int .i64 i ∧ MO w4 w5.heap.size (w.heap.size + 1 + 1) R2 C2 i (tab C2 (weighF xs ys x y C2) i) wr) (fun u _ => N - (intOf u).toNat)
              case atStart => exact ⟨0, Nat.zero_le _, rfl, hst⟩
              case round =>
                clear hst
                obtain ⟨i, hi, rfl, A2, k2, zs, hz, h1, h2, h3, h4⟩ := hrel
                obtain ⟨c0, c1, c2, hr1⟩ := MAt.blk (ba.ext h4) ((hr.below hx0).below h4)
                obtain ⟨d0, d1, d2, hq1⟩ := MAt.blk (bb.ext h4) ((hq.below hx0).below h4)
                clear c0 c1 d0 d1
                by_cases hlt : i < N
                · obtain ⟨ad, rfl, hca⟩ := hr1.fltN i hlt
                  obtain ⟨ad', rfl, hcb⟩ := hq1.fltN i hlt
                  have z2 : wr.cell? ⟨w5.heap.size, 2, none⟩ = some (.slice A2 i k2) := h1.cell 2 rfl
                  go_wp2_with fail
                  refine wp_region_T (cs := []) [0, 1, 2, 3, 4, 5, 6, 7, 8, 9, 10, 11, 12, 13, 14, 15, 16, 17] [18, 19, 20] [8, 15, 16, 17] [] (fun i__ v => match i__ with | 8 => ∃ r, v = .float .f32 r ∧ c32 r = (fmul (c32 x) (c32 (rdf xs i))) | 15 => ∃ r, v = .float .f32 r ∧ c32 r = (fmul (c32 y) (c32 (rdf ys i))) | 16 => ∃ r, v = .float .f32 r ∧ c32 r = (fadd (fmul (c32 x) (c32 (rdf xs i))) (fmul (c32 y) (c32 (rdf ys i)))) | 17 => ∃ g, v = .slice (some ⟨g, 0, none⟩) 1 1 | _ => False) (fun i__ v w' => match i__ with | 17 => OneF w' v (fadd (fmul (c32 x) (c32 (rdf xs i))) (fmul (c32 y) (c32 (rdf ys i)))) 39 | _ => True) (by kernel_rfl) (by kernel_rfl) (by intro i v w' w2 h hx; revert h; (try dsimp only); split <;> intro h <;> first | trivial | exact OneF.ext h hx) ?_
                  refine' wpT_det (o := ⟨some 55, Op.fieldAddr 35 (Operand.tmp 10) 2, 0, "l02_matrices.go:164", #[], none⟩) rfl (by rfl) (by rfl) (fun w' hw' => ?_) ?_; rotate_left
                  · go_simp <;> first | rfl | exact ⟨rfl, rfl⟩
                  simp only [Act.put, List.setIfInBounds_toArray, List.set_cons_zero, List.set_cons_succ]
                  refine' wpT_det (o := ⟨some 56, Op.load 22 (Operand.tmp 55), 22, "l02_matrices.go:164", #[{ on := 0, ground := Ground.data }], none⟩) rfl (by rfl) (by rfl) (fun w' hw' => ?_) ?_; rotate_left
                  · have c2_ := Ext.cell hw' c2; have d2_ := Ext.cell hw' d2; have z2_ := Ext.cell hw' z2; have hca_ := Ext.cell hw' hca; have hcb_ := Ext.cell hw' hcb; go_simp <;> first | rfl | exact ⟨rfl, rfl⟩
                  simp only [Act.put, List.setIfInBounds_toArray, List.set_cons_zero, List.set_cons_succ]
                  refine' wpT_det (o := ⟨some 57, Op.move (Operand.tmp 2), 39, "l02_matrices.go:164", #[], none⟩) rfl (by rfl) (by rfl) (fun w' hw' => ?_) ?_; rotate_left
                  · go_simp <;> first | rfl | exact ⟨rfl, rfl⟩
                  simp only [Act.put, List.setIfInBounds_toArray, List.set_cons_zero, List.set_cons_succ]
                  refine' wpT_det (o := ⟨some 58, Op.fieldAddr 35 (Operand.tmp 4) 2, 0, "l02_matrices.go:164", #[], none⟩) rfl (by rfl) (by rfl) (fun w' hw' => ?_) ?_; rotate_left
                  · go_simp <;> first | rfl | exact ⟨rfl, rfl⟩
                  simp only [Act.put, List.setIfInBounds_toArray, List.set_cons_zero, List.set_cons_succ]
                  refine' wpT_det (o := ⟨some 59, Op.load 22 (Operand.tmp 58), 22, "l02_matrices.go:164", #[{ on := 3, ground := Ground.data }], none⟩) rfl (by rfl) (by rfl) (fun w' hw' => ?_) ?_; rotate_left
                  · have c2_ := Ext.cell hw' c2; have d2_ := Ext.cell hw' d2; have z2_ := Ext.cell hw' z2; have hca_ := Ext.cell hw' hca; have hcb_ := Ext.cell hw' hcb; go_simp <;> first | rfl | exact ⟨rfl, rfl⟩
                  simp only [Act.put, List.setIfInBounds_toArray, List.set_cons_zero, List.set_cons_succ]
                  refine' wpT_det (o := ⟨some 60, Op.move (Operand.tmp 11), 3, "l02_matrices.go:164", #[], none⟩) rfl (by rfl) (by rfl) (fun w' hw' => ?_) ?_; rotate_left
                  · go_simp <;> first | rfl | exact ⟨rfl, rfl⟩
                  simp only [Act.put, List.setIfInBounds_toArray, List.set_cons_zero, List.set_cons_succ]
                  refine' wpT_det (o := ⟨some 61, Op.indexAddr 22 (Operand.tmp 59) (Operand.tmp 60), 0, "l02_matrices.go:164", #[{ on := 4, ground := Ground.data }, { on := 5, ground := Ground.data }], none⟩) rfl (by rfl) (by rfl) (fun w' hw' => ?_) ?_; rotate_left
                  · go_simp <;> first | rfl | exact ⟨rfl, rfl⟩
                  simp only [Act.put, List.setIfInBounds_toArray, List.set_cons_zero, List.set_cons_succ]
                  refine' wpT_det (o := ⟨some 62, Op.load 39 (Operand.tmp 61), 39, "l02_matrices.go:164", #[{ on := 6, ground := Ground.data }], none⟩) rfl (by rfl) (by rfl) (fun w' hw' => ?_) ?_; rotate_left
                  · have c2_ := Ext.cell hw' c2; have d2_ := Ext.cell hw' d2; have z2_ := Ext.cell hw' z2; have hca_ := Ext.cell hw' hca; have hcb_ := Ext.cell hw' hcb; go_simp <;> first | rfl | exact ⟨rfl, rfl⟩
                  simp only [Act.put, List.setIfInBounds_toArray, List.set_cons_zero, List.set_cons_succ]
                  refine wpT_nd (o := ⟨some 63, Op.binOp BinOp.mul 39 (Operand.tmp 57) (Operand.tmp 62) 39, 39, "l02_matrices.go:164", #[{ on := 2, ground := Ground.data }, { on := 7, ground := Ground.data }], none⟩) rfl (by rfl) (by rfl) (fun w' hw' hF R__ hGo => ?_) (by obtain ⟨r, hr⟩ := ex_d .mul (rfl : fop .mul .f32 (c32 (x)) (c32 (rdf xs i)) = (fmul (c32 x) (c32 (rdf xs i)))); exact ⟨_, r, rfl, hr⟩) ?_
                  · exact gives_f .mul (.inr (.inr (.inl rfl))) _ _ _ _ rfl (x) (rdf xs i) rfl rfl (fmul (c32 x) (c32 (rdf xs i))) rfl (fun r w2 hx hc => hGo _ _ hx ⟨r, rfl, hc⟩ trivial)
                  rintro _ ⟨f8, rfl, hf8⟩
                  simp only [Act.put, List.setIfInBounds_toArray, List.set_cons_zero, List.set_cons_succ]
                  refine' wpT_det (o := ⟨some 64, Op.move (Operand.tmp 3), 39, "l02_matrices.go:164", #[], none⟩) rfl (by rfl) (by rfl) (fun w' hw' => ?_) ?_; rotate_left
                  · go_simp <;> first | rfl | exact ⟨rfl, rfl⟩
                  simp only [Act.put, List.setIfInBounds_toArray, List.set_cons_zero, List.set_cons_succ]
                  refine' wpT_det (o := ⟨some 65, Op.fieldAddr 35 (Operand.tmp 5) 2, 0, "l02_matrices.go:164", #[], none⟩) rfl (by rfl) (by rfl) (fun w' hw' => ?_) ?_; rotate_left
                  · go_simp <;> first | rfl | exact ⟨rfl, rfl⟩
                  simp only [Act.put, List.setIfInBounds_toArray, List.set_cons_zero, List.set_cons_succ]
                  refine' wpT_det (o := ⟨some 66, Op.load 22 (Operand.tmp 65), 22, "l02_matrices.go:164", #[{ on := 10, ground := Ground.data }], none⟩) rfl (by rfl) (by rfl) (fun w' hw' => ?_) ?_; rotate_left
                  · have c2_ := Ext.cell hw' c2; have d2_ := Ext.cell hw' d2; have z2_ := Ext.cell hw' z2; have hca_ := Ext.cell hw' hca; have hcb_ := Ext.cell hw' hcb; go_simp <;> first | rfl | exact ⟨rfl, rfl⟩
                  simp only [Act.put, List.setIfInBounds_toArray, List.set_cons_zero, List.set_cons_succ]
                  refine' wpT_det (o := ⟨some 67, Op.move (Operand.tmp 11), 3, "l02_matrices.go:164", #[], none⟩) rfl (by rfl) (by rfl) (fun w' hw' => ?_) ?_; rotate_left
                  · go_simp <;> first | rfl | exact ⟨rfl, rfl⟩
                  simp only [Act.put, List.setIfInBounds_toArray, List.set_cons_zero, List.set_cons_succ]
                  refine' wpT_det (o := ⟨some 68, Op.indexAddr 22 (Operand.tmp 66) (Operand.tmp 67), 0, "l02_matrices.go:164", #[{ on := 11, ground := Ground.data }, { on := 12, ground := Ground.data }], none⟩) rfl (by rfl) (by rfl) (fun w' hw' => ?_) ?_; rotate_left
                  · go_simp <;> first | rfl | exact ⟨rfl, rfl⟩
                  simp only [Act.put, List.setIfInBounds_toArray, List.set_cons_zero, List.set_cons_succ]
                  refine' wpT_det (o := ⟨some 69, Op.load 39 (Operand.tmp 68), 39, "l02_matrices.go:164", #[{ on := 13, ground := Ground.data }], none⟩) rfl (by rfl) (by rfl) (fun w' hw' => ?_) ?_; rotate_left
                  · have c2_ := Ext.cell hw' c2; have d2_ := Ext.cell hw' d2; have z2_ := Ext.cell hw' z2; have hca_ := Ext.cell hw' hca; have hcb_ := Ext.cell hw' hcb; go_simp <;> first | rfl | exact ⟨rfl, rfl⟩
                  simp only [Act.put, List.setIfInBounds_toArray, List.set_cons_zero, List.set_cons_succ]
                  refine wpT_nd (o := ⟨some 70, Op.binOp BinOp.mul 39 (Operand.tmp 64) (Operand.tmp 69) 39, 39, "l02_matrices.go:164", #[{ on := 9, ground := Ground.data }, { on := 14, ground := Ground.data }], none⟩) rfl (by rfl) (by rfl) (fun w' hw' hF R__ hGo => ?_) (by obtain ⟨r, hr⟩ := ex_d .mul (rfl : fop .mul .f32 (c32 (y)) (c32 (rdf ys i)) = (fmul (c32 y) (c32 (rdf ys i)))); exact ⟨_, r, rfl, hr⟩) ?_
                  · exact gives_f .mul (.inr (.inr (.inl rfl))) _ _ _ _ rfl (y) (rdf ys i) rfl rfl (fmul (c32 y) (c32 (rdf ys i))) rfl (fun r w2 hx hc => hGo _ _ hx ⟨r, rfl, hc⟩ trivial)
                  rintro _ ⟨f15, rfl, hf15⟩
                  simp only [Act.put, List.setIfInBounds_toArray, List.set_cons_zero, List.set_cons_succ]
                  refine wpT_nd (o := ⟨some 71, Op.binOp BinOp.add 39 (Operand.tmp 63) (Operand.tmp 70) 39, 39, "l02_matrices.go:164", #[{ on := 8, ground := Ground.data }, { on := 15, ground := Ground.data }], none⟩) rfl (by rfl) (by rfl) (fun w' hw' hF R__ hGo => ?_) (by obtain ⟨r, hr⟩ := ex_d .add ((by rw [hf8, hf15]) : fop .add .f32 (c32 (f8)) (c32 (f15)) = (fadd (fmul (c32 x) (c32 (rdf xs i))) (fmul (c32 y) (c32 (rdf ys i))))); exact ⟨_, r, rfl, hr⟩) ?_
                  · exact gives_f .add (.inl rfl) _ _ _ _ rfl (f8) (f15) rfl rfl (fadd (fmul (c32 x) (c32 (rdf xs i))) (fmul (c32 y) (c32 (rdf ys i)))) (by rw [hf8, hf15]) (fun r w2 hx hc => hGo _ _ hx ⟨r, rfl, hc⟩ trivial)
                  rintro _ ⟨f16, rfl, hf16⟩
                  simp only [Act.put, List.setIfInBounds_toArray, List.set_cons_zero, List.set_cons_succ]
                  refine wpT_nd (o := ⟨some 72, Op.buildSlice 22 1 #[(0, Operand.tmp 71)], 22, "l02_matrices.go:164", #[{ on := 16, ground := Ground.data }], none⟩) rfl (by rfl) (by rfl) (fun w' hw' hF R__ hGo => ?_) ⟨_, 0, rfl⟩ ?_
                  · go_simp; exact gives_value rfl (hGo _ _ ((Ext.refl _).alloc _) ⟨_, rfl⟩ ⟨f16, hf16, One.new _ _ _⟩)
                  rintro _ ⟨g1, rfl⟩
                  simp only [Act.put, List.setIfInBounds_toArray, List.set_cons_zero, List.set_cons_succ]
                  refine wpT_nil (fun w6 hw' hF => ?_)
                  show wpList _ _ _ [(⟨some 73, Op.call { callee := Callee.builtin Builtin.append, args := #[Operand.tmp 56, Operand.tmp 72], argTypes := #[22, 22] }, 22, "l02_matrices.go:164", #[{ on := 1, ground := Ground.data }, { on := 17, ground := Ground.data }], none⟩ : Oper), (⟨some 74, Op.fieldAddr 35 (Operand.tmp 10) 2, 0, "l02_matrices.go:164", #[{ on := 0, ground := Ground.phase }, { on := 1, ground := Ground.phase }, { on := 2, ground := Ground.phase }, { on := 3, ground := Ground.phase }, { on := 4, ground := Ground.phase }, { on := 5, ground := Ground.phase }, { on := 6, ground := Ground.phase }, { on := 7, ground := Ground.phase }, { on := 8, ground := Ground.phase }, { on := 9, ground := Ground.phase }, { on := 10, ground := Ground.phase }, { on := 11, ground := Ground.phase }, { on := 12, ground := Ground.phase }, { on := 13, ground := Ground.phase }, { on := 14, ground := Ground.phase }, { on := 15, ground := Ground.phase }, { on := 16, ground := Ground.phase }, { on := 17, ground := Ground.phase }, { on := 18, ground := Ground.phase }], none⟩ : Oper), (⟨none, Op.store 22 (Operand.tmp 74) (Operand.tmp 73), 0, "l02_matrices.go:164", #[{ on := 19, ground := Ground.data }, { on := 18, ground := Ground.data }, { on := 18, ground := Ground.chain }, { on := 0, ground := Ground.phase }, { on := 1, ground := Ground.phase }, { on := 2, ground := Ground.phase }, { on := 3, ground := Ground.phase }, { on := 4, ground := Ground.phase }, { on := 5, ground := Ground.phase }, { on := 6, ground := Ground.phase }, { on := 7, ground := Ground.phase }, { on := 8, ground := Ground.phase }, { on := 9, ground := Ground.phase }, { on := 10, ground := Ground.phase }, { on := 11, ground := Ground.phase }, { on := 12, ground := Ground.phase }, { on := 13, ground := Ground.phase }, { on := 14, ground := Ground.phase }, { on := 15, ground := Ground.phase }, { on := 16, ground := Ground.phase }, { on := 17, ground := Ground.phase }, { on := 18, ground := Ground.phase }], none⟩ : Oper)] _ _
                  obtain ⟨r, hr', hg⟩ : OneF w6 (.slice (some ⟨g1, 0, none⟩) 1 1) (fadd (fmul (c32 x) (c32 (rdf xs i))) (fmul (c32 y) (c32 (rdf ys i)))) 39 := hF 17 _ rfl
                  have hx := hw'.undrew
                  clear hF hw' z2 c2 d2 hca hcb hr1 hq1
                  replace h1 := h1.ext hx
                  replace h2 := h2.ext hx
                  replace h3 := h3.ext hx
                  replace h4 := h4.trans hx
                  clear hx
                  have hsz := h4.size
                  have hl0 := h3.len
                  have hlc : (flts zs).length = i := hl0
                  have hf := h1.free 2
                  have hc := h1.cell 2 rfl
                  go_wp2_with (at_builtin; go_loud (refine wpList_app1 rfl _ _ _ rfl w6 w4.heap.size 39 (.float .f32 0) 4 Try.underlying22 info_f32 rfl (by decide) (.slice A2 i k2) (flts zs) rfl g1 (.float .f32 r) rfl hg h3 rfl (by omega) hsz ?_); rw [hl0]; intro A' c' w7 h5 h6 h7; clear hf hc; have b1 := h1.wr h6 h3 (by decide); have hf := b1.free 2; have hq := b1.lt; have hc := b1.cell 2 rfl)
                  go_roundw
                  case rel =>
                    refine ⟨i + 1, by omega, by go_num, ?_⟩
                    have := MO.app hle hne hz h1 h2 h3 h4 h5 h6
                    have hval : c32 r = weighF xs ys x y C2 (i / C2) (i % C2) := by rw [hr']; unfold weighF; rw [at_flat, at_flat]
                    rwa [hval, tab_next (weighF xs ys x y C2) i] at this
                  case measure => simp [intOf]; omega
                · obtain rfl : i = N := by omega
                  have z0 : wr.cell? ⟨w5.heap.size, 0, none⟩ = some (.int .i64 R2) := h1.cell 0 rfl
                  have z1 : wr.cell? ⟨w5.heap.size, 1, none⟩ = some (.int .i64 C2) := h1.cell 1 rfl
                  have z2 : wr.cell? ⟨w5.heap.size, 2, none⟩ = some (.slice A2 i k2) := h1.cell 2 rfl
                  go_wp2_with fail
                  refine (l02Give_any w4.heap.size R2 C2 A2 i k2 zs _ h3 h4.size).mono ?_
                  have HD' : Hid (d = giveM R2 C2 (cfs zs)) := by rw [hz, HN.out]; exact HD.out
                  rw [← HD'.out]
                  rintro e w8 ⟨A3, k3, rfl, ho, hx⟩
                  replace b0 := h2.ext hx
                  replace hx0 := (hx0.trans h4).trans hx
                  have ho' := ho.base (b := w.heap.size) hsz4
                  clear z0 z1 z2 c2 d2
                  have y0 : w8.cell? ⟨w.heap.size + 1 + 1, 0, none⟩ = some (.int .i64 0) := b0.cell 0 rfl
                  have y1 : w8.cell? ⟨w.heap.size + 1 + 1, 1, none⟩ = some (.int .i64 0) := b0.cell 1 rfl
                  have y2 : w8.cell? ⟨w.heap.size + 1 + 1, 2, none⟩ = some (.slice none 0 0) := b0.cell 2 rfl
                  have q0 := b0.free 0
                  have q1 := b0.free 1
                  have q2 := b0.free 2
                  have hq := b0.lt
                  go_wp2_with fail
                  obtain ⟨j1, j2, j3⟩ := Own.resM (w := w) (u := .int .i64 d.r) (v := .int .i64 d.c) (x := .slice A3 d.xs.length k3) b0 ho' hx0 (by omega)
                  exact bodyPost_ret (resMB (x := .bool d.ok) rfl rfl rfl j3) rfl ⟨A3, k3, rfl, j1, j2⟩
        · have dc : (c != c') = true := by simp [hcc]
          have hd := wD_c (r := r) (r' := r) (x := x) (y := y) (xs := xs) (ys := ys) hcc
          go_enter Try.func65, Try.ntmps65
          go_upto_region 1 with (fail)
          obtain ⟨w0, hw0⟩ : ∃ w0, w0 = (((w.alloc (.cells #[.int .i64 r, .int .i64 c, .slice A n cap] 35)).alloc (.cells #[.int .i64 r, .int .i64 c', .slice B m cap'] 35)).alloc (.cells #[.int .i64 0, .int .i64 0, .slice none 0 0] 35)) := ⟨_, rfl⟩
          have hx0 : Ext w w0 := by subst hw0; exact (((Ext.refl _).alloc _).alloc _).alloc _
          have ba : Blk w0 (w.heap.size) #[.int .i64 r, .int .i64 c, .slice A n cap] 35 := by subst hw0; exact (Blk.new w _ _).ext (((Ext.refl _).alloc _).alloc _)
          have bb : Blk w0 (w.heap.size + 1) #[.int .i64 r, .int .i64 c', .slice B m cap'] 35 := by subst hw0; simpa using (Blk.new (w.alloc (.cells #[.int .i64 r, .int .i64 c, .slice A n cap] 35)) _ _).ext ((Ext.refl _).alloc _)
          have b0 : Blk w0 (w.heap.size + 1 + 1) #[.int .i64 0, .int .i64 0, .slice none 0 0] 35 := by subst hw0; simpa using (Blk.new ((w.alloc (.cells #[.int .i64 r, .int .i64 c, .slice A n cap] 35)).alloc (.cells #[.int .i64 r, .int .i64 c', .slice B m cap'] 35)) _ _)
          rw [← hw0]
          clear hw0
          go_wp2_with fail
          refine (l02Is_any _ r c A n cap xs _ (MAt.blk ba (hr.below hx0))).mono ?_
          rintro e w1 ⟨rfl, hx⟩
          rw [hv]
          replace b0 := b0.ext hx
          replace ba := ba.ext hx
          replace bb := bb.ext hx
          replace hx0 := hx0.trans hx
          clear  hx
          go_wp2_with fail
          refine (l02Is_any _ r c' B m cap' ys _ (MAt.blk bb (hq.below hx0))).mono ?_
          rintro e w2 ⟨rfl, hx⟩
          rw [hv']
          replace b0 := b0.ext hx
          replace ba := ba.ext hx
          replace bb := bb.ext hx
          replace hx0 := hx0.trans hx
          clear  hx
          obtain ⟨c0, c1, c2, hr1⟩ := MAt.blk ba (hr.below hx0)
          obtain ⟨d0, d1, d2, hq1⟩ := MAt.blk bb (hq.below hx0)
          have y0 : w2.cell? ⟨w.heap.size + 1 + 1, 0, none⟩ = some (.int .i64 0) := b0.cell 0 rfl
          have y1 : w2.cell? ⟨w.heap.size + 1 + 1, 1, none⟩ = some (.int .i64 0) := b0.cell 1 rfl
          have y2 : w2.cell? ⟨w.heap.size + 1 + 1, 2, none⟩ = some (.slice none 0 0) := b0.cell 2 rfl
          have q0 := b0.free 0
          have q1 := b0.free 1
          have q2 := b0.free 2
          have hq := b0.lt
          go_wp2_with fail
          obtain ⟨k1, k2, k3⟩ := Own.resM (w := w) (u := .int .i64 0) (v := .int .i64 0) (x := .slice none 0 0) b0 (own_nil _ w.heap.size _) hx0 (by omega)
          exact bodyPost_ret (resMB (x := .bool false) rfl rfl rfl k3) rfl (RetMD.bad hd k2)
      · have dr : (r != r') = true := by simp [hrr]
        have hd := wD_r (c := c) (c' := c') (x := x) (y := y) (xs := xs) (ys := ys) hrr
        go_enter Try.func65, Try.ntmps65
        go_upto_region 1 with (fail)
        obtain ⟨w0, hw0⟩ : ∃ w0, w0 = (((w.alloc (.cells #[.int .i64 r, .int .i64 c, .slice A n cap] 35)).alloc (.cells #[.int .i64 r', .int .i64 c', .slice B m cap'] 35)).alloc (.cells #[.int .i64 0, .int .i64 0, .slice none 0 0] 35)) := ⟨_, rfl⟩
        have hx0 : Ext w w0 := by subst hw0; exact (((Ext.refl _).alloc _).alloc _).alloc _
        have ba : Blk w0 (w.heap.size) #[.int .i64 r, .int .i64 c, .slice A n cap] 35 := by subst hw0; exact (Blk.new w _ _).ext (((Ext.refl _).alloc _).alloc _)
        have bb : Blk w0 (w.heap.size + 1) #[.int .i64 r', .int .i64 c', .slice B m cap'] 35 := by subst hw0; simpa using (Blk.new (w.alloc (.cells #[.int .i64 r, .int .i64 c, .slice A n cap] 35)) _ _).ext ((Ext.refl _).alloc _)
        have b0 : Blk w0 (w.heap.size + 1 + 1) #[.int .i64 0, .int .i64 0, .slice none 0 0] 35 := by subst hw0; simpa using (Blk.new ((w.alloc (.cells #[.int .i64 r, .int .i64 c, .slice A n cap] 35)).alloc (.cells #[.int .i64 r', .int .i64 c', .slice B m cap'] 35)) _ _)
        rw [← hw0]
        clear hw0
        go_wp2_with fail
        refine (l02Is_any _ r c A n cap xs _ (MAt.blk ba (hr.below hx0))).mono ?_
        rintro e w1 ⟨rfl, hx⟩
        rw [hv]
        replace b0 := b0.ext hx
        replace ba := ba.ext hx
        replace bb := bb.ext hx
        replace hx0 := hx0.trans hx
        clear  hx
        go_wp2_with fail
        refine (l02Is_any _ r' c' B m cap' ys _ (MAt.blk bb (hq.below hx0))).mono ?_
        rintro e w2 ⟨rfl, hx⟩
        rw [hv']
        replace b0 := b0.ext hx
        replace ba := ba.ext hx
        replace bb := bb.ext hx
        replace hx0 := hx0.trans hx
        clear  hx
        obtain ⟨c0, c1, c2, hr1⟩ := MAt.blk ba (hr.below hx0)
        obtain ⟨d0, d1, d2, hq1⟩ := MAt.blk bb (hq.below hx0)
        have y0 : w2.cell? ⟨w.heap.size + 1 + 1, 0, none⟩ = some (.int .i64 0) := b0.cell 0 rfl
        have y1 : w2.cell? ⟨w.heap.size + 1 + 1, 1, none⟩ = some (.int .i64 0) := b0.cell 1 rfl
        have y2 : w2.cell? ⟨w.heap.size + 1 + 1, 2, none⟩ = some (.slice none 0 0) := b0.cell 2 rfl
        have q0 := b0.free 0
        have q1 := b0.free 1
        have q2 := b0.free 2
        have hq := b0.lt
        go_wp2_with fail
        obtain ⟨k1, k2, k3⟩ := Own.resM (w := w) (u := .int .i64 0) (v := .int .i64 0) (x := .slice none 0 0) b0 (own_nil _ w.heap.size _) hx0 (by omega)
        exact bodyPost_ret (resMB (x := .bool false) rfl rfl rfl k3) rfl (RetMD.bad hd k2)

end Go.Proofs.Ytgjfdfmbknmpaaa
