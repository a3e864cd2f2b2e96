import Derived.Test.YtgjfdfmbknmpaaaM10
set_option linter.unusedVariables false
set_option linter.unusedSimpArgs false
namespace Go.Proofs.Ytgjfdfmbknmpaaa
open Go.RowKit

theorem MAt.blk {w : World} {b : Nat} {r c : Int} {A : Option Addr} {n cap : Nat} {xs : List Nat} (h : Blk w b #[.int .i64 r, .int .i64 c, .slice A n cap] 35) (hr : Rds w A n (flts xs)) : MAt w b r c A n cap xs := ⟨h.cell 0 rfl, h.cell 1 rfl, h.cell 2 rfl, hr⟩
theorem finL_two (x y : Nat) : finL [x, y] = (isFin .f32 x && isFin .f32 y) := by simp [finL]
theorem rds_two (w : World) (x y : Nat) : Rds (w.alloc (.cells #[.float .f32 x, .float .f32 y] 39)) (some ⟨w.heap.size, 0, none⟩) 2 (flts [x, y]) := by
  refine ⟨rfl, by omega, fun _ => ⟨_, rfl, fun j hj => ?_⟩⟩
  have hb := Blk.new w #[.float .f32 x, .float .f32 y] 39
  match j, hj with
  | 0, _ => exact hb.cell 0 rfl
  | 1, _ => exact hb.cell 1 rfl
theorem wD_a {r c r' c' : Int} {x y : Nat} {xs ys : List Nat} (h : isMat r c xs = false) : weighD r c r' c' x y xs ys = MD.bad := by simp [weighD, h]
theorem wD_b {r c r' c' : Int} {x y : Nat} {xs ys : List Nat} (h : isMat r' c' ys = false) : weighD r c r' c' x y xs ys = MD.bad := by simp [weighD, h]
theorem wD_r {r c r' c' : Int} {x y : Nat} {xs ys : List Nat} (h : r ≠ r') : weighD r c r' c' x y xs ys = MD.bad := by simp [weighD, h]
theorem wD_c {r c r' c' : Int} {x y : Nat} {xs ys : List Nat} (h : c ≠ c') : weighD r c r' c' x y xs ys = MD.bad := by simp [weighD, h]
theorem wD_f {r c r' c' : Int} {x y : Nat} {xs ys : List Nat} (h : (isFin .f32 x && isFin .f32 y) = false) : weighD r c r' c' x y xs ys = MD.bad := by unfold weighD; rw [h]; simp

set_option maxRecDepth 20000 in
set_option maxHeartbeats 4000000 in
theorem implWeighMatrices_any (r c : Int) (A : Option Addr) (n cap : Nat) (r' c' : Int) (B : Option Addr) (m cap' : Nat) (x y : Nat) (xs ys : List Nat) (w : World) (hr : Rds w A n (flts xs)) (hq : Rds w B m (flts ys)) :
    Calls Try.prog 66 #[.agg #[.int .i64 r, .int .i64 c, .slice A n cap], .agg #[.int .i64 r', .int .i64 c', .slice B m cap'], .float .f32 x, .float .f32 y] w (RetMD w (weighD r c r' c' x y xs ys)) := by
  have HL := Lib.hid hr.flen
  have HL' := Lib.hid hq.flen
  cases hv : isMat r c xs with
  | false =>
    have hd := wD_a (r' := r') (c' := c') (x := x) (y := y) (ys := ys) hv
    go_enter Try.func66, Try.ntmps66
    go_upto_region 1 with (fail)
    obtain ⟨w0, hw0⟩ : ∃ w0, w0 = (((w.alloc (.cells #[.int .i64 r, .int .i64 c, .slice A n cap] 35)).alloc (.cells #[.int .i64 r', .int .i64 c', .slice B m cap'] 35)).alloc (.cells #[.int .i64 0, .int .i64 0, .slice none 0 0] 35)) := ⟨_, rfl⟩
    have hx0 : Ext w w0 := by subst hw0; exact (((Ext.refl _).alloc _).alloc _).alloc _
    have ba : Blk w0 (w.heap.size) #[.int .i64 r, .int .i64 c, .slice A n cap] 35 := by subst hw0; exact (Blk.new w _ _).ext (((Ext.refl _).alloc _).alloc _)
    have bb : Blk w0 (w.heap.size + 1) #[.int .i64 r', .int .i64 c', .slice B m cap'] 35 := by subst hw0; simpa using (Blk.new (w.alloc (.cells #[.int .i64 r, .int .i64 c, .slice A n cap] 35)) _ _).ext ((Ext.refl _).alloc _)
    have b0 : Blk w0 (w.heap.size + 1 + 1) #[.int .i64 0, .int .i64 0, .slice none 0 0] 35 := by subst hw0; simpa using (Blk.new ((w.alloc (.cells #[.int .i64 r, .int .i64 c, .slice A n cap] 35)).alloc (.cells #[.int .i64 r', .int .i64 c', .slice B m cap'] 35)) _ _)
    rw [← hw0]
    clear hw0
    obtain ⟨c0, c1, c2, hr1⟩ := MAt.blk ba (hr.below hx0)
    go_wp2_with fail
    refine (ValidMatrix_any r c A n cap xs _ hr1).mono ?_
    rintro e w1 ⟨rfl, hx⟩
    rw [hv]
    replace b0 := b0.ext hx
    clear c0 c1 c2
    have y0 : w1.cell? ⟨w.heap.size + 1 + 1, 0, none⟩ = some (.int .i64 0) := b0.cell 0 rfl
    have y1 : w1.cell? ⟨w.heap.size + 1 + 1, 1, none⟩ = some (.int .i64 0) := b0.cell 1 rfl
    have y2 : w1.cell? ⟨w.heap.size + 1 + 1, 2, none⟩ = some (.slice none 0 0) := b0.cell 2 rfl
    have q0 := b0.free 0
    have q1 := b0.free 1
    have q2 := b0.free 2
    have hq := b0.lt
    go_wp2_with fail
    obtain ⟨k1, k2, k3⟩ := Own.resM (w := w) (u := .int .i64 0) (v := .int .i64 0) (x := .slice none 0 0) b0 (own_nil _ w.heap.size _) (hx0.trans hx) (by omega)
    exact bodyPost_ret (resMB (x := .bool false) rfl rfl rfl k3) rfl (RetMD.bad hd k2)
  | true =>
    cases hv' : isMat r' c' ys with
    | false =>
      have hd := wD_b (r := r) (c := c) (x := x) (y := y) (xs := xs) hv'
      go_enter Try.func66, Try.ntmps66
      go_upto_region 1 with (fail)
      obtain ⟨w0, hw0⟩ : ∃ w0, w0 = (((w.alloc (.cells #[.int .i64 r, .int .i64 c, .slice A n cap] 35)).alloc (.cells #[.int .i64 r', .int .i64 c', .slice B m cap'] 35)).alloc (.cells #[.int .i64 0, .int .i64 0, .slice none 0 0] 35)) := ⟨_, rfl⟩
      have hx0 : Ext w w0 := by subst hw0; exact (((Ext.refl _).alloc _).alloc _).alloc _
      have ba : Blk w0 (w.heap.size) #[.int .i64 r, .int .i64 c, .slice A n cap] 35 := by subst hw0; exact (Blk.new w _ _).ext (((Ext.refl _).alloc _).alloc _)
      have bb : Blk w0 (w.heap.size + 1) #[.int .i64 r', .int .i64 c', .slice B m cap'] 35 := by subst hw0; simpa using (Blk.new (w.alloc (.cells #[.int .i64 r, .int .i64 c, .slice A n cap] 35)) _ _).ext ((Ext.refl _).alloc _)
      have b0 : Blk w0 (w.heap.size + 1 + 1) #[.int .i64 0, .int .i64 0, .slice none 0 0] 35 := by subst hw0; simpa using (Blk.new ((w.alloc (.cells #[.int .i64 r, .int .i64 c, .slice A n cap] 35)).alloc (.cells #[.int .i64 r', .int .i64 c', .slice B m cap'] 35)) _ _)
      rw [← hw0]
      clear hw0
      obtain ⟨c0, c1, c2, hr1⟩ := MAt.blk ba (hr.below hx0)
      go_wp2_with fail
      refine (ValidMatrix_any r c A n cap xs _ hr1).mono ?_
      rintro e w1 ⟨rfl, hx⟩
      rw [hv]
      replace b0 := b0.ext hx
      replace hx0 := hx0.trans hx
      clear c0 c1 c2
      obtain ⟨d0, d1, d2, hq1⟩ := MAt.blk (bb.ext hx) (hq.below hx0)
      go_wp2_with fail
      refine (ValidMatrix_any r' c' B m cap' ys _ hq1).mono ?_
      rintro e w2 ⟨rfl, hx⟩
      rw [hv']
      replace b0 := b0.ext hx
      clear d0 d1 d2
      have y0 : w2.cell? ⟨w.heap.size + 1 + 1, 0, none⟩ = some (.int .i64 0) := b0.cell 0 rfl
      have y1 : w2.cell? ⟨w.heap.size + 1 + 1, 1, none⟩ = some (.int .i64 0) := b0.cell 1 rfl
      have y2 : w2.cell? ⟨w.heap.size + 1 + 1, 2, none⟩ = some (.slice none 0 0) := b0.cell 2 rfl
      have q0 := b0.free 0
      have q1 := b0.free 1
      have q2 := b0.free 2
      have hq := b0.lt
      go_wp2_with fail
      obtain ⟨k1, k2, k3⟩ := Own.resM (w := w) (u := .int .i64 0) (v := .int .i64 0) (x := .slice none 0 0) b0 (own_nil _ w.heap.size _) (hx0.trans hx) (by omega)
      exact bodyPost_ret (resMB (x := .bool false) rfl rfl rfl k3) rfl (RetMD.bad hd k2)
    | true =>
      by_cases hrr : r = r'
      · subst hrr
        have dr : (r != r) = false := by simp
        by_cases hcc : c = c'
        · subst hcc
          have dc : (c != c) = false := by simp
          cases hf : (isFin .f32 x && isFin .f32 y) with
          | false =>
            have hd := wD_f (r := r) (r' := r) (c := c) (c' := c) (xs := xs) (ys := ys) hf
            have hff := finL_two x y
            rw [hf] at hff
            go_enter Try.func66, Try.ntmps66
            go_upto_region 1 with (fail)
            obtain ⟨w0, hw0⟩ : ∃ w0, w0 = (((w.alloc (.cells #[.int .i64 r, .int .i64 c, .slice A n cap] 35)).alloc (.cells #[.int .i64 r, .int .i64 c, .slice B m cap'] 35)).alloc (.cells #[.int .i64 0, .int .i64 0, .slice none 0 0] 35)) := ⟨_, rfl⟩
            have hx0 : Ext w w0 := by subst hw0; exact (((Ext.refl _).alloc _).alloc _).alloc _
            have ba : Blk w0 (w.heap.size) #[.int .i64 r, .int .i64 c, .slice A n cap] 35 := by subst hw0; exact (Blk.new w _ _).ext (((Ext.refl _).alloc _).alloc _)
            have bb : Blk w0 (w.heap.size + 1) #[.int .i64 r, .int .i64 c, .slice B m cap'] 35 := by subst hw0; simpa using (Blk.new (w.alloc (.cells #[.int .i64 r, .int .i64 c, .slice A n cap] 35)) _ _).ext ((Ext.refl _).alloc _)
            have b0 : Blk w0 (w.heap.size + 1 + 1) #[.int .i64 0, .int .i64 0, .slice none 0 0] 35 := by subst hw0; simpa using (Blk.new ((w.alloc (.cells #[.int .i64 r, .int .i64 c, .slice A n cap] 35)).alloc (.cells #[.int .i64 r, .int .i64 c, .slice B m cap'] 35)) _ _)
            rw [← hw0]
            clear hw0
            obtain ⟨c0, c1, c2, hr1⟩ := MAt.blk ba (hr.below hx0)
            go_wp2_with fail
            refine (ValidMatrix_any r c A n cap xs _ hr1).mono ?_
            rintro e w1 ⟨rfl, hx⟩
            rw [hv]
            replace b0 := b0.ext hx
            replace ba := ba.ext hx
            replace bb := bb.ext hx
            replace hx0 := hx0.trans hx
            clear c0 c1 c2 hr1 hx
            obtain ⟨d0, d1, d2, hq1⟩ := MAt.blk bb (hq.below hx0)
            go_wp2_with fail
            refine (ValidMatrix_any r c B m cap' ys _ hq1).mono ?_
            rintro e w2 ⟨rfl, hx⟩
            rw [hv']
            replace b0 := b0.ext hx
            replace ba := ba.ext hx
            replace bb := bb.ext hx
            replace hx0 := hx0.trans hx
            clear d0 d1 d2 hx hq1
            obtain ⟨c0, c1, c2, _⟩ := MAt.blk ba (hr.below hx0)
            obtain ⟨d0, d1, d2, _⟩ := MAt.blk bb (hq.below hx0)
            go_wp2_with fail
            refine (areFinite_any _ 2 _ [x, y] _ (rds_two w2 x y)).mono ?_
            rintro e w3 ⟨rfl, hx⟩
            rw [hff]
            replace hx := (Ext.refl w2).alloc _ |>.trans hx
            replace b0 := b0.ext hx
            clear c0 c1 c2 d0 d1 d2
            have y0 : w3.cell? ⟨w.heap.size + 1 + 1, 0, none⟩ = some (.int .i64 0) := b0.cell 0 rfl
            have y1 : w3.cell? ⟨w.heap.size + 1 + 1, 1, none⟩ = some (.int .i64 0) := b0.cell 1 rfl
            have y2 : w3.cell? ⟨w.heap.size + 1 + 1, 2, none⟩ = some (.slice none 0 0) := b0.cell 2 rfl
            have q0 := b0.free 0
            have q1 := b0.free 1
            have q2 := b0.free 2
            have hq := b0.lt
            go_wp2_with fail
            obtain ⟨k1, k2, k3⟩ := Own.resM (w := w) (u := .int .i64 0) (v := .int .i64 0) (x := .slice none 0 0) b0 (own_nil _ w.heap.size _) (hx0.trans hx) (by omega)
            exact bodyPost_ret (resMB (x := .bool false) rfl rfl rfl k3) rfl (RetMD.bad hd k2)
          | true =>
            obtain ⟨R, C, rfl, rfl, u1, u2, u3, u4, u5⟩ := mat_nat hv
            obtain ⟨R2, C2, e1, e2, _, _, _, _, u6⟩ := mat_nat hv'
            obtain rfl : R2 = R := by omega
            obtain rfl : C2 = C := by omega
            have Hn : Hid (n = R2 * C2) := by have := HL.out; show n = _; omega
            have Hm : Hid (m = R2 * C2) := by have := HL'.out; show m = _; omega
            obtain ⟨d, hd⟩ : ∃ d, d = weighD R2 C2 R2 C2 x y xs ys := ⟨_, rfl⟩
            have hd' : d = giveM R2 C2 (tab C2 (weighF xs ys x y C2) (R2 * C2)) := by rw [hd]; simp [weighD, hv, hv', hf]
            have HD := Lib.hid hd'
            rw [← hd]
            have hff := finL_two x y
            rw [hf] at hff
            clear hd hd' e1 e2 u5 u6 hf
            go_enter Try.func66, Try.ntmps66
            go_upto_region 1 with (fail)
            obtain ⟨w0, hw0⟩ : ∃ w0, w0 = (((w.alloc (.cells #[.int .i64 R2, .int .i64 C2, .slice A n cap] 35)).alloc (.cells #[.int .i64 R2, .int .i64 C2, .slice B m cap'] 35)).alloc (.cells #[.int .i64 0, .int .i64 0, .slice none 0 0] 35)) := ⟨_, rfl⟩
            have hx0 : Ext w w0 := by subst hw0; exact (((Ext.refl _).alloc _).alloc _).alloc _
            have ba : Blk w0 (w.heap.size) #[.int .i64 R2, .int .i64 C2, .slice A n cap] 35 := by subst hw0; exact (Blk.new w _ _).ext (((Ext.refl _).alloc _).alloc _)
            have bb : Blk w0 (w.heap.size + 1) #[.int .i64 R2, .int .i64 C2, .slice B m cap'] 35 := by subst hw0; simpa using (Blk.new (w.alloc (.cells #[.int .i64 R2, .int .i64 C2, .slice A n cap] 35)) _ _).ext ((Ext.refl _).alloc _)
            have b0 : Blk w0 (w.heap.size + 1 + 1) #[.int .i64 0, .int .i64 0, .slice none 0 0] 35 := by subst hw0; simpa using (Blk.new ((w.alloc (.cells #[.int .i64 R2, .int .i64 C2, .slice A n cap] 35)).alloc (.cells #[.int .i64 R2, .int .i64 C2, .slice B m cap'] 35)) _ _)
            rw [← hw0]
            clear hw0
            obtain ⟨c0, c1, c2, hr1⟩ := MAt.blk ba (hr.below hx0)
            go_wp2_with fail
            refine (ValidMatrix_any _ _ A n cap xs _ hr1).mono ?_
            rintro e w1 ⟨rfl, hx⟩
            rw [hv]
            replace b0 := b0.ext hx
            replace ba := ba.ext hx
            replace bb := bb.ext hx
            replace hx0 := hx0.trans hx
            clear c0 c1 c2 hr1 hx
            obtain ⟨d0, d1, d2, hq1⟩ := MAt.blk bb (hq.below hx0)
            go_wp2_with fail
            refine (ValidMatrix_any _ _ B m cap' ys _ hq1).mono ?_
            rintro e w2 ⟨rfl, hx⟩
            rw [hv']
            replace b0 := b0.ext hx
            replace ba := ba.ext hx
            replace bb := bb.ext hx
            replace hx0 := hx0.trans hx
            clear d0 d1 d2 hx hq1
            obtain ⟨c0, c1, c2, _⟩ := MAt.blk ba (hr.below hx0)
            obtain ⟨d0, d1, d2, _⟩ := MAt.blk bb (hq.below hx0)
            go_wp2_with fail
            refine (areFinite_any _ 2 _ [x, y] _ (rds_two w2 x y)).mono ?_
            rintro e w3 ⟨rfl, hx⟩
            rw [hff]
            replace hx := (Ext.refl w2).alloc _ |>.trans hx
            replace b0 := b0.ext hx
            replace ba := ba.ext hx
            replace bb := bb.ext hx
            replace hx0 := hx0.trans hx
            clear c0 c1 c2 d0 d1 d2 hx
            obtain ⟨c0, c1, c2, hr1⟩ := MAt.blk ba (hr.below hx0)
            obtain ⟨d0, d1, d2, hq1⟩ := MAt.blk bb (hq.below hx0)
            go_wp2_with fail
            refine (weigh_any x y R2 C2 n m cap cap' A B xs ys _ u2 u4 Hn.out Hm.out hr1 hq1).mono ?_
            rintro e w4 ⟨A3, k3, zs, hz, rfl, ho, hx⟩
            replace b0 := b0.ext hx
            have ho' := ho.base hx0.size
            replace hx0 := hx0.trans hx
            clear c0 c1 c2 d0 d1 d2 hx ho
            go_wp2_with fail
            refine (valid_any w.heap.size R2 C2 A3 (R2 * C2) k3 zs _ ho' hx0.size).mono ?_
            rw [hz, ← HD.out]
            rintro e w5 ⟨A2, k2, rfl, ho, hx⟩
            replace b0 := b0.ext hx
            have y0 : w5.cell? ⟨w.heap.size + 1 + 1, 0, none⟩ = some (.int .i64 0) := b0.cell 0 rfl
            have y1 : w5.cell? ⟨w.heap.size + 1 + 1, 1, none⟩ = some (.int .i64 0) := b0.cell 1 rfl
            have y2 : w5.cell? ⟨w.heap.size + 1 + 1, 2, none⟩ = some (.slice none 0 0) := b0.cell 2 rfl
            have q0 := b0.free 0
            have q1 := b0.free 1
            have q2 := b0.free 2
            have hq := b0.lt
            go_wp2_with fail
            obtain ⟨k1, k2', k3⟩ := Own.resM (w := w) (u := .int .i64 d.r) (v := .int .i64 d.c) (x := .slice A2 d.xs.length k2) b0 ho (hx0.trans hx) (by omega)
            exact bodyPost_ret (resMB (x := .bool d.ok) rfl rfl rfl k3) rfl ⟨A2, k2, rfl, k1, k2'⟩
        · have dc : (c != c') = true := by simp [hcc]
          have hd := wD_c (r := r) (r' := r) (x := x) (y := y) (xs := xs) (ys := ys) hcc
          go_enter Try.func66, Try.ntmps66
          go_upto_region 1 with (fail)
          obtain ⟨w0, hw0⟩ : ∃ w0, w0 = (((w.alloc (.cells #[.int .i64 r, .int .i64 c, .slice A n cap] 35)).alloc (.cells #[.int .i64 r, .int .i64 c', .slice B m cap'] 35)).alloc (.cells #[.int .i64 0, .int .i64 0, .slice none 0 0] 35)) := ⟨_, rfl⟩
          have hx0 : Ext w w0 := by subst hw0; exact (((Ext.refl _).alloc _).alloc _).alloc _
          have ba : Blk w0 (w.heap.size) #[.int .i64 r, .int .i64 c, .slice A n cap] 35 := by subst hw0; exact (Blk.new w _ _).ext (((Ext.refl _).alloc _).alloc _)
          have bb : Blk w0 (w.heap.size + 1) #[.int .i64 r, .int .i64 c', .slice B m cap'] 35 := by subst hw0; simpa using (Blk.new (w.alloc (.cells #[.int .i64 r, .int .i64 c, .slice A n cap] 35)) _ _).ext ((Ext.refl _).alloc _)
          have b0 : Blk w0 (w.heap.size + 1 + 1) #[.int .i64 0, .int .i64 0, .slice none 0 0] 35 := by subst hw0; simpa using (Blk.new ((w.alloc (.cells #[.int .i64 r, .int .i64 c, .slice A n cap] 35)).alloc (.cells #[.int .i64 r, .int .i64 c', .slice B m cap'] 35)) _ _)
          rw [← hw0]
          clear hw0
          obtain ⟨c0, c1, c2, hr1⟩ := MAt.blk ba (hr.below hx0)
          go_wp2_with fail
          refine (ValidMatrix_any r c A n cap xs _ hr1).mono ?_
          rintro e w1 ⟨rfl, hx⟩
          rw [hv]
          replace b0 := b0.ext hx
          replace ba := ba.ext hx
          replace bb := bb.ext hx
          replace hx0 := hx0.trans hx
          clear c0 c1 c2 hr1 hx
          obtain ⟨d0, d1, d2, hq1⟩ := MAt.blk bb (hq.below hx0)
          go_wp2_with fail
          refine (ValidMatrix_any r c' B m cap' ys _ hq1).mono ?_
          rintro e w2 ⟨rfl, hx⟩
          rw [hv']
          replace b0 := b0.ext hx
          replace ba := ba.ext hx
          replace bb := bb.ext hx
          replace hx0 := hx0.trans hx
          clear d0 d1 d2 hx hq1
          obtain ⟨c0, c1, c2, _⟩ := MAt.blk ba (hr.below hx0)
          obtain ⟨d0, d1, d2, _⟩ := MAt.blk bb (hq.below hx0)
          have y0 : w2.cell? ⟨w.heap.size + 1 + 1, 0, none⟩ = some (.int .i64 0) := b0.cell 0 rfl
          have y1 : w2.cell? ⟨w.heap.size + 1 + 1, 1, none⟩ = some (.int .i64 0) := b0.cell 1 rfl
          have y2 : w2.cell? ⟨w.heap.size + 1 + 1, 2, none⟩ = some (.slice none 0 0) := b0.cell 2 rfl
          have q0 := b0.free 0
          have q1 := b0.free 1
          have q2 := b0.free 2
          have hq := b0.lt
          go_wp2_with fail
          obtain ⟨k1, k2, k3⟩ := Own.resM (w := w) (u := .int .i64 0) (v := .int .i64 0) (x := .slice none 0 0) b0 (own_nil _ w.heap.size _) hx0 (by omega)
          exact bodyPost_ret (resMB (x := .bool false) rfl rfl rfl k3) rfl (RetMD.bad hd k2)
      · have dr : (r != r') = true := by simp [hrr]
        have hd := wD_r (c := c) (c' := c') (x := x) (y := y) (xs := xs) (ys := ys) hrr
        go_enter Try.func66, Try.ntmps66
        go_upto_region 1 with (fail)
        obtain ⟨w0, hw0⟩ : ∃ w0, w0 = (((w.alloc (.cells #[.int .i64 r, .int .i64 c, .slice A n cap] 35)).alloc (.cells #[.int .i64 r', .int .i64 c', .slice B m cap'] 35)).alloc (.cells #[.int .i64 0, .int .i64 0, .slice none 0 0] 35)) := ⟨_, rfl⟩
        have hx0 : Ext w w0 := by subst hw0; exact (((Ext.refl _).alloc _).alloc _).alloc _
        have ba : Blk w0 (w.heap.size) #[.int .i64 r, .int .i64 c, .slice A n cap] 35 := by subst hw0; exact (Blk.new w _ _).ext (((Ext.refl _).alloc _).alloc _)
        have bb : Blk w0 (w.heap.size + 1) #[.int .i64 r', .int .i64 c', .slice B m cap'] 35 := by subst hw0; simpa using (Blk.new (w.alloc (.cells #[.int .i64 r, .int .i64 c, .slice A n cap] 35)) _ _).ext ((Ext.refl _).alloc _)
        have b0 : Blk w0 (w.heap.size + 1 + 1) #[.int .i64 0, .int .i64 0, .slice none 0 0] 35 := by subst hw0; simpa using (Blk.new ((w.alloc (.cells #[.int .i64 r, .int .i64 c, .slice A n cap] 35)).alloc (.cells #[.int .i64 r', .int .i64 c', .slice B m cap'] 35)) _ _)
        rw [← hw0]
        clear hw0
        obtain ⟨c0, c1, c2, hr1⟩ := MAt.blk ba (hr.below hx0)
        go_wp2_with fail
        refine (ValidMatrix_any r c A n cap xs _ hr1).mono ?_
        rintro e w1 ⟨rfl, hx⟩
        rw [hv]
        replace b0 := b0.ext hx
        replace ba := ba.ext hx
        replace bb := bb.ext hx
        replace hx0 := hx0.trans hx
        clear c0 c1 c2 hr1 hx
        obtain ⟨d0, d1, d2, hq1⟩ := MAt.blk bb (hq.below hx0)
        go_wp2_with fail
        refine (ValidMatrix_any r' c' B m cap' ys _ hq1).mono ?_
        rintro e w2 ⟨rfl, hx⟩
        rw [hv']
        replace b0 := b0.ext hx
        replace ba := ba.ext hx
        replace bb := bb.ext hx
        replace hx0 := hx0.trans hx
        clear d0 d1 d2 hx hq1
        obtain ⟨c0, c1, c2, _⟩ := MAt.blk ba (hr.below hx0)
        obtain ⟨d0, d1, d2, _⟩ := MAt.blk bb (hq.below hx0)
        have y0 : w2.cell? ⟨w.heap.size + 1 + 1, 0, none⟩ = some (.int .i64 0) := b0.cell 0 rfl
        have y1 : w2.cell? ⟨w.heap.size + 1 + 1, 1, none⟩ = some (.int .i64 0) := b0.cell 1 rfl
        have y2 : w2.cell? ⟨w.heap.size + 1 + 1, 2, none⟩ = some (.slice none 0 0) := b0.cell 2 rfl
        have q0 := b0.free 0
        have q1 := b0.free 1
        have q2 := b0.free 2
        have hq := b0.lt
        go_wp2_with fail
        obtain ⟨k1, k2, k3⟩ := Own.resM (w := w) (u := .int .i64 0) (v := .int .i64 0) (x := .slice none 0 0) b0 (own_nil _ w.heap.size _) hx0 (by omega)
        exact bodyPost_ret (resMB (x := .bool false) rfl rfl rfl k3) rfl (RetMD.bad hd k2)

end Go.Proofs.Ytgjfdfmbknmpaaa
