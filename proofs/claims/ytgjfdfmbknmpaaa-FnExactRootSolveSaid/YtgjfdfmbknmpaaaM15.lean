import Derived.Test.YtgjfdfmbknmpaaaM8
import Derived.Test.YtgjfdfmbknmpaaaM11
set_option linter.unusedVariables false
set_option linter.unusedSimpArgs false
namespace Go.Proofs.Ytgjfdfmbknmpaaa
open Go.RowKit

theorem sq_nat {r c : Int} {xs : List Nat} (h : isSq r c xs = true) : isMat r c xs = true ∧ c = r := by
  unfold isSq at h
  simp only [Bool.and_eq_true, decide_eq_true_eq] at h
  exact ⟨h.1, h.2.symm⟩
def symF (xs : List Nat) (R : Nat) (i k : Nat) : Option Nat := fmul (c32 1056964608) (fadd (c32 (at_ xs R i k)) (c32 (at_ xs R k i)))
def symD (r c : Int) (xs : List Nat) : MD := if isSq r c xs then giveM r r (tab r.toNat (symF xs r.toNat) (r.toNat * r.toNat)) else MD.bad

set_option maxRecDepth 20000 in
set_option maxHeartbeats 1000000 in
theorem sym1_any (b R i k n cap : Nat) (A : Option Addr) (xs : List Nat) (w : World) (hi : i < R) (hk : k < R) (hR : R ≤ 12) (hn : n = R * R) (ha : MAt w b R R A n cap xs) :
    Calls Try.prog 145 #[.int .i64 i, .int .i64 k, .pointer (some ⟨b, 0, none⟩)] w (RetF w (symF xs R i k)) := by
  obtain ⟨c0, c1, c2, hr⟩ := ha
  have Hn := Lib.hid hn
  clear hn
  go_enter Try.func145, Try.ntmps145
  go_upto_region 1 with (fail)
  refine wp_region_T (cs := []) [0, 1, 2, 3, 4, 5, 6, 7, 8, 9, 10] [] [3, 7, 8, 9] [] (fun i__ v => match i__ with | 3 => v = (.float .f32 (at_ xs R i k)) | 7 => v = (.float .f32 (at_ xs R k i)) | 8 => ∃ r, v = .float .f32 r ∧ c32 r = (fadd (c32 (at_ xs R i k)) (c32 (at_ xs R k i))) | 9 => ∃ r, v = .float .f32 r ∧ c32 r = (symF xs R i k) | _ => False) (fun _ _ _ => True) (by kernel_rfl) (by kernel_rfl) (fun _ _ _ _ _ _ => trivial) ?_
  refine' wpT_det (o := ⟨some 6, Op.load 35 (Operand.tmp 2), 35, "l04_values.go:166", #[], none⟩) rfl (by rfl) (by rfl) (fun w' hw' => ?_) ?_; rotate_left
  · have c0_ := Ext.cell hw' c0; have c1_ := Ext.cell hw' c1; have c2_ := Ext.cell hw' c2; go_simp <;> first | rfl | exact ⟨rfl, rfl⟩
  simp only [Act.put, List.setIfInBounds_toArray, List.set_cons_zero, List.set_cons_succ]
  refine' wpT_det (o := ⟨some 7, Op.move (Operand.tmp 0), 2, "l04_values.go:166", #[], none⟩) rfl (by rfl) (by rfl) (fun w' hw' => ?_) ?_; rotate_left
  · go_simp <;> first | rfl | exact ⟨rfl, rfl⟩
  simp only [Act.put, List.setIfInBounds_toArray, List.set_cons_zero, List.set_cons_succ]
  refine' wpT_det (o := ⟨some 8, Op.move (Operand.tmp 1), 2, "l04_values.go:166", #[], none⟩) rfl (by rfl) (by rfl) (fun w' hw' => ?_) ?_; rotate_left
  · go_simp <;> first | rfl | exact ⟨rfl, rfl⟩
  simp only [Act.put, List.setIfInBounds_toArray, List.set_cons_zero, List.set_cons_succ]
  refine wpT_nd (o := ⟨some 9, Op.call { callee := Callee.value (Operand.func 105), args := #[Operand.tmp 6, Operand.tmp 7, Operand.tmp 8], argTypes := #[35, 2, 2] }, 39, "l04_values.go:166", #[{ on := 0, ground := Ground.data }, { on := 1, ground := Ground.data }, { on := 2, ground := Ground.data }], none⟩) rfl (by rfl) (by rfl) (fun w' hw' hF R__ hGo => ?_) ⟨_, rfl⟩ ?_
  · go_simp
    refine gives_enter rfl ?_
    refine (at_any R R i k n cap A xs _ hi hk hR hR Hn.out (hr.below hw'.undrew)).mono ?_
    rintro e w2 ⟨rfl, hx⟩
    exact ⟨_, rfl, hGo _ _ hx rfl trivial⟩
  intro v hv
  obtain rfl : v = (.float .f32 (at_ xs R i k)) := hv
  simp only [Act.put, List.setIfInBounds_toArray, List.set_cons_zero, List.set_cons_succ]
  refine' wpT_det (o := ⟨some 10, Op.load 35 (Operand.tmp 2), 35, "l04_values.go:166", #[], none⟩) rfl (by rfl) (by rfl) (fun w' hw' => ?_) ?_; rotate_left
  · have c0_ := Ext.cell hw' c0; have c1_ := Ext.cell hw' c1; have c2_ := Ext.cell hw' c2; go_simp <;> first | rfl | exact ⟨rfl, rfl⟩
  simp only [Act.put, List.setIfInBounds_toArray, List.set_cons_zero, List.set_cons_succ]
  refine' wpT_det (o := ⟨some 11, Op.move (Operand.tmp 1), 2, "l04_values.go:166", #[], none⟩) rfl (by rfl) (by rfl) (fun w' hw' => ?_) ?_; rotate_left
  · go_simp <;> first | rfl | exact ⟨rfl, rfl⟩
  simp only [Act.put, List.setIfInBounds_toArray, List.set_cons_zero, List.set_cons_succ]
  refine' wpT_det (o := ⟨some 12, Op.move (Operand.tmp 0), 2, "l04_values.go:166", #[], none⟩) rfl (by rfl) (by rfl) (fun w' hw' => ?_) ?_; rotate_left
  · go_simp <;> first | rfl | exact ⟨rfl, rfl⟩
  simp only [Act.put, List.setIfInBounds_toArray, List.set_cons_zero, List.set_cons_succ]
  refine wpT_nd (o := ⟨some 13, Op.call { callee := Callee.value (Operand.func 105), args := #[Operand.tmp 10, Operand.tmp 11, Operand.tmp 12], argTypes := #[35, 2, 2] }, 39, "l04_values.go:166", #[{ on := 4, ground := Ground.data }, { on := 5, ground := Ground.data }, { on := 6, ground := Ground.data }, { on := 3, ground := Ground.chain }], none⟩) rfl (by rfl) (by rfl) (fun w' hw' hF R__ hGo => ?_) ⟨_, rfl⟩ ?_
  · go_simp
    refine gives_enter rfl ?_
    refine (at_any R R k i n cap A xs _ hk hi hR hR Hn.out (hr.below hw'.undrew)).mono ?_
    rintro e w2 ⟨rfl, hx⟩
    exact ⟨_, rfl, hGo _ _ hx rfl trivial⟩
  intro v hv
  obtain rfl : v = (.float .f32 (at_ xs R k i)) := hv
  simp only [Act.put, List.setIfInBounds_toArray, List.set_cons_zero, List.set_cons_succ]
  refine wpT_nd (o := ⟨some 14, Op.binOp BinOp.add 39 (Operand.tmp 9) (Operand.tmp 13) 39, 39, "l04_values.go:166", #[{ on := 3, ground := Ground.data }, { on := 7, ground := Ground.data }], none⟩) rfl (by rfl) (by rfl) (fun w' hw' hF R__ hGo => ?_) (by obtain ⟨r, hr⟩ := ex_d .add (rfl : fop .add .f32 (c32 (at_ xs R i k)) (c32 (at_ xs R k i)) = (fadd (c32 (at_ xs R i k)) (c32 (at_ xs R k i)))); exact ⟨_, r, rfl, hr⟩) ?_
  · exact gives_f .add (.inl rfl) _ _ _ _ rfl (at_ xs R i k) (at_ xs R k i) rfl rfl (fadd (c32 (at_ xs R i k)) (c32 (at_ xs R k i))) rfl (fun r w2 hx hc => hGo _ _ hx ⟨r, rfl, hc⟩ trivial)
  rintro _ ⟨f8, rfl, hf8⟩
  simp only [Act.put, List.setIfInBounds_toArray, List.set_cons_zero, List.set_cons_succ]
  refine wpT_nd (o := ⟨some 15, Op.call { callee := Callee.value (Operand.func 119), args := #[Operand.const (Value.float FloatKind.f32 1056964608), Operand.tmp 14], argTypes := #[39, 39] }, 39, "l04_values.go:166", #[{ on := 8, ground := Ground.data }, { on := 7, ground := Ground.chain }], none⟩) rfl (by rfl) (by rfl) (fun w' hw' hF R__ hGo => ?_) (by obtain ⟨r, hr⟩ : ∃ r, c32 r = (symF xs R i k) := ex_fop _ _ _; exact ⟨_, r, rfl, hr⟩) ?_
  · go_simp
    refine gives_enter rfl ?_
    refine (mul_any 1056964608 f8 _).mono ?_
    rintro e w2 ⟨r, rfl, hr, hx⟩
    exact ⟨_, rfl, hGo _ _ hx ⟨r, rfl, (hr.trans (by rw [hf8]; rfl))⟩ trivial⟩
  rintro _ ⟨f9, rfl, hf9⟩
  simp only [Act.put, List.setIfInBounds_toArray, List.set_cons_zero, List.set_cons_succ]
  refine' wpT_det (o := ⟨some 5, Op.assign (Operand.tmp 15), 39, "l04_values.go:166", #[{ on := 9, ground := Ground.data }, { on := 9, ground := Ground.chain }, { on := 0, ground := Ground.phase }, { on := 1, ground := Ground.phase }, { on := 2, ground := Ground.phase }, { on := 3, ground := Ground.phase }, { on := 4, ground := Ground.phase }, { on := 5, ground := Ground.phase }, { on := 6, ground := Ground.phase }, { on := 7, ground := Ground.phase }, { on := 8, ground := Ground.phase }, { on := 9, ground := Ground.phase }], none⟩) rfl (by rfl) (by rfl) (fun w' hw' => ?_) ?_; rotate_left
  · go_simp <;> first | rfl | exact ⟨rfl, rfl⟩
  simp only [Act.put, List.setIfInBounds_toArray, List.set_cons_zero, List.set_cons_succ]
  refine wpT_nil (fun w' hw' hF => ?_)
  refine wpList_nil ?_
  go_wp2_with fail
  go_ret
  exact ⟨_, rfl, hf9, hw'.undrew⟩

set_option maxRecDepth 20000 in
set_option maxHeartbeats 4000000 in
theorem implSymmetricPart_any (r c : Int) (A : Option Addr) (n cap : Nat) (xs : List Nat) (w : World) (hr : Rds w A n (flts xs)) :
    Calls Try.prog 68 #[.agg #[.int .i64 r, .int .i64 c, .slice A n cap]] w (RetMD w (symD r c xs)) := by
  have HL := Lib.hid hr.flen
  cases hv : isSq r c xs with
  | false =>
    have hd : symD r c xs = MD.bad := by simp [symD, hv]
    go_enter Try.func68, Try.ntmps68
    go_upto_region 1 with (fail)
    obtain ⟨w0, hw0⟩ : ∃ w0, w0 = ((w.alloc (.cells #[.int .i64 r, .int .i64 c, .slice A n cap] 35)).alloc (.cells #[.int .i64 0, .int .i64 0, .slice none 0 0] 35)) := ⟨_, rfl⟩
    have hx0 : Ext w w0 := by subst hw0; exact ((Ext.refl _).alloc _).alloc _
    have ba : Blk w0 (w.heap.size) #[.int .i64 r, .int .i64 c, .slice A n cap] 35 := by subst hw0; exact (Blk.new w _ _).ext ((Ext.refl _).alloc _)
    have b0 : Blk w0 (w.heap.size + 1) #[.int .i64 0, .int .i64 0, .slice none 0 0] 35 := by subst hw0; simpa using (Blk.new (w.alloc (.cells #[.int .i64 r, .int .i64 c, .slice A n cap] 35)) _ _)
    rw [← hw0]
    clear hw0
    obtain ⟨c0, c1, c2, hr1⟩ := MAt.blk ba (hr.below hx0)
    go_wp2_with fail
    refine (isSquare_any r c A n cap xs _ hr1).mono ?_
    rintro e w1 ⟨rfl, hx⟩
    rw [hv]
    replace b0 := b0.ext hx
    replace hx0 := hx0.trans hx
    clear c0 c1 c2 hx
    have y0 : w1.cell? ⟨w.heap.size + 1, 0, none⟩ = some (.int .i64 0) := b0.cell 0 rfl
    have y1 : w1.cell? ⟨w.heap.size + 1, 1, none⟩ = some (.int .i64 0) := b0.cell 1 rfl
    have y2 : w1.cell? ⟨w.heap.size + 1, 2, none⟩ = some (.slice none 0 0) := b0.cell 2 rfl
    have q0 := b0.free 0
    have q1 := b0.free 1
    have q2 := b0.free 2
    have hq := b0.lt
    go_wp2_with fail
    obtain ⟨k1, k2, k3⟩ := Own.resM (w := w) (u := .int .i64 0) (v := .int .i64 0) (x := .slice none 0 0) b0 (own_nil _ w.heap.size _) hx0 (by omega)
    exact bodyPost_ret (resMB (x := .bool false) rfl rfl rfl k3) rfl (RetMD.bad hd k2)
  | true =>
    obtain ⟨hv', rfl⟩ := sq_nat hv
    obtain ⟨R, C, rfl, e1, u1, u2, _, _, u5⟩ := mat_nat hv'
    obtain rfl : C = R := by omega
    obtain ⟨d, hd⟩ : ∃ d, d = symD C C xs := ⟨_, rfl⟩
    have hd' : d = giveM C C (tab C (symF xs C) (C * C)) := by rw [hd]; simp [symD, hv]
    have HD := Lib.hid hd'
    have Hn : Hid (n = C * C) := by have := HL.out; show n = _; omega
    rw [← hd]
    clear hd hd' u5 e1
    go_enter Try.func68, Try.ntmps68
    go_upto_region 1 with (fail)
    obtain ⟨w0, hw0⟩ : ∃ w0, w0 = ((w.alloc (.cells #[.int .i64 C, .int .i64 C, .slice A n cap] 35)).alloc (.cells #[.int .i64 0, .int .i64 0, .slice none 0 0] 35)) := ⟨_, rfl⟩
    have hx0 : Ext w w0 := by subst hw0; exact ((Ext.refl _).alloc _).alloc _
    have ba : Blk w0 (w.heap.size) #[.int .i64 C, .int .i64 C, .slice A n cap] 35 := by subst hw0; exact (Blk.new w _ _).ext ((Ext.refl _).alloc _)
    have b0 : Blk w0 (w.heap.size + 1) #[.int .i64 0, .int .i64 0, .slice none 0 0] 35 := by subst hw0; simpa using (Blk.new (w.alloc (.cells #[.int .i64 C, .int .i64 C, .slice A n cap] 35)) _ _)
    rw [← hw0]
    clear hw0
    obtain ⟨c0, c1, c2, hr1⟩ := MAt.blk ba (hr.below hx0)
    go_wp2_with fail
    refine (isSquare_any _ _ A n cap xs _ hr1).mono ?_
    rintro e w1 ⟨rfl, hx⟩
    rw [hv]
    replace b0 := b0.ext hx
    replace ba := ba.ext hx
    replace hx0 := hx0.trans hx
    clear c0 c1 c2 hr1 hx
    obtain ⟨c0, c1, c2, hr1⟩ := MAt.blk ba (hr.below hx0)
    go_wp2_with fail
    refine (made_any 145 _ (enters_of Try.func145 (by kernel_rfl) rfl) C C u2 u2 (symF xs C) _ (fun i k W hi hk hW => ?_) (fun i k _ _ => ex_fop _ _ _)).mono ?_
    · exact sym1_any _ C i k n cap A xs W hi hk u2 Hn.out ((MAt.blk ba (hr.below hx0)).ext hW)
    rintro e w4 ⟨A3, k3, zs, hz, rfl, ho, hx⟩
    replace b0 := b0.ext hx
    have ho' := ho.base hx0.size
    replace hx0 := hx0.trans hx
    clear c0 c1 c2 hx ho
    go_wp2_with fail
    refine (valid_any w.heap.size C C A3 (C * C) k3 zs _ ho' hx0.size).mono ?_
    rw [hz, ← HD.out]
    rintro e w5 ⟨A2, k2, rfl, ho, hx⟩
    replace b0 := b0.ext hx
    have y0 : w5.cell? ⟨w.heap.size + 1, 0, none⟩ = some (.int .i64 0) := b0.cell 0 rfl
    have y1 : w5.cell? ⟨w.heap.size + 1, 1, none⟩ = some (.int .i64 0) := b0.cell 1 rfl
    have y2 : w5.cell? ⟨w.heap.size + 1, 2, none⟩ = some (.slice none 0 0) := b0.cell 2 rfl
    have q0 := b0.free 0
    have q1 := b0.free 1
    have q2 := b0.free 2
    have hq := b0.lt
    go_wp2_with fail
    obtain ⟨k1, k2', k3⟩ := Own.resM (w := w) (u := .int .i64 d.r) (v := .int .i64 d.c) (x := .slice A2 d.xs.length k2) b0 ho (hx0.trans hx) (by omega)
    exact bodyPost_ret (resMB (x := .bool d.ok) rfl rfl rfl k3) rfl ⟨A2, k2, rfl, k1, k2'⟩

set_option maxRecDepth 20000 in
set_option maxHeartbeats 4000000 in
theorem specSymmetricPart_any (r c : Int) (A : Option Addr) (n cap : Nat) (xs : List Nat) (w : World) (hr : Rds w A n (flts xs)) :
    Calls Try.prog 67 #[.agg #[.int .i64 r, .int .i64 c, .slice A n cap]] w (RetMD w (symD r c xs)) := by
  have HL := Lib.hid hr.flen
  cases hv : isSq r c xs with
  | false =>
    have hd : symD r c xs = MD.bad := by simp [symD, hv]
    go_enter Try.func67, Try.ntmps67
    go_upto_region 1 with (fail)
    obtain ⟨w0, hw0⟩ : ∃ w0, w0 = ((w.alloc (.cells #[.int .i64 r, .int .i64 c, .slice A n cap] 35)).alloc (.cells #[.int .i64 0, .int .i64 0, .slice none 0 0] 35)) := ⟨_, rfl⟩
    have hx0 : Ext w w0 := by subst hw0; exact ((Ext.refl _).alloc _).alloc _
    have ba : Blk w0 (w.heap.size) #[.int .i64 r, .int .i64 c, .slice A n cap] 35 := by subst hw0; exact (Blk.new w _ _).ext ((Ext.refl _).alloc _)
    have b0 : Blk w0 (w.heap.size + 1) #[.int .i64 0, .int .i64 0, .slice none 0 0] 35 := by subst hw0; simpa using (Blk.new (w.alloc (.cells #[.int .i64 r, .int .i64 c, .slice A n cap] 35)) _ _)
    rw [← hw0]
    clear hw0
    go_wp2_with fail
    refine (l02Square_any _ r c A n cap xs _ (MAt.blk ba (hr.below hx0))).mono ?_
    rintro e w1 ⟨rfl, hx⟩
    rw [hv]
    replace b0 := b0.ext hx
    replace hx0 := hx0.trans hx
    clear  hx
    have y0 : w1.cell? ⟨w.heap.size + 1, 0, none⟩ = some (.int .i64 0) := b0.cell 0 rfl
    have y1 : w1.cell? ⟨w.heap.size + 1, 1, none⟩ = some (.int .i64 0) := b0.cell 1 rfl
    have y2 : w1.cell? ⟨w.heap.size + 1, 2, none⟩ = some (.slice none 0 0) := b0.cell 2 rfl
    have q0 := b0.free 0
    have q1 := b0.free 1
    have q2 := b0.free 2
    have hq := b0.lt
    go_wp2_with fail
    obtain ⟨k1, k2, k3⟩ := Own.resM (w := w) (u := .int .i64 0) (v := .int .i64 0) (x := .slice none 0 0) b0 (own_nil _ w.heap.size _) hx0 (by omega)
    exact bodyPost_ret (resMB (x := .bool false) rfl rfl rfl k3) rfl (RetMD.bad hd k2)
  | true =>
    obtain ⟨hv', rfl⟩ := sq_nat hv
    obtain ⟨R, C, rfl, e1, u1, u2, _, _, u5⟩ := mat_nat hv'
    obtain rfl : C = R := by omega
    obtain ⟨d, hd⟩ : ∃ d, d = symD C C xs := ⟨_, rfl⟩
    have hd' : d = giveM C C (tab C (symF xs C) (C * C)) := by rw [hd]; simp [symD, hv]
    have HD := Lib.hid hd'
    rw [← hd]
    obtain ⟨N, hN⟩ : ∃ N, N = C * C := ⟨_, rfl⟩
    obtain ⟨hw3, hN144⟩ := mul_nat C C u2 u2
    rw [← hN] at hw3 hN144
    have HN := Lib.hid hN
    obtain rfl : n = N := by have := HL.out; omega
    clear hd hd' u5 e1 hN
    go_enter Try.func67, Try.ntmps67
    go_upto_region 1 with (fail)
    obtain ⟨w0, hw0⟩ : ∃ w0, w0 = ((w.alloc (.cells #[.int .i64 C, .int .i64 C, .slice A n cap] 35)).alloc (.cells #[.int .i64 0, .int .i64 0, .slice none 0 0] 35)) := ⟨_, rfl⟩
    have hx0 : Ext w w0 := by subst hw0; exact ((Ext.refl _).alloc _).alloc _
    have ba : Blk w0 (w.heap.size) #[.int .i64 C, .int .i64 C, .slice A n cap] 35 := by subst hw0; exact (Blk.new w _ _).ext ((Ext.refl _).alloc _)
    have b0 : Blk w0 (w.heap.size + 1) #[.int .i64 0, .int .i64 0, .slice none 0 0] 35 := by subst hw0; simpa using (Blk.new (w.alloc (.cells #[.int .i64 C, .int .i64 C, .slice A n cap] 35)) _ _)
    rw [← hw0]
    clear hw0
    go_wp2_with fail
    refine (l02Square_any _ _ _ A n cap xs _ (MAt.blk ba (hr.below hx0))).mono ?_
    rintro e w1 ⟨rfl, hx⟩
    rw [hv]
    replace b0 := b0.ext hx
    replace ba := ba.ext hx
    replace hx0 := hx0.trans hx
    clear  hx
    obtain ⟨c0, c1, c2, hr1⟩ := MAt.blk ba (hr.below hx0)
    clear c1 c2 hr1
    go_wp2_with fail
    refine (l02Blank_any C C _).mono ?_
    rintro e w5 ⟨A1, k1, zs, hz, rfl, o1, hx⟩
    obtain rfl : zs = [] := List.length_eq_zero_iff.1 (by rw [MO.len hz]; rfl)
    have hne : w.heap.size + 1 ≠ w5.heap.size := by have := b0.lt; have := hx.size; omega
    have hle : w1.heap.size ≤ w5.heap.size := hx.size
    have hsz4 : w.heap.size ≤ w1.heap.size := hx0.size
    clear c0
    go_wp2_with fail
    have hst : MO w1 w5.heap.size (w.heap.size + 1) C C 0 (tab C (symF xs C) 0) (w5.alloc (.cells #[.int .i64 C, .int .i64 C, .slice A1 0 k1] 35)) :=
      ⟨A1, k1, [], rfl, Blk.new _ _ _, (b0.ext hx).ext ((Ext.refl _).alloc _), o1.ext ((Ext.refl _).alloc _), hx.alloc _⟩
    clear o1 hx hz
    go_loopw [5] (fun u wr => ∃ i : Nat, i ≤ n ∧ u = .int .i64 i ∧ MO w1 w5.heap.size (w.heap.size + 1) C C i (tab C (symF xs C) i) wr) (fun u _ => n - (intOf u).toNat)
    case atStart => exact ⟨0, Nat.zero_le _, rfl, hst⟩
    case round =>
      clear hst
      obtain ⟨i, hi, rfl, A2, k2, zs, hz, h1, h2, h3, h4⟩ := hrel
      have ha := (MAt.blk ba (hr.below hx0)).ext h4
      obtain ⟨c0, c1, c2, hr1⟩ := ha
      clear c1
      by_cases hlt : i < n
      · obtain ⟨ad, rfl, hca⟩ := hr1.fltN i hlt
        obtain ⟨p, q, g1, g2, Hp, Hq, d1, d2, d3, d4, d5⟩ := rc_facts HN.out hlt hN144
        have z2 : wr.cell? ⟨w5.heap.size, 2, none⟩ = some (.slice A2 i k2) := h1.cell 2 rfl
        go_wp2_with fail
        refine wp_region_T (cs := []) [0, 1, 2, 3, 4, 5, 6, 7, 8, 9, 10, 11, 12, 13, 14, 15, 16, 17, 18] [19, 20, 21] [15, 16, 17, 18] [] (fun i__ v => match i__ with | 15 => v = (.float .f32 (at_ xs C q p)) | 16 => ∃ r, v = .float .f32 r ∧ c32 r = (fadd (c32 (rdf xs i)) (c32 (at_ xs C q p))) | 17 => ∃ r, v = .float .f32 r ∧ c32 r = (fmul (c32 1056964608) (fadd (c32 (rdf xs i)) (c32 (at_ xs C q p)))) | 18 => ∃ g, v = .slice (some ⟨g, 0, none⟩) 1 1 | _ => False) (fun i__ v w' => match i__ with | 18 => OneF w' v (fmul (c32 1056964608) (fadd (c32 (rdf xs i)) (c32 (at_ xs C q p)))) 39 | _ => True) (by kernel_rfl) (by kernel_rfl) (by intro i v w' w2 h hx; revert h; (try dsimp only); split <;> intro h <;> first | trivial | exact OneF.ext h hx) ?_
        refine' wpT_det (o := ⟨some 23, Op.fieldAddr 35 (Operand.tmp 4) 2, 0, "l04_values.go:194", #[], none⟩) rfl (by rfl) (by rfl) (fun w' hw' => ?_) ?_; rotate_left
        · go_simp <;> first | rfl | exact ⟨rfl, rfl⟩
        simp only [Act.put, List.setIfInBounds_toArray, List.set_cons_zero, List.set_cons_succ]
        refine' wpT_det (o := ⟨some 24, Op.load 22 (Operand.tmp 23), 22, "l04_values.go:194", #[{ on := 0, ground := Ground.data }], none⟩) rfl (by rfl) (by rfl) (fun w' hw' => ?_) ?_; rotate_left
        · have c0_ := Ext.cell hw' c0; have c2_ := Ext.cell hw' c2; have z2_ := Ext.cell hw' z2; have hca_ := Ext.cell hw' hca; go_simp <;> first | rfl | exact ⟨rfl, rfl⟩
        simp only [Act.put, List.setIfInBounds_toArray, List.set_cons_zero, List.set_cons_succ]
        refine' wpT_det (o := ⟨some 25, Op.fieldAddr 35 (Operand.tmp 1) 2, 0, "l04_values.go:194", #[], none⟩) rfl (by rfl) (by rfl) (fun w' hw' => ?_) ?_; rotate_left
        · go_simp <;> first | rfl | exact ⟨rfl, rfl⟩
        simp only [Act.put, List.setIfInBounds_toArray, List.set_cons_zero, List.set_cons_succ]
        refine' wpT_det (o := ⟨some 26, Op.load 22 (Operand.tmp 25), 22, "l04_values.go:194", #[{ on := 2, ground := Ground.data }], none⟩) rfl (by rfl) (by rfl) (fun w' hw' => ?_) ?_; rotate_left
        · have c0_ := Ext.cell hw' c0; have c2_ := Ext.cell hw' c2; have z2_ := Ext.cell hw' z2; have hca_ := Ext.cell hw' hca; go_simp <;> first | rfl | exact ⟨rfl, rfl⟩
        simp only [Act.put, List.setIfInBounds_toArray, List.set_cons_zero, List.set_cons_succ]
        refine' wpT_det (o := ⟨some 27, Op.move (Operand.tmp 5), 2, "l04_values.go:194", #[], none⟩) rfl (by rfl) (by rfl) (fun w' hw' => ?_) ?_; rotate_left
        · go_simp <;> first | rfl | exact ⟨rfl, rfl⟩
        simp only [Act.put, List.setIfInBounds_toArray, List.set_cons_zero, List.set_cons_succ]
        refine' wpT_det (o := ⟨some 28, Op.indexAddr 22 (Operand.tmp 26) (Operand.tmp 27), 0, "l04_values.go:194", #[{ on := 3, ground := Ground.data }, { on := 4, ground := Ground.data }], none⟩) rfl (by rfl) (by rfl) (fun w' hw' => ?_) ?_; rotate_left
        · go_simp <;> first | rfl | exact ⟨rfl, rfl⟩
        simp only [Act.put, List.setIfInBounds_toArray, List.set_cons_zero, List.set_cons_succ]
        refine' wpT_det (o := ⟨some 29, Op.load 39 (Operand.tmp 28), 39, "l04_values.go:194", #[{ on := 5, ground := Ground.data }], none⟩) rfl (by rfl) (by rfl) (fun w' hw' => ?_) ?_; rotate_left
        · have c0_ := Ext.cell hw' c0; have c2_ := Ext.cell hw' c2; have z2_ := Ext.cell hw' z2; have hca_ := Ext.cell hw' hca; go_simp <;> first | rfl | exact ⟨rfl, rfl⟩
        simp only [Act.put, List.setIfInBounds_toArray, List.set_cons_zero, List.set_cons_succ]
        refine' wpT_det (o := ⟨some 30, Op.move (Operand.tmp 5), 2, "l04_values.go:194", #[], none⟩) rfl (by rfl) (by rfl) (fun w' hw' => ?_) ?_; rotate_left
        · go_simp <;> first | rfl | exact ⟨rfl, rfl⟩
        simp only [Act.put, List.setIfInBounds_toArray, List.set_cons_zero, List.set_cons_succ]
        refine' wpT_det (o := ⟨some 31, Op.fieldAddr 35 (Operand.tmp 1) 0, 0, "l04_values.go:194", #[], none⟩) rfl (by rfl) (by rfl) (fun w' hw' => ?_) ?_; rotate_left
        · go_simp <;> first | rfl | exact ⟨rfl, rfl⟩
        simp only [Act.put, List.setIfInBounds_toArray, List.set_cons_zero, List.set_cons_succ]
        refine' wpT_det (o := ⟨some 32, Op.load 2 (Operand.tmp 31), 2, "l04_values.go:194", #[{ on := 8, ground := Ground.data }], none⟩) rfl (by rfl) (by rfl) (fun w' hw' => ?_) ?_; rotate_left
        · have c0_ := Ext.cell hw' c0; have c2_ := Ext.cell hw' c2; have z2_ := Ext.cell hw' z2; have hca_ := Ext.cell hw' hca; go_simp <;> first | rfl | exact ⟨rfl, rfl⟩
        simp only [Act.put, List.setIfInBounds_toArray, List.set_cons_zero, List.set_cons_succ]
        refine' wpT_det (o := ⟨some 33, Op.binOp BinOp.rem 2 (Operand.tmp 30) (Operand.tmp 32) 2, 2, "l04_values.go:194", #[{ on := 7, ground := Ground.data }, { on := 9, ground := Ground.data }], none⟩) rfl (by rfl) (by rfl) (fun w' hw' => ?_) ?_; rotate_left
        · go_simp <;> first | rfl | exact ⟨rfl, rfl⟩
        simp only [Act.put, List.setIfInBounds_toArray, List.set_cons_zero, List.set_cons_succ]
        refine' wpT_det (o := ⟨some 34, Op.move (Operand.tmp 5), 2, "l04_values.go:194", #[], none⟩) rfl (by rfl) (by rfl) (fun w' hw' => ?_) ?_; rotate_left
        · go_simp <;> first | rfl | exact ⟨rfl, rfl⟩
        simp only [Act.put, List.setIfInBounds_toArray, List.set_cons_zero, List.set_cons_succ]
        refine' wpT_det (o := ⟨some 35, Op.fieldAddr 35 (Operand.tmp 1) 0, 0, "l04_values.go:194", #[], none⟩) rfl (by rfl) (by rfl) (fun w' hw' => ?_) ?_; rotate_left
        · go_simp <;> first | rfl | exact ⟨rfl, rfl⟩
        simp only [Act.put, List.setIfInBounds_toArray, List.set_cons_zero, List.set_cons_succ]
        refine' wpT_det (o := ⟨some 36, Op.load 2 (Operand.tmp 35), 2, "l04_values.go:194", #[{ on := 12, ground := Ground.data }], none⟩) rfl (by rfl) (by rfl) (fun w' hw' => ?_) ?_; rotate_left
        · have c0_ := Ext.cell hw' c0; have c2_ := Ext.cell hw' c2; have z2_ := Ext.cell hw' z2; have hca_ := Ext.cell hw' hca; go_simp <;> first | rfl | exact ⟨rfl, rfl⟩
        simp only [Act.put, List.setIfInBounds_toArray, List.set_cons_zero, List.set_cons_succ]
        refine' wpT_det (o := ⟨some 37, Op.binOp BinOp.quo 2 (Operand.tmp 34) (Operand.tmp 36) 2, 2, "l04_values.go:194", #[{ on := 11, ground := Ground.data }, { on := 13, ground := Ground.data }], none⟩) rfl (by rfl) (by rfl) (fun w' hw' => ?_) ?_; rotate_left
        · go_simp <;> first | rfl | exact ⟨rfl, rfl⟩
        simp only [Act.put, List.setIfInBounds_toArray, List.set_cons_zero, List.set_cons_succ]
        refine wpT_nd (o := ⟨some 38, Op.call { callee := Callee.value (Operand.func 107), args := #[Operand.tmp 1, Operand.tmp 33, Operand.tmp 37], argTypes := #[85, 2, 2] }, 39, "l04_values.go:194", #[{ on := 10, ground := Ground.data }, { on := 14, ground := Ground.data }], none⟩) rfl (by rfl) (by rfl) (fun w' hw' hF R__ hGo => ?_) ⟨_, rfl⟩ ?_
        · go_simp
          refine gives_enter rfl ?_
          refine (l02At_any w.heap.size C C q p n cap _ xs _ g2 g1 u2 u2 HN.out (((MAt.blk ba (hr.below hx0)).ext h4).ext hw'.undrew)).mono ?_
          rintro e w2 ⟨rfl, hx⟩
          exact ⟨_, rfl, hGo _ _ hx rfl trivial⟩
        intro v hv
        obtain rfl : v = (.float .f32 (at_ xs C q p)) := hv
        simp only [Act.put, List.setIfInBounds_toArray, List.set_cons_zero, List.set_cons_succ]
        refine wpT_nd (o := ⟨some 39, Op.binOp BinOp.add 39 (Operand.tmp 29) (Operand.tmp 38) 39, 39, "l04_values.go:194", #[{ on := 6, ground := Ground.data }, { on := 15, ground := Ground.data }], none⟩) rfl (by rfl) (by rfl) (fun w' hw' hF R__ hGo => ?_) (by obtain ⟨r, hr⟩ := ex_d .add (rfl : fop .add .f32 (c32 (rdf xs i)) (c32 (at_ xs C q p)) = (fadd (c32 (rdf xs i)) (c32 (at_ xs C q p)))); exact ⟨_, r, rfl, hr⟩) ?_
        · exact gives_f .add (.inl rfl) _ _ _ _ rfl (rdf xs i) (at_ xs C q p) rfl rfl (fadd (c32 (rdf xs i)) (c32 (at_ xs C q p))) rfl (fun r w2 hx hc => hGo _ _ hx ⟨r, rfl, hc⟩ trivial)
        rintro _ ⟨f16, rfl, hf16⟩
        simp only [Act.put, List.setIfInBounds_toArray, List.set_cons_zero, List.set_cons_succ]
        refine wpT_nd (o := ⟨some 40, Op.binOp BinOp.mul 39 (Operand.const (Value.float FloatKind.f32 1056964608)) (Operand.tmp 39) 39, 39, "l04_values.go:194", #[{ on := 16, ground := Ground.data }], none⟩) rfl (by rfl) (by rfl) (fun w' hw' hF R__ hGo => ?_) (by obtain ⟨r, hr⟩ := ex_d .mul ((by rw [hf16]) : fop .mul .f32 (c32 (1056964608)) (c32 (f16)) = (fmul (c32 1056964608) (fadd (c32 (rdf xs i)) (c32 (at_ xs C q p))))); exact ⟨_, r, rfl, hr⟩) ?_
        · exact gives_f .mul (.inr (.inr (.inl rfl))) _ _ _ _ rfl (1056964608) (f16) rfl rfl (fmul (c32 1056964608) (fadd (c32 (rdf xs i)) (c32 (at_ xs C q p)))) (by rw [hf16]) (fun r w2 hx hc => hGo _ _ hx ⟨r, rfl, hc⟩ trivial)
        rintro _ ⟨f17, rfl, hf17⟩
        simp only [Act.put, List.setIfInBounds_toArray, List.set_cons_zero, List.set_cons_succ]
        refine wpT_nd (o := ⟨some 41, Op.buildSlice 22 1 #[(0, Operand.tmp 40)], 22, "l04_values.go:194", #[{ on := 17, ground := Ground.data }], none⟩) rfl (by rfl) (by rfl) (fun w' hw' hF R__ hGo => ?_) ⟨_, 0, rfl⟩ ?_
        · go_simp; exact gives_value rfl (hGo _ _ ((Ext.refl _).alloc _) ⟨_, rfl⟩ ⟨f17, hf17, One.new _ _ _⟩)
        rintro _ ⟨g1', rfl⟩
        simp only [Act.put, List.setIfInBounds_toArray, List.set_cons_zero, List.set_cons_succ]
        refine wpT_nil (fun w6 hw' hF => ?_)
        show wpList _ _ _ [(⟨some 42, Op.call { callee := Callee.builtin Builtin.append, args := #[Operand.tmp 24, Operand.tmp 41], argTypes := #[22, 22] }, 22, "l04_values.go:194", #[{ on := 1, ground := Ground.data }, { on := 18, ground := Ground.data }, { on := 15, ground := Ground.chain }], none⟩ : Oper), (⟨some 43, Op.fieldAddr 35 (Operand.tmp 4) 2, 0, "l04_values.go:194", #[{ on := 0, ground := Ground.phase }, { on := 1, ground := Ground.phase }, { on := 2, ground := Ground.phase }, { on := 3, ground := Ground.phase }, { on := 4, ground := Ground.phase }, { on := 5, ground := Ground.phase }, { on := 6, ground := Ground.phase }, { on := 7, ground := Ground.phase }, { on := 8, ground := Ground.phase }, { on := 9, ground := Ground.phase }, { on := 10, ground := Ground.phase }, { on := 11, ground := Ground.phase }, { on := 12, ground := Ground.phase }, { on := 13, ground := Ground.phase }, { on := 14, ground := Ground.phase }, { on := 15, ground := Ground.phase }, { on := 16, ground := Ground.phase }, { on := 17, ground := Ground.phase }, { on := 18, ground := Ground.phase }, { on := 19, ground := Ground.phase }], none⟩ : Oper), (⟨none, Op.store 22 (Operand.tmp 43) (Operand.tmp 42), 0, "l04_values.go:194", #[{ on := 20, ground := Ground.data }, { on := 19, ground := Ground.data }, { on := 19, ground := Ground.chain }, { on := 0, ground := Ground.phase }, { on := 1, ground := Ground.phase }, { on := 2, ground := Ground.phase }, { on := 3, ground := Ground.phase }, { on := 4, ground := Ground.phase }, { on := 5, ground := Ground.phase }, { on := 6, ground := Ground.phase }, { on := 7, ground := Ground.phase }, { on := 8, ground := Ground.phase }, { on := 9, ground := Ground.phase }, { on := 10, ground := Ground.phase }, { on := 11, ground := Ground.phase }, { on := 12, ground := Ground.phase }, { on := 13, ground := Ground.phase }, { on := 14, ground := Ground.phase }, { on := 15, ground := Ground.phase }, { on := 16, ground := Ground.phase }, { on := 17, ground := Ground.phase }, { on := 18, ground := Ground.phase }, { on := 19, ground := Ground.phase }], none⟩ : Oper)] _ _
        obtain ⟨r, hr', hg⟩ : OneF w6 (.slice (some ⟨g1', 0, none⟩) 1 1) (fmul (c32 1056964608) (fadd (c32 (rdf xs i)) (c32 (at_ xs C q p)))) 39 := hF 18 _ rfl
        have hx := hw'.undrew
        clear hF hw' z2 c0 c2 hca hr1
        replace h1 := h1.ext hx
        replace h2 := h2.ext hx
        replace h3 := h3.ext hx
        replace h4 := h4.trans hx
        clear hx
        have hsz := h4.size
        have hl0 := h3.len
        have hlc : (flts zs).length = i := hl0
        have hf := h1.free 2
        have hc := h1.cell 2 rfl
        go_wp2_with (at_builtin; go_loud (refine wpList_app1 rfl _ _ _ rfl w6 w1.heap.size 39 (.float .f32 0) 4 Try.underlying22 info_f32 rfl (by decide) (.slice A2 i k2) (flts zs) rfl g1' (.float .f32 r) rfl hg h3 rfl (by omega) hsz ?_); rw [hl0]; intro A' c' w7 h5 h6 h7; clear hf hc; have b1 := h1.wr h6 h3 (by decide); have hf := b1.free 2; have hq := b1.lt; have hc := b1.cell 2 rfl)
        go_roundw
        case rel =>
          refine ⟨i + 1, by omega, by go_num, ?_⟩
          have := MO.app hle hne hz h1 h2 h3 h4 h5 h6
          have hval : c32 r = symF xs C (i / C) (i % C) := by rw [hr']; unfold symF; rw [at_flat, Hp.out, Hq.out]
          rwa [hval, tab_next (symF xs C) i] at this
        case measure => simp [intOf]; omega
      · obtain rfl : i = n := by omega
        have z0 : wr.cell? ⟨w5.heap.size, 0, none⟩ = some (.int .i64 C) := h1.cell 0 rfl
        have z1 : wr.cell? ⟨w5.heap.size, 1, none⟩ = some (.int .i64 C) := h1.cell 1 rfl
        have z2 : wr.cell? ⟨w5.heap.size, 2, none⟩ = some (.slice A2 i k2) := h1.cell 2 rfl
        go_wp2_with fail
        refine (l02Give_any w1.heap.size C C A2 i k2 zs _ h3 h4.size).mono ?_
        have HD' : Hid (d = giveM C C (cfs zs)) := by rw [hz, HN.out]; exact HD.out
        rw [← HD'.out]
        rintro e w8 ⟨A3, k3, rfl, ho, hx⟩
        replace b0 := h2.ext hx
        replace hx0 := (hx0.trans h4).trans hx
        have ho' := ho.base hsz4
        clear z0 z1 z2 c0 c2
        have y0 : w8.cell? ⟨w.heap.size + 1, 0, none⟩ = some (.int .i64 0) := b0.cell 0 rfl
        have y1 : w8.cell? ⟨w.heap.size + 1, 1, none⟩ = some (.int .i64 0) := b0.cell 1 rfl
        have y2 : w8.cell? ⟨w.heap.size + 1, 2, none⟩ = some (.slice none 0 0) := b0.cell 2 rfl
        have q0 := b0.free 0
        have q1 := b0.free 1
        have q2 := b0.free 2
        have hq := b0.lt
        go_wp2_with fail
        obtain ⟨j1, j2, j3⟩ := Own.resM (w := w) (u := .int .i64 d.r) (v := .int .i64 d.c) (x := .slice A3 d.xs.length k3) b0 ho' hx0 (by omega)
        exact bodyPost_ret (resMB (x := .bool d.ok) rfl rfl rfl j3) rfl ⟨A3, k3, rfl, j1, j2⟩

end Go.Proofs.Ytgjfdfmbknmpaaa
