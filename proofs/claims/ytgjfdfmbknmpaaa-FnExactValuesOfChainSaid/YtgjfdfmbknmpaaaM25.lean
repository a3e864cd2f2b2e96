import Derived.Test.YtgjfdfmbknmpaaaM18
set_option linter.unusedVariables false
set_option linter.unusedSimpArgs false
namespace Go.Proofs.Ytgjfdfmbknmpaaa
open Go.RowKit

def kronF (xs ys : List Nat) (C R' C' : Nat) (i k : Nat) : Option Nat := fmul (c32 (at_ xs C (i / R') (k / C'))) (c32 (at_ ys C' (i % R') (k % C')))
def kronB (r c r' c' : Int) (xs ys : List Nat) : Bool := isMat r c xs && isMat r' c' ys && inR 1 (r * r') 12 && inR 1 (c * c') 12
def kronD (r c r' c' : Int) (xs ys : List Nat) : MD := if kronB r c r' c' xs ys then giveM (r * r') (c * c') (tab (c * c').toNat (kronF xs ys c.toNat r'.toNat c'.toNat) ((r * r').toNat * (c * c').toNat)) else MD.bad
theorem kD_bad {r c r' c' : Int} {xs ys : List Nat} (h : kronB r c r' c' xs ys = false) : kronD r c r' c' xs ys = MD.bad := by unfold kronD; rw [h]; rfl
theorem kron_ix {R R' i : Nat} (h : i < R * R') (h12 : R * R' ≤ 12) : ∃ a b : Nat, a < R ∧ b < R' ∧ Hid (i / R' = a) ∧ Hid (i % R' = b) ∧ (i : Int).tdiv R' = (a : Int) ∧ (i : Int).tmod R' = (b : Int) ∧ IntKind.i64.wrap (a : Int) = (a : Int) ∧ (R' : Int) ≠ 0 ∧ R' ≠ 0 := by
  exact rc_facts (m := R * R') rfl h (by omega)

set_option maxRecDepth 20000 in
set_option maxHeartbeats 2000000 in
theorem kron1_any (b b' R C R' C' i k n m cap cap' : Nat) (A B : Option Addr) (xs ys : List Nat) (w : World) (hi : i < R * R') (hk : k < C * C') (h12 : R * R' ≤ 12) (h12' : C * C' ≤ 12) (hR : R ≤ 12) (hC : C ≤ 12) (hR' : R' ≤ 12) (hC' : C' ≤ 12) (hn : n = R * C) (hm : m = R' * C') (ha : MAt w b R C A n cap xs) (hb : MAt w b' R' C' B m cap' ys) :
    Calls Try.prog 146 #[.int .i64 i, .int .i64 k, .pointer (some ⟨b, 0, none⟩), .pointer (some ⟨b', 0, none⟩)] w (RetF w (kronF xs ys C R' C' i k)) := by
  obtain ⟨c0, c1, c2, hr⟩ := ha
  obtain ⟨d0, d1, d2, hq⟩ := hb
  have Hn := Lib.hid hn
  have Hm := Lib.hid hm
  obtain ⟨p, q, g1, g2, Hp, Hq, e1, e2, e3, e4, e5⟩ := kron_ix hi h12
  obtain ⟨s, t, g3, g4, Hs, Ht, e6, e7, e8, e9, e10⟩ := kron_ix hk h12'
  have Hv : Hid (kronF xs ys C R' C' i k = fmul (c32 (at_ xs C p s)) (c32 (at_ ys C' q t))) := by show _ = _; unfold kronF; rw [Hp.out, Hq.out, Hs.out, Ht.out]
  rw [Hv.out]
  clear hn hm hi hk h12 h12'
  go_enter Try.func146, Try.ntmps146
  go_upto_region 1 with (fail)
  refine wp_region_T (cs := []) [0, 1, 2, 3, 4, 5, 6, 7, 8, 9, 10, 11, 12, 13, 14, 15, 16, 17, 18, 19, 20, 21] [] [9, 19, 20] [] (fun i__ v => match i__ with | 9 => v = (.float .f32 (at_ xs C p s)) | 19 => v = (.float .f32 (at_ ys C' q t)) | 20 => ∃ r, v = .float .f32 r ∧ c32 r = (fmul (c32 (at_ xs C p s)) (c32 (at_ ys C' q t))) | _ => False) (fun _ _ _ => True) (by kernel_rfl) (by kernel_rfl) (fun _ _ _ _ _ _ => trivial) ?_
  refine' wpT_det (o := ⟨some 7, Op.load 35 (Operand.tmp 2), 35, "l02_matrices.go:274", #[], none⟩) rfl (by rfl) (by rfl) (fun w' hw' => ?_) ?_; rotate_left
  · have c0_ := Ext.cell hw' c0; have c1_ := Ext.cell hw' c1; have c2_ := Ext.cell hw' c2; have d0_ := Ext.cell hw' d0; have d1_ := Ext.cell hw' d1; have d2_ := Ext.cell hw' d2; go_simp <;> first | rfl | exact ⟨rfl, rfl⟩
  simp only [Act.put, List.setIfInBounds_toArray, List.set_cons_zero, List.set_cons_succ]
  refine' wpT_det (o := ⟨some 8, Op.move (Operand.tmp 0), 2, "l02_matrices.go:274", #[], none⟩) rfl (by rfl) (by rfl) (fun w' hw' => ?_) ?_; rotate_left
  · go_simp <;> first | rfl | exact ⟨rfl, rfl⟩
  simp only [Act.put, List.setIfInBounds_toArray, List.set_cons_zero, List.set_cons_succ]
  refine' wpT_det (o := ⟨some 9, Op.fieldAddr 35 (Operand.tmp 3) 0, 0, "l02_matrices.go:274", #[], none⟩) rfl (by rfl) (by rfl) (fun w' hw' => ?_) ?_; rotate_left
  · go_simp <;> first | rfl | exact ⟨rfl, rfl⟩
  simp only [Act.put, List.setIfInBounds_toArray, List.set_cons_zero, List.set_cons_succ]
  refine' wpT_det (o := ⟨some 10, Op.load 2 (Operand.tmp 9), 2, "l02_matrices.go:274", #[{ on := 2, ground := Ground.data }], none⟩) rfl (by rfl) (by rfl) (fun w' hw' => ?_) ?_; rotate_left
  · have c0_ := Ext.cell hw' c0; have c1_ := Ext.cell hw' c1; have c2_ := Ext.cell hw' c2; have d0_ := Ext.cell hw' d0; have d1_ := Ext.cell hw' d1; have d2_ := Ext.cell hw' d2; go_simp <;> first | rfl | exact ⟨rfl, rfl⟩
  simp only [Act.put, List.setIfInBounds_toArray, List.set_cons_zero, List.set_cons_succ]
  refine' wpT_det (o := ⟨some 11, Op.binOp BinOp.quo 2 (Operand.tmp 8) (Operand.tmp 10) 2, 2, "l02_matrices.go:274", #[{ on := 1, ground := Ground.data }, { on := 3, ground := Ground.data }], none⟩) rfl (by rfl) (by rfl) (fun w' hw' => ?_) ?_; rotate_left
  · go_simp <;> first | rfl | exact ⟨rfl, rfl⟩
  simp only [Act.put, List.setIfInBounds_toArray, List.set_cons_zero, List.set_cons_succ]
  refine' wpT_det (o := ⟨some 12, Op.move (Operand.tmp 1), 2, "l02_matrices.go:274", #[], none⟩) rfl (by rfl) (by rfl) (fun w' hw' => ?_) ?_; rotate_left
  · go_simp <;> first | rfl | exact ⟨rfl, rfl⟩
  simp only [Act.put, List.setIfInBounds_toArray, List.set_cons_zero, List.set_cons_succ]
  refine' wpT_det (o := ⟨some 13, Op.fieldAddr 35 (Operand.tmp 3) 1, 0, "l02_matrices.go:274", #[], none⟩) rfl (by rfl) (by rfl) (fun w' hw' => ?_) ?_; rotate_left
  · go_simp <;> first | rfl | exact ⟨rfl, rfl⟩
  simp only [Act.put, List.setIfInBounds_toArray, List.set_cons_zero, List.set_cons_succ]
  refine' wpT_det (o := ⟨some 14, Op.load 2 (Operand.tmp 13), 2, "l02_matrices.go:274", #[{ on := 6, ground := Ground.data }], none⟩) rfl (by rfl) (by rfl) (fun w' hw' => ?_) ?_; rotate_left
  · have c0_ := Ext.cell hw' c0; have c1_ := Ext.cell hw' c1; have c2_ := Ext.cell hw' c2; have d0_ := Ext.cell hw' d0; have d1_ := Ext.cell hw' d1; have d2_ := Ext.cell hw' d2; go_simp <;> first | rfl | exact ⟨rfl, rfl⟩
  simp only [Act.put, List.setIfInBounds_toArray, List.set_cons_zero, List.set_cons_succ]
  refine' wpT_det (o := ⟨some 15, Op.binOp BinOp.quo 2 (Operand.tmp 12) (Operand.tmp 14) 2, 2, "l02_matrices.go:274", #[{ on := 5, ground := Ground.data }, { on := 7, ground := Ground.data }], none⟩) rfl (by rfl) (by rfl) (fun w' hw' => ?_) ?_; rotate_left
  · go_simp <;> first | rfl | exact ⟨rfl, rfl⟩
  simp only [Act.put, List.setIfInBounds_toArray, List.set_cons_zero, List.set_cons_succ]
  refine wpT_nd (o := ⟨some 16, Op.call { callee := Callee.value (Operand.func 105), args := #[Operand.tmp 7, Operand.tmp 11, Operand.tmp 15], argTypes := #[35, 2, 2] }, 39, "l02_matrices.go:274", #[{ on := 0, ground := Ground.data }, { on := 4, ground := Ground.data }, { on := 8, ground := Ground.data }], none⟩) rfl (by rfl) (by rfl) (fun w' hw' hF R__ hGo => ?_) ⟨_, rfl⟩ ?_
  · go_simp
    refine gives_enter rfl ?_
    refine (at_any R C p s n cap A xs _ g1 g3 hR hC Hn.out (hr.below hw'.undrew)).mono ?_
    rintro e w2 ⟨rfl, hx⟩
    exact ⟨_, rfl, hGo _ _ hx rfl trivial⟩
  intro v hv
  obtain rfl : v = (.float .f32 (at_ xs C p s)) := hv
  simp only [Act.put, List.setIfInBounds_toArray, List.set_cons_zero, List.set_cons_succ]
  refine' wpT_det (o := ⟨some 17, Op.load 35 (Operand.tmp 3), 35, "l02_matrices.go:274", #[], none⟩) rfl (by rfl) (by rfl) (fun w' hw' => ?_) ?_; rotate_left
  · have c0_ := Ext.cell hw' c0; have c1_ := Ext.cell hw' c1; have c2_ := Ext.cell hw' c2; have d0_ := Ext.cell hw' d0; have d1_ := Ext.cell hw' d1; have d2_ := Ext.cell hw' d2; go_simp <;> first | rfl | exact ⟨rfl, rfl⟩
  simp only [Act.put, List.setIfInBounds_toArray, List.set_cons_zero, List.set_cons_succ]
  refine' wpT_det (o := ⟨some 18, Op.move (Operand.tmp 0), 2, "l02_matrices.go:274", #[], none⟩) rfl (by rfl) (by rfl) (fun w' hw' => ?_) ?_; rotate_left
  · go_simp <;> first | rfl | exact ⟨rfl, rfl⟩
  simp only [Act.put, List.setIfInBounds_toArray, List.set_cons_zero, List.set_cons_succ]
  refine' wpT_det (o := ⟨some 19, Op.fieldAddr 35 (Operand.tmp 3) 0, 0, "l02_matrices.go:274", #[], none⟩) rfl (by rfl) (by rfl) (fun w' hw' => ?_) ?_; rotate_left
  · go_simp <;> first | rfl | exact ⟨rfl, rfl⟩
  simp only [Act.put, List.setIfInBounds_toArray, List.set_cons_zero, List.set_cons_succ]
  refine' wpT_det (o := ⟨some 20, Op.load 2 (Operand.tmp 19), 2, "l02_matrices.go:274", #[{ on := 12, ground := Ground.data }], none⟩) rfl (by rfl) (by rfl) (fun w' hw' => ?_) ?_; rotate_left
  · have c0_ := Ext.cell hw' c0; have c1_ := Ext.cell hw' c1; have c2_ := Ext.cell hw' c2; have d0_ := Ext.cell hw' d0; have d1_ := Ext.cell hw' d1; have d2_ := Ext.cell hw' d2; go_simp <;> first | rfl | exact ⟨rfl, rfl⟩
  simp only [Act.put, List.setIfInBounds_toArray, List.set_cons_zero, List.set_cons_succ]
  refine' wpT_det (o := ⟨some 21, Op.binOp BinOp.rem 2 (Operand.tmp 18) (Operand.tmp 20) 2, 2, "l02_matrices.go:274", #[{ on := 11, ground := Ground.data }, { on := 13, ground := Ground.data }], none⟩) rfl (by rfl) (by rfl) (fun w' hw' => ?_) ?_; rotate_left
  · go_simp <;> first | rfl | exact ⟨rfl, rfl⟩
  simp only [Act.put, List.setIfInBounds_toArray, List.set_cons_zero, List.set_cons_succ]
  refine' wpT_det (o := ⟨some 22, Op.move (Operand.tmp 1), 2, "l02_matrices.go:274", #[], none⟩) rfl (by rfl) (by rfl) (fun w' hw' => ?_) ?_; rotate_left
  · go_simp <;> first | rfl | exact ⟨rfl, rfl⟩
  simp only [Act.put, List.setIfInBounds_toArray, List.set_cons_zero, List.set_cons_succ]
  refine' wpT_det (o := ⟨some 23, Op.fieldAddr 35 (Operand.tmp 3) 1, 0, "l02_matrices.go:274", #[], none⟩) rfl (by rfl) (by rfl) (fun w' hw' => ?_) ?_; rotate_left
  · go_simp <;> first | rfl | exact ⟨rfl, rfl⟩
  simp only [Act.put, List.setIfInBounds_toArray, List.set_cons_zero, List.set_cons_succ]
  refine' wpT_det (o := ⟨some 24, Op.load 2 (Operand.tmp 23), 2, "l02_matrices.go:274", #[{ on := 16, ground := Ground.data }], none⟩) rfl (by rfl) (by rfl) (fun w' hw' => ?_) ?_; rotate_left
  · have c0_ := Ext.cell hw' c0; have c1_ := Ext.cell hw' c1; have c2_ := Ext.cell hw' c2; have d0_ := Ext.cell hw' d0; have d1_ := Ext.cell hw' d1; have d2_ := Ext.cell hw' d2; go_simp <;> first | rfl | exact ⟨rfl, rfl⟩
  simp only [Act.put, List.setIfInBounds_toArray, List.set_cons_zero, List.set_cons_succ]
  refine' wpT_det (o := ⟨some 25, Op.binOp BinOp.rem 2 (Operand.tmp 22) (Operand.tmp 24) 2, 2, "l02_matrices.go:274", #[{ on := 15, ground := Ground.data }, { on := 17, ground := Ground.data }], none⟩) rfl (by rfl) (by rfl) (fun w' hw' => ?_) ?_; rotate_left
  · go_simp <;> first | rfl | exact ⟨rfl, rfl⟩
  simp only [Act.put, List.setIfInBounds_toArray, List.set_cons_zero, List.set_cons_succ]
  refine wpT_nd (o := ⟨some 26, Op.call { callee := Callee.value (Operand.func 105), args := #[Operand.tmp 17, Operand.tmp 21, Operand.tmp 25], argTypes := #[35, 2, 2] }, 39, "l02_matrices.go:274", #[{ on := 10, ground := Ground.data }, { on := 14, ground := Ground.data }, { on := 18, ground := Ground.data }, { on := 9, ground := Ground.chain }], none⟩) rfl (by rfl) (by rfl) (fun w' hw' hF R__ hGo => ?_) ⟨_, rfl⟩ ?_
  · go_simp
    refine gives_enter rfl ?_
    refine (at_any R' C' q t m cap' B ys _ g2 g4 hR' hC' Hm.out (hq.below hw'.undrew)).mono ?_
    rintro e w2 ⟨rfl, hx⟩
    exact ⟨_, rfl, hGo _ _ hx rfl trivial⟩
  intro v hv
  obtain rfl : v = (.float .f32 (at_ ys C' q t)) := hv
  simp only [Act.put, List.setIfInBounds_toArray, List.set_cons_zero, List.set_cons_succ]
  refine wpT_nd (o := ⟨some 27, Op.call { callee := Callee.value (Operand.func 119), args := #[Operand.tmp 16, Operand.tmp 26], argTypes := #[39, 39] }, 39, "l02_matrices.go:274", #[{ on := 9, ground := Ground.data }, { on := 19, ground := Ground.data }, { on := 19, ground := Ground.chain }], none⟩) rfl (by rfl) (by rfl) (fun w' hw' hF R__ hGo => ?_) (by obtain ⟨r, hr⟩ : ∃ r, c32 r = (fmul (c32 (at_ xs C p s)) (c32 (at_ ys C' q t))) := ex_fop _ _ _; exact ⟨_, r, rfl, hr⟩) ?_
  · go_simp
    refine gives_enter rfl ?_
    refine (mul_any (at_ xs C p s) (at_ ys C' q t) _).mono ?_
    rintro e w2 ⟨r, rfl, hr, hx⟩
    exact ⟨_, rfl, hGo _ _ hx ⟨r, rfl, hr⟩ trivial⟩
  rintro _ ⟨f20, rfl, hf20⟩
  simp only [Act.put, List.setIfInBounds_toArray, List.set_cons_zero, List.set_cons_succ]
  refine' wpT_det (o := ⟨some 6, Op.assign (Operand.tmp 27), 39, "l02_matrices.go:274", #[{ on := 20, ground := Ground.data }, { on := 20, ground := Ground.chain }, { on := 0, ground := Ground.phase }, { on := 1, ground := Ground.phase }, { on := 2, ground := Ground.phase }, { on := 3, ground := Ground.phase }, { on := 4, ground := Ground.phase }, { on := 5, ground := Ground.phase }, { on := 6, ground := Ground.phase }, { on := 7, ground := Ground.phase }, { on := 8, ground := Ground.phase }, { on := 9, ground := Ground.phase }, { on := 10, ground := Ground.phase }, { on := 11, ground := Ground.phase }, { on := 12, ground := Ground.phase }, { on := 13, ground := Ground.phase }, { on := 14, ground := Ground.phase }, { on := 15, ground := Ground.phase }, { on := 16, ground := Ground.phase }, { on := 17, ground := Ground.phase }, { on := 18, ground := Ground.phase }, { on := 19, ground := Ground.phase }, { on := 20, ground := Ground.phase }], none⟩) rfl (by rfl) (by rfl) (fun w' hw' => ?_) ?_; rotate_left
  · go_simp <;> first | rfl | exact ⟨rfl, rfl⟩
  simp only [Act.put, List.setIfInBounds_toArray, List.set_cons_zero, List.set_cons_succ]
  refine wpT_nil (fun w' hw' hF => ?_)
  refine wpList_nil ?_
  go_wp2_with fail
  go_ret
  exact ⟨_, rfl, hf20, hw'.undrew⟩

theorem side_prod {r r' : Int} (h : inR 1 r 12 = true) (h' : inR 1 r' 12 = true) : IntKind.i64.wrap (r * r') = r * r' := (side_mul h h').2.2

set_option maxRecDepth 20000 in
set_option maxHeartbeats 8000000 in
theorem implKroneckerMatrix_any (r c : Int) (A : Option Addr) (n cap : Nat) (r' c' : Int) (B : Option Addr) (m cap' : Nat) (xs ys : List Nat) (w : World) (hr : Rds w A n (flts xs)) (hq : Rds w B m (flts ys)) :
    Calls Try.prog 70 #[.agg #[.int .i64 r, .int .i64 c, .slice A n cap], .agg #[.int .i64 r', .int .i64 c', .slice B m cap']] w (RetMD w (kronD r c r' c' xs ys)) := by
  have HL := Lib.hid hr.flen
  have HL' := Lib.hid hq.flen
  cases hv : isMat r c xs with
  | false =>
    have hd := kD_bad (r := r) (c := c) (r' := r') (c' := c') (xs := xs) (ys := ys) (by unfold kronB; rw [hv]; rfl)
    go_enter Try.func70, Try.ntmps70
    go_upto_region 1 with (fail)
    obtain ⟨w0, hw0⟩ : ∃ w0, w0 = (((w.alloc (.cells #[.int .i64 r, .int .i64 c, .slice A n cap] 35)).alloc (.cells #[.int .i64 r', .int .i64 c', .slice B m cap'] 35)).alloc (.cells #[.int .i64 0, .int .i64 0, .slice none 0 0] 35)) := ⟨_, rfl⟩
    have hx0 : Ext w w0 := by subst hw0; exact (((Ext.refl _).alloc _).alloc _).alloc _
    have ba : Blk w0 (w.heap.size) #[.int .i64 r, .int .i64 c, .slice A n cap] 35 := by subst hw0; exact (Blk.new w _ _).ext (((Ext.refl _).alloc _).alloc _)
    have bb : Blk w0 (w.heap.size + 1) #[.int .i64 r', .int .i64 c', .slice B m cap'] 35 := by subst hw0; simpa using (Blk.new (w.alloc (.cells #[.int .i64 r, .int .i64 c, .slice A n cap] 35)) _ _).ext ((Ext.refl _).alloc _)
    have b0 : Blk w0 (w.heap.size + 1 + 1) #[.int .i64 0, .int .i64 0, .slice none 0 0] 35 := by subst hw0; simpa using (Blk.new ((w.alloc (.cells #[.int .i64 r, .int .i64 c, .slice A n cap] 35)).alloc (.cells #[.int .i64 r', .int .i64 c', .slice B m cap'] 35)) _ _)
    rw [← hw0]
    clear hw0
    obtain ⟨c0, c1, c2, hr1⟩ := MAt.blk ba (hr.below hx0)
    go_wp2_with fail
    refine (ValidMatrix_any r c A n cap xs _ hr1).mono ?_
    rintro e w1 ⟨rfl, hx⟩
    rw [hv]
    replace b0 := b0.ext hx
    replace hx0 := hx0.trans hx
    clear c0 c1 c2 hx
    have y0 : w1.cell? ⟨w.heap.size + 1 + 1, 0, none⟩ = some (.int .i64 0) := b0.cell 0 rfl
    have y1 : w1.cell? ⟨w.heap.size + 1 + 1, 1, none⟩ = some (.int .i64 0) := b0.cell 1 rfl
    have y2 : w1.cell? ⟨w.heap.size + 1 + 1, 2, none⟩ = some (.slice none 0 0) := b0.cell 2 rfl
    have q0 := b0.free 0
    have q1 := b0.free 1
    have q2 := b0.free 2
    have hq := b0.lt
    go_wp2_with fail
    obtain ⟨k1, k2, k3⟩ := Own.resM (w := w) (u := .int .i64 0) (v := .int .i64 0) (x := .slice none 0 0) b0 (own_nil _ w.heap.size _) hx0 (by omega)
    exact bodyPost_ret (resMB (x := .bool false) rfl rfl rfl k3) rfl (RetMD.bad hd k2)
  | true =>
    cases hv' : isMat r' c' ys with
    | false =>
      have hd := kD_bad (r := r) (c := c) (r' := r') (c' := c') (xs := xs) (ys := ys) (by unfold kronB; rw [hv, hv']; rfl)
      go_enter Try.func70, Try.ntmps70
      go_upto_region 1 with (fail)
      obtain ⟨w0, hw0⟩ : ∃ w0, w0 = (((w.alloc (.cells #[.int .i64 r, .int .i64 c, .slice A n cap] 35)).alloc (.cells #[.int .i64 r', .int .i64 c', .slice B m cap'] 35)).alloc (.cells #[.int .i64 0, .int .i64 0, .slice none 0 0] 35)) := ⟨_, rfl⟩
      have hx0 : Ext w w0 := by subst hw0; exact (((Ext.refl _).alloc _).alloc _).alloc _
      have ba : Blk w0 (w.heap.size) #[.int .i64 r, .int .i64 c, .slice A n cap] 35 := by subst hw0; exact (Blk.new w _ _).ext (((Ext.refl _).alloc _).alloc _)
      have bb : Blk w0 (w.heap.size + 1) #[.int .i64 r', .int .i64 c', .slice B m cap'] 35 := by subst hw0; simpa using (Blk.new (w.alloc (.cells #[.int .i64 r, .int .i64 c, .slice A n cap] 35)) _ _).ext ((Ext.refl _).alloc _)
      have b0 : Blk w0 (w.heap.size + 1 + 1) #[.int .i64 0, .int .i64 0, .slice none 0 0] 35 := by subst hw0; simpa using (Blk.new ((w.alloc (.cells #[.int .i64 r, .int .i64 c, .slice A n cap] 35)).alloc (.cells #[.int .i64 r', .int .i64 c', .slice B m cap'] 35)) _ _)
      rw [← hw0]
      clear hw0
      obtain ⟨c0, c1, c2, hr1⟩ := MAt.blk ba (hr.below hx0)
      go_wp2_with fail
      refine (ValidMatrix_any r c A n cap xs _ hr1).mono ?_
      rintro e w1 ⟨rfl, hx⟩
      rw [hv]
      replace b0 := b0.ext hx
      replace bb := bb.ext hx
      replace hx0 := hx0.trans hx
      clear c0 c1 c2 hx
      obtain ⟨d0, d1, d2, hq1⟩ := MAt.blk bb (hq.below hx0)
      go_wp2_with fail
      refine (ValidMatrix_any r' c' B m cap' ys _ hq1).mono ?_
      rintro e w2 ⟨rfl, hx⟩
      rw [hv']
      replace b0 := b0.ext hx
      replace hx0 := hx0.trans hx
      clear d0 d1 d2 hx
      have y0 : w2.cell? ⟨w.heap.size + 1 + 1, 0, none⟩ = some (.int .i64 0) := b0.cell 0 rfl
      have y1 : w2.cell? ⟨w.heap.size + 1 + 1, 1, none⟩ = some (.int .i64 0) := b0.cell 1 rfl
      have y2 : w2.cell? ⟨w.heap.size + 1 + 1, 2, none⟩ = some (.slice none 0 0) := b0.cell 2 rfl
      have q0 := b0.free 0
      have q1 := b0.free 1
      have q2 := b0.free 2
      have hq := b0.lt
      go_wp2_with fail
      obtain ⟨k1, k2, k3⟩ := Own.resM (w := w) (u := .int .i64 0) (v := .int .i64 0) (x := .slice none 0 0) b0 (own_nil _ w.heap.size _) hx0 (by omega)
      exact bodyPost_ret (resMB (x := .bool false) rfl rfl rfl k3) rfl (RetMD.bad hd k2)
    | true =>
      obtain ⟨s1, s2⟩ := mat_sides hv
      obtain ⟨s3, s4⟩ := mat_sides hv'
      have hwr := side_prod s1 s3
      have hwc := side_prod s2 s4
      cases ht1 : inR 1 (r * r') 12 with
      | false =>
        have hd := kD_bad (r := r) (c := c) (r' := r') (c' := c') (xs := xs) (ys := ys) (by unfold kronB; rw [hv, hv', ht1]; rfl)
        go_enter Try.func70, Try.ntmps70
        go_upto_region 1 with (fail)
        obtain ⟨w0, hw0⟩ : ∃ w0, w0 = (((w.alloc (.cells #[.int .i64 r, .int .i64 c, .slice A n cap] 35)).alloc (.cells #[.int .i64 r', .int .i64 c', .slice B m cap'] 35)).alloc (.cells #[.int .i64 0, .int .i64 0, .slice none 0 0] 35)) := ⟨_, rfl⟩
        have hx0 : Ext w w0 := by subst hw0; exact (((Ext.refl _).alloc _).alloc _).alloc _
        have ba : Blk w0 (w.heap.size) #[.int .i64 r, .int .i64 c, .slice A n cap] 35 := by subst hw0; exact (Blk.new w _ _).ext (((Ext.refl _).alloc _).alloc _)
        have bb : Blk w0 (w.heap.size + 1) #[.int .i64 r', .int .i64 c', .slice B m cap'] 35 := by subst hw0; simpa using (Blk.new (w.alloc (.cells #[.int .i64 r, .int .i64 c, .slice A n cap] 35)) _ _).ext ((Ext.refl _).alloc _)
        have b0 : Blk w0 (w.heap.size + 1 + 1) #[.int .i64 0, .int .i64 0, .slice none 0 0] 35 := by subst hw0; simpa using (Blk.new ((w.alloc (.cells #[.int .i64 r, .int .i64 c, .slice A n cap] 35)).alloc (.cells #[.int .i64 r', .int .i64 c', .slice B m cap'] 35)) _ _)
        rw [← hw0]
        clear hw0
        obtain ⟨c0, c1, c2, hr1⟩ := MAt.blk ba (hr.below hx0)
        go_wp2_with fail
        refine (ValidMatrix_any r c A n cap xs _ hr1).mono ?_
        rintro e w1 ⟨rfl, hx⟩
        rw [hv]
        replace b0 := b0.ext hx
        replace ba := ba.ext hx
        replace bb := bb.ext hx
        replace hx0 := hx0.trans hx
        clear c0 c1 c2 hr1 hx
        obtain ⟨d0, d1, d2, hq1⟩ := MAt.blk bb (hq.below hx0)
        go_wp2_with fail
        refine (ValidMatrix_any r' c' B m cap' ys _ hq1).mono ?_
        rintro e w2 ⟨rfl, hx⟩
        rw [hv']
        replace b0 := b0.ext hx
        replace ba := ba.ext hx
        replace bb := bb.ext hx
        replace hx0 := hx0.trans hx
        clear d0 d1 d2 hq1 hx
        obtain ⟨c0, c1, c2, hr1⟩ := MAt.blk ba (hr.below hx0)
        obtain ⟨d0, d1, d2, hq1⟩ := MAt.blk bb (hq.below hx0)
        go_wp2_with fail
        refine (isSide_any _ _).mono ?_
        rintro e w9 ⟨rfl, rfl⟩
        rw [ht1]
        clear c0 c1 c2 d0 d1 d2
        have y0 : w2.cell? ⟨w.heap.size + 1 + 1, 0, none⟩ = some (.int .i64 0) := b0.cell 0 rfl
        have y1 : w2.cell? ⟨w.heap.size + 1 + 1, 1, none⟩ = some (.int .i64 0) := b0.cell 1 rfl
        have y2 : w2.cell? ⟨w.heap.size + 1 + 1, 2, none⟩ = some (.slice none 0 0) := b0.cell 2 rfl
        have q0 := b0.free 0
        have q1 := b0.free 1
        have q2 := b0.free 2
        have hq := b0.lt
        go_wp2_with fail
        obtain ⟨k1, k2, k3⟩ := Own.resM (w := w) (u := .int .i64 0) (v := .int .i64 0) (x := .slice none 0 0) b0 (own_nil _ w.heap.size _) hx0 (by omega)
        exact bodyPost_ret (resMB (x := .bool false) rfl rfl rfl k3) rfl (RetMD.bad hd k2)
      | true =>
        cases ht2 : inR 1 (c * c') 12 with
        | false =>
          have hd := kD_bad (r := r) (c := c) (r' := r') (c' := c') (xs := xs) (ys := ys) (by unfold kronB; rw [hv, hv', ht1, ht2]; rfl)
          go_enter Try.func70, Try.ntmps70
          go_upto_region 1 with (fail)
          obtain ⟨w0, hw0⟩ : ∃ w0, w0 = (((w.alloc (.cells #[.int .i64 r, .int .i64 c, .slice A n cap] 35)).alloc (.cells #[.int .i64 r', .int .i64 c', .slice B m cap'] 35)).alloc (.cells #[.int .i64 0, .int .i64 0, .slice none 0 0] 35)) := ⟨_, rfl⟩
          have hx0 : Ext w w0 := by subst hw0; exact (((Ext.refl _).alloc _).alloc _).alloc _
          have ba : Blk w0 (w.heap.size) #[.int .i64 r, .int .i64 c, .slice A n cap] 35 := by subst hw0; exact (Blk.new w _ _).ext (((Ext.refl _).alloc _).alloc _)
          have bb : Blk w0 (w.heap.size + 1) #[.int .i64 r', .int .i64 c', .slice B m cap'] 35 := by subst hw0; simpa using (Blk.new (w.alloc (.cells #[.int .i64 r, .int .i64 c, .slice A n cap] 35)) _ _).ext ((Ext.refl _).alloc _)
          have b0 : Blk w0 (w.heap.size + 1 + 1) #[.int .i64 0, .int .i64 0, .slice none 0 0] 35 := by subst hw0; simpa using (Blk.new ((w.alloc (.cells #[.int .i64 r, .int .i64 c, .slice A n cap] 35)).alloc (.cells #[.int .i64 r', .int .i64 c', .slice B m cap'] 35)) _ _)
          rw [← hw0]
          clear hw0
          obtain ⟨c0, c1, c2, hr1⟩ := MAt.blk ba (hr.below hx0)
          go_wp2_with fail
          refine (ValidMatrix_any r c A n cap xs _ hr1).mono ?_
          rintro e w1 ⟨rfl, hx⟩
          rw [hv]
          replace b0 := b0.ext hx
          replace ba := ba.ext hx
          replace bb := bb.ext hx
          replace hx0 := hx0.trans hx
          clear c0 c1 c2 hr1 hx
          obtain ⟨d0, d1, d2, hq1⟩ := MAt.blk bb (hq.below hx0)
          go_wp2_with fail
          refine (ValidMatrix_any r' c' B m cap' ys _ hq1).mono ?_
          rintro e w2 ⟨rfl, hx⟩
          rw [hv']
          replace b0 := b0.ext hx
          replace ba := ba.ext hx
          replace bb := bb.ext hx
          replace hx0 := hx0.trans hx
          clear d0 d1 d2 hq1 hx
          obtain ⟨c0, c1, c2, hr1⟩ := MAt.blk ba (hr.below hx0)
          obtain ⟨d0, d1, d2, hq1⟩ := MAt.blk bb (hq.below hx0)
          go_wp2_with fail
          refine (isSide_any _ _).mono ?_
          rintro e w9 ⟨rfl, rfl⟩
          rw [ht1]
          go_wp2_with fail
          refine (isSide_any _ _).mono ?_
          rintro e w9 ⟨rfl, rfl⟩
          rw [ht2]
          clear c0 c1 c2 d0 d1 d2
          have y0 : w2.cell? ⟨w.heap.size + 1 + 1, 0, none⟩ = some (.int .i64 0) := b0.cell 0 rfl
          have y1 : w2.cell? ⟨w.heap.size + 1 + 1, 1, none⟩ = some (.int .i64 0) := b0.cell 1 rfl
          have y2 : w2.cell? ⟨w.heap.size + 1 + 1, 2, none⟩ = some (.slice none 0 0) := b0.cell 2 rfl
          have q0 := b0.free 0
          have q1 := b0.free 1
          have q2 := b0.free 2
          have hq := b0.lt
          go_wp2_with fail
          obtain ⟨k1, k2, k3⟩ := Own.resM (w := w) (u := .int .i64 0) (v := .int .i64 0) (x := .slice none 0 0) b0 (own_nil _ w.heap.size _) hx0 (by omega)
          exact bodyPost_ret (resMB (x := .bool false) rfl rfl rfl k3) rfl (RetMD.bad hd k2)
        | true =>
          obtain ⟨R, C, rfl, rfl, p1, p2, p3, p4, p5⟩ := mat_nat hv
          obtain ⟨R', C', rfl, rfl, q1, q2, q3, q4, q5⟩ := mat_nat hv'
          have eR : (R : Int) * R' = ((R * R' : Nat) : Int) := by simp
          have eC : (C : Int) * C' = ((C * C' : Nat) : Int) := by simp
          have hkb : kronB R C R' C' xs ys = true := by unfold kronB; rw [hv, hv', ht1, ht2]; rfl
          obtain ⟨d, hd⟩ : ∃ d, d = kronD R C R' C' xs ys := ⟨_, rfl⟩
          have hd' : d = giveM ((R * R' : Nat) : Int) ((C * C' : Nat) : Int) (tab (C * C') (kronF xs ys C R' C') ((R * R') * (C * C'))) := by
            rw [hd]; unfold kronD; rw [hkb, if_pos rfl, eR, eC]; rfl
          rw [← hd]
          replace hwr : IntKind.i64.wrap ((R : Int) * R') = ((R * R' : Nat) : Int) := by rw [hwr, eR]
          replace hwc : IntKind.i64.wrap ((C : Int) * C') = ((C * C' : Nat) : Int) := by rw [hwc, eC]
          rw [eR] at ht1
          rw [eC] at ht2
          have h12 : R * R' ≤ 12 := by have := inR_iff.1 ht1; omega
          have h12' : C * C' ≤ 12 := by have := inR_iff.1 ht2; omega
          obtain ⟨S, hS⟩ : ∃ S, S = R * R' := ⟨_, rfl⟩
          obtain ⟨T, hT⟩ : ∃ T, T = C * C' := ⟨_, rfl⟩
          rw [← hS] at hwr ht1 h12
          rw [← hT] at hwc ht2 h12'
          rw [← hS, ← hT] at hd'
          have HD := Lib.hid hd'
          have HS := Lib.hid hS
          have HT := Lib.hid hT
          have Hn : Hid (n = R * C) := by have := HL.out; show n = _; omega
          have Hm : Hid (m = R' * C') := by have := HL'.out; show m = _; omega
          clear hd hd' eR eC hS hT p5 q5 hkb s1 s2 s3 s4
          go_enter Try.func70, Try.ntmps70
          go_upto_region 1 with (fail)
          obtain ⟨w0, hw0⟩ : ∃ w0, w0 = (((w.alloc (.cells #[.int .i64 R, .int .i64 C, .slice A n cap] 35)).alloc (.cells #[.int .i64 R', .int .i64 C', .slice B m cap'] 35)).alloc (.cells #[.int .i64 0, .int .i64 0, .slice none 0 0] 35)) := ⟨_, rfl⟩
          have hx0 : Ext w w0 := by subst hw0; exact (((Ext.refl _).alloc _).alloc _).alloc _
          have ba : Blk w0 (w.heap.size) #[.int .i64 R, .int .i64 C, .slice A n cap] 35 := by subst hw0; exact (Blk.new w _ _).ext (((Ext.refl _).alloc _).alloc _)
          have bb : Blk w0 (w.heap.size + 1) #[.int .i64 R', .int .i64 C', .slice B m cap'] 35 := by subst hw0; simpa using (Blk.new (w.alloc (.cells #[.int .i64 R, .int .i64 C, .slice A n cap] 35)) _ _).ext ((Ext.refl _).alloc _)
          have b0 : Blk w0 (w.heap.size + 1 + 1) #[.int .i64 0, .int .i64 0, .slice none 0 0] 35 := by subst hw0; simpa using (Blk.new ((w.alloc (.cells #[.int .i64 R, .int .i64 C, .slice A n cap] 35)).alloc (.cells #[.int .i64 R', .int .i64 C', .slice B m cap'] 35)) _ _)
          rw [← hw0]
          clear hw0
          obtain ⟨c0, c1, c2, hr1⟩ := MAt.blk ba (hr.below hx0)
          go_wp2_with fail
          refine (ValidMatrix_any _ _ A n cap xs _ hr1).mono ?_
          rintro e w1 ⟨rfl, hx⟩
          rw [hv]
          replace b0 := b0.ext hx
          replace ba := ba.ext hx
          replace bb := bb.ext hx
          replace hx0 := hx0.trans hx
          clear c0 c1 c2 hr1 hx
          obtain ⟨d0, d1, d2, hq1⟩ := MAt.blk bb (hq.below hx0)
          go_wp2_with fail
          refine (ValidMatrix_any _ _ B m cap' ys _ hq1).mono ?_
          rintro e w2 ⟨rfl, hx⟩
          rw [hv']
          replace b0 := b0.ext hx
          replace ba := ba.ext hx
          replace bb := bb.ext hx
          replace hx0 := hx0.trans hx
          clear d0 d1 d2 hq1 hx
          obtain ⟨c0, c1, c2, hr1⟩ := MAt.blk ba (hr.below hx0)
          obtain ⟨d0, d1, d2, hq1⟩ := MAt.blk bb (hq.below hx0)
          go_wp2_with fail
          refine (isSide_any _ _).mono ?_
          rintro e w9 ⟨rfl, rfl⟩
          rw [ht1]
          go_wp2_with fail
          refine (isSide_any _ _).mono ?_
          rintro e w9 ⟨rfl, rfl⟩
          rw [ht2]
          go_wp2_with fail
          refine (made_any 146 _ (enters_of Try.func146 (by kernel_rfl) rfl) S T h12 h12' (kronF xs ys C R' C') _ (fun i k W hi hk hW => ?_) (fun i k _ _ => ex_fop _ _ _)).mono ?_
          · exact kron1_any _ _ R C R' C' i k n m cap cap' A B xs ys W (by rw [← HS.out]; exact hi) (by rw [← HT.out]; exact hk) (by rw [← HS.out]; exact h12) (by rw [← HT.out]; exact h12') p2 p4 q2 q4 Hn.out Hm.out ((MAt.blk ba (hr.below hx0)).ext hW) ((MAt.blk bb (hq.below hx0)).ext hW)
          rintro e w4 ⟨A3, k3, zs, hz, rfl, ho, hx⟩
          replace b0 := b0.ext hx
          have ho' := ho.base hx0.size
          replace hx0 := hx0.trans hx
          clear c0 c1 c2 d0 d1 d2 hx ho
          go_wp2_with fail
          refine (valid_any w.heap.size S T A3 (S * T) k3 zs _ ho' hx0.size).mono ?_
          rw [hz, ← HD.out]
          rintro e w5 ⟨A2, k2, rfl, ho, hx⟩
          replace b0 := b0.ext hx
          have y0 : w5.cell? ⟨w.heap.size + 1 + 1, 0, none⟩ = some (.int .i64 0) := b0.cell 0 rfl
          have y1 : w5.cell? ⟨w.heap.size + 1 + 1, 1, none⟩ = some (.int .i64 0) := b0.cell 1 rfl
          have y2 : w5.cell? ⟨w.heap.size + 1 + 1, 2, none⟩ = some (.slice none 0 0) := b0.cell 2 rfl
          have q0 := b0.free 0
          have q1 := b0.free 1
          have q2 := b0.free 2
          have hq := b0.lt
          go_wp2_with fail
          obtain ⟨k1, k2', k3⟩ := Own.resM (w := w) (u := .int .i64 d.r) (v := .int .i64 d.c) (x := .slice A2 d.xs.length k2) b0 ho (hx0.trans hx) (by omega)
          exact bodyPost_ret (resMB (x := .bool d.ok) rfl rfl rfl k3) rfl ⟨A2, k2, rfl, k1, k2'⟩

end Go.Proofs.Ytgjfdfmbknmpaaa
