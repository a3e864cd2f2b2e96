import Derived.Test.YtgjfdfmbknmpaaaT1
import Derived.Test.YtgjfdfmbknmpaaaM7
set_option linter.unusedVariables false
set_option linter.unusedSimpArgs false
namespace Go.Proofs.Ytgjfdfmbknmpaaa
open Go.RowKit

theorem at_flat {C i : Nat} (xs : List Nat) : at_ xs C (i / C) (i % C) = rdf xs i := by
  unfold at_
  congr 1
  have := Nat.div_add_mod i C
  rw [Nat.mul_comm] at this
  omega
theorem giveM_tab {r c : Int} {ys : List Nat} {L : List (Option Nat)} (h : cfs ys = L) : giveM r c (cfs ys) = giveM r c L := by rw [h]

def weighF (xs ys : List Nat) (x y C : Nat) (i k : Nat) : Option Nat := fadd (fmul (c32 x) (c32 (at_ xs C i k))) (fmul (c32 y) (c32 (at_ ys C i k)))
/-- What WeighMatrices answers. -/
def weighD (r c r' c' : Int) (x y : Nat) (xs ys : List Nat) : MD := if isMat r c xs && isMat r' c' ys && decide (r = r') && decide (c = c') && (isFin .f32 x && isFin .f32 y) then giveM r c (tab c.toNat (weighF xs ys x y c.toNat) (r.toNat * c.toNat)) else MD.bad

set_option maxRecDepth 20000 in
set_option maxHeartbeats 2000000 in
theorem weigh1_any (bx b by_ b' x y R C i k n m cap cap' : Nat) (A B : Option Addr) (xs ys : List Nat) (w : World) (hi : i < R) (hk : k < C) (hR : R ≤ 12) (hC : C ≤ 12) (hn : n = R * C) (hm : m = R * C) (hx : w.cell? ⟨bx, 0, none⟩ = some (.float .f32 x)) (hy : w.cell? ⟨by_, 0, none⟩ = some (.float .f32 y)) (ha : MAt w b R C A n cap xs) (hb : MAt w b' R C B m cap' ys) :
    Calls Try.prog 182 #[.int .i64 i, .int .i64 k, .pointer (some ⟨bx, 0, none⟩), .pointer (some ⟨b, 0, none⟩), .pointer (some ⟨by_, 0, none⟩), .pointer (some ⟨b', 0, none⟩)] w (RetF w (weighF xs ys x y C i k)) := by
  obtain ⟨c0, c1, c2, hr⟩ := ha
  obtain ⟨d0, d1, d2, hq⟩ := hb
  have Hn := Lib.hid hn
  have Hm := Lib.hid hm
  clear hn hm
  go_enter Try.func182, Try.ntmps182
  go_upto_region 1 with (fail)
  refine wp_region_T (cs := []) [0, 1, 2, 3, 4, 5, 6, 7, 8, 9, 10, 11, 12, 13] [] [4, 5, 10, 11, 12] [] (fun i__ v => match i__ with | 4 => v = (.float .f32 (at_ xs C i k)) | 5 => ∃ r, v = .float .f32 r ∧ c32 r = (fmul (c32 x) (c32 (at_ xs C i k))) | 10 => v = (.float .f32 (at_ ys C i k)) | 11 => ∃ r, v = .float .f32 r ∧ c32 r = (fmul (c32 y) (c32 (at_ ys C i k))) | 12 => ∃ r, v = .float .f32 r ∧ c32 r = (weighF xs ys x y C i k) | _ => False) (fun _ _ _ => True) (by kernel_rfl) (by kernel_rfl) (fun _ _ _ _ _ _ => trivial) ?_
  refine' wpT_det (o := ⟨some 9, Op.load 39 (Operand.tmp 2), 39, "l02_matrices.go:178", #[], none⟩) rfl (by rfl) (by rfl) (fun w' hw' => ?_) ?_; rotate_left
  · have hx_ := Ext.cell hw' hx; have hy_ := Ext.cell hw' hy; have c0_ := Ext.cell hw' c0; have c1_ := Ext.cell hw' c1; have c2_ := Ext.cell hw' c2; have d0_ := Ext.cell hw' d0; have d1_ := Ext.cell hw' d1; have d2_ := Ext.cell hw' d2; go_simp <;> first | rfl | exact ⟨rfl, rfl⟩
  simp only [Act.put, List.setIfInBounds_toArray, List.set_cons_zero, List.set_cons_succ]
  refine' wpT_det (o := ⟨some 10, Op.load 35 (Operand.tmp 3), 35, "l02_matrices.go:178", #[], none⟩) rfl (by rfl) (by rfl) (fun w' hw' => ?_) ?_; rotate_left
  · have hx_ := Ext.cell hw' hx; have hy_ := Ext.cell hw' hy; have c0_ := Ext.cell hw' c0; have c1_ := Ext.cell hw' c1; have c2_ := Ext.cell hw' c2; have d0_ := Ext.cell hw' d0; have d1_ := Ext.cell hw' d1; have d2_ := Ext.cell hw' d2; go_simp <;> first | rfl | exact ⟨rfl, rfl⟩
  simp only [Act.put, List.setIfInBounds_toArray, List.set_cons_zero, List.set_cons_succ]
  refine' wpT_det (o := ⟨some 11, Op.move (Operand.tmp 0), 2, "l02_matrices.go:178", #[], none⟩) rfl (by rfl) (by rfl) (fun w' hw' => ?_) ?_; rotate_left
  · go_simp <;> first | rfl | exact ⟨rfl, rfl⟩
  simp only [Act.put, List.setIfInBounds_toArray, List.set_cons_zero, List.set_cons_succ]
  refine' wpT_det (o := ⟨some 12, Op.move (Operand.tmp 1), 2, "l02_matrices.go:178", #[], none⟩) rfl (by rfl) (by rfl) (fun w' hw' => ?_) ?_; rotate_left
  · go_simp <;> first | rfl | exact ⟨rfl, rfl⟩
  simp only [Act.put, List.setIfInBounds_toArray, List.set_cons_zero, List.set_cons_succ]
  refine wpT_nd (o := ⟨some 13, Op.call { callee := Callee.value (Operand.func 105), args := #[Operand.tmp 10, Operand.tmp 11, Operand.tmp 12], argTypes := #[35, 2, 2] }, 39, "l02_matrices.go:178", #[{ on := 1, ground := Ground.data }, { on := 2, ground := Ground.data }, { on := 3, ground := Ground.data }], none⟩) rfl (by rfl) (by rfl) (fun w' hw' hF R__ hGo => ?_) ⟨_, rfl⟩ ?_
  · go_simp
    refine gives_enter rfl ?_
    refine (at_any R C i k n cap A xs _ hi hk hR hC Hn.out (hr.below hw'.undrew)).mono ?_
    rintro e w2 ⟨rfl, hx⟩
    exact ⟨_, rfl, hGo _ _ hx rfl trivial⟩
  intro v hv
  obtain rfl : v = (.float .f32 (at_ xs C i k)) := hv
  simp only [Act.put, List.setIfInBounds_toArray, List.set_cons_zero, List.set_cons_succ]
  refine wpT_nd (o := ⟨some 14, Op.call { callee := Callee.value (Operand.func 119), args := #[Operand.tmp 9, Operand.tmp 13], argTypes := #[39, 39] }, 39, "l02_matrices.go:178", #[{ on := 0, ground := Ground.data }, { on := 4, ground := Ground.data }, { on := 4, ground := Ground.chain }], none⟩) rfl (by rfl) (by rfl) (fun w' hw' hF R__ hGo => ?_) (by obtain ⟨r, hr⟩ : ∃ r, c32 r = (fmul (c32 x) (c32 (at_ xs C i k))) := ex_fop _ _ _; exact ⟨_, r, rfl, hr⟩) ?_
  · go_simp
    refine gives_enter rfl ?_
    refine (mul_any x (at_ xs C i k) _).mono ?_
    rintro e w2 ⟨r, rfl, hr, hx⟩
    exact ⟨_, rfl, hGo _ _ hx ⟨r, rfl, hr⟩ trivial⟩
  rintro _ ⟨f5, rfl, hf5⟩
  simp only [Act.put, List.setIfInBounds_toArray, List.set_cons_zero, List.set_cons_succ]
  refine' wpT_det (o := ⟨some 15, Op.load 39 (Operand.tmp 4), 39, "l02_matrices.go:178", #[], none⟩) rfl (by rfl) (by rfl) (fun w' hw' => ?_) ?_; rotate_left
  · have hx_ := Ext.cell hw' hx; have hy_ := Ext.cell hw' hy; have c0_ := Ext.cell hw' c0; have c1_ := Ext.cell hw' c1; have c2_ := Ext.cell hw' c2; have d0_ := Ext.cell hw' d0; have d1_ := Ext.cell hw' d1; have d2_ := Ext.cell hw' d2; go_simp <;> first | rfl | exact ⟨rfl, rfl⟩
  simp only [Act.put, List.setIfInBounds_toArray, List.set_cons_zero, List.set_cons_succ]
  refine' wpT_det (o := ⟨some 16, Op.load 35 (Operand.tmp 5), 35, "l02_matrices.go:178", #[], none⟩) rfl (by rfl) (by rfl) (fun w' hw' => ?_) ?_; rotate_left
  · have hx_ := Ext.cell hw' hx; have hy_ := Ext.cell hw' hy; have c0_ := Ext.cell hw' c0; have c1_ := Ext.cell hw' c1; have c2_ := Ext.cell hw' c2; have d0_ := Ext.cell hw' d0; have d1_ := Ext.cell hw' d1; have d2_ := Ext.cell hw' d2; go_simp <;> first | rfl | exact ⟨rfl, rfl⟩
  simp only [Act.put, List.setIfInBounds_toArray, List.set_cons_zero, List.set_cons_succ]
  refine' wpT_det (o := ⟨some 17, Op.move (Operand.tmp 0), 2, "l02_matrices.go:178", #[], none⟩) rfl (by rfl) (by rfl) (fun w' hw' => ?_) ?_; rotate_left
  · go_simp <;> first | rfl | exact ⟨rfl, rfl⟩
  simp only [Act.put, List.setIfInBounds_toArray, List.set_cons_zero, List.set_cons_succ]
  refine' wpT_det (o := ⟨some 18, Op.move (Operand.tmp 1), 2, "l02_matrices.go:178", #[], none⟩) rfl (by rfl) (by rfl) (fun w' hw' => ?_) ?_; rotate_left
  · go_simp <;> first | rfl | exact ⟨rfl, rfl⟩
  simp only [Act.put, List.setIfInBounds_toArray, List.set_cons_zero, List.set_cons_succ]
  refine wpT_nd (o := ⟨some 19, Op.call { callee := Callee.value (Operand.func 105), args := #[Operand.tmp 16, Operand.tmp 17, Operand.tmp 18], argTypes := #[35, 2, 2] }, 39, "l02_matrices.go:178", #[{ on := 7, ground := Ground.data }, { on := 8, ground := Ground.data }, { on := 9, ground := Ground.data }, { on := 5, ground := Ground.chain }], none⟩) rfl (by rfl) (by rfl) (fun w' hw' hF R__ hGo => ?_) ⟨_, rfl⟩ ?_
  · go_simp
    refine gives_enter rfl ?_
    refine (at_any R C i k m cap' B ys _ hi hk hR hC Hm.out (hq.below hw'.undrew)).mono ?_
    rintro e w2 ⟨rfl, hx⟩
    exact ⟨_, rfl, hGo _ _ hx rfl trivial⟩
  intro v hv
  obtain rfl : v = (.float .f32 (at_ ys C i k)) := hv
  simp only [Act.put, List.setIfInBounds_toArray, List.set_cons_zero, List.set_cons_succ]
  refine wpT_nd (o := ⟨some 20, Op.call { callee := Callee.value (Operand.func 119), args := #[Operand.tmp 15, Operand.tmp 19], argTypes := #[39, 39] }, 39, "l02_matrices.go:178", #[{ on := 6, ground := Ground.data }, { on := 10, ground := Ground.data }, { on := 10, ground := Ground.chain }], none⟩) rfl (by rfl) (by rfl) (fun w' hw' hF R__ hGo => ?_) (by obtain ⟨r, hr⟩ : ∃ r, c32 r = (fmul (c32 y) (c32 (at_ ys C i k))) := ex_fop _ _ _; exact ⟨_, r, rfl, hr⟩) ?_
  · go_simp
    refine gives_enter rfl ?_
    refine (mul_any y (at_ ys C i k) _).mono ?_
    rintro e w2 ⟨r, rfl, hr, hx⟩
    exact ⟨_, rfl, hGo _ _ hx ⟨r, rfl, hr⟩ trivial⟩
  rintro _ ⟨f11, rfl, hf11⟩
  simp only [Act.put, List.setIfInBounds_toArray, List.set_cons_zero, List.set_cons_succ]
  refine wpT_nd (o := ⟨some 21, Op.binOp BinOp.add 39 (Operand.tmp 14) (Operand.tmp 20) 39, 39, "l02_matrices.go:178", #[{ on := 5, ground := Ground.data }, { on := 11, ground := Ground.data }], none⟩) rfl (by rfl) (by rfl) (fun w' hw' hF R__ hGo => ?_) (by obtain ⟨r, hr⟩ := ex_d .add ((by rw [hf5, hf11]; rfl) : fop .add .f32 (c32 (f5)) (c32 (f11)) = (weighF xs ys x y C i k)); exact ⟨_, r, rfl, hr⟩) ?_
  · exact gives_f .add (.inl rfl) _ _ _ _ rfl (f5) (f11) rfl rfl (weighF xs ys x y C i k) (by rw [hf5, hf11]; rfl) (fun r w2 hx hc => hGo _ _ hx ⟨r, rfl, hc⟩ trivial)
  rintro _ ⟨f12, rfl, hf12⟩
  simp only [Act.put, List.setIfInBounds_toArray, List.set_cons_zero, List.set_cons_succ]
  refine' wpT_det (o := ⟨some 8, Op.assign (Operand.tmp 21), 39, "l02_matrices.go:178", #[{ on := 12, ground := Ground.data }, { on := 11, ground := Ground.chain }, { on := 0, ground := Ground.phase }, { on := 1, ground := Ground.phase }, { on := 2, ground := Ground.phase }, { on := 3, ground := Ground.phase }, { on := 4, ground := Ground.phase }, { on := 5, ground := Ground.phase }, { on := 6, ground := Ground.phase }, { on := 7, ground := Ground.phase }, { on := 8, ground := Ground.phase }, { on := 9, ground := Ground.phase }, { on := 10, ground := Ground.phase }, { on := 11, ground := Ground.phase }, { on := 12, ground := Ground.phase }], none⟩) rfl (by rfl) (by rfl) (fun w' hw' => ?_) ?_; rotate_left
  · go_simp <;> first | rfl | exact ⟨rfl, rfl⟩
  simp only [Act.put, List.setIfInBounds_toArray, List.set_cons_zero, List.set_cons_succ]
  refine wpT_nil (fun w' hw' hF => ?_)
  refine wpList_nil ?_
  go_wp2_with fail
  go_ret
  exact ⟨_, rfl, hf12, hw'.undrew⟩

set_option maxRecDepth 20000 in
set_option maxHeartbeats 2000000 in
theorem weigh_any (x y R C n m cap cap' : Nat) (A B : Option Addr) (xs ys : List Nat) (w : World) (hR : R ≤ 12) (hC : C ≤ 12) (hn : n = R * C) (hm : m = R * C) (hr : Rds w A n (flts xs)) (hq : Rds w B m (flts ys)) :
    Calls Try.prog 144 #[.agg #[.int .i64 R, .int .i64 C, .slice A n cap], .agg #[.int .i64 R, .int .i64 C, .slice B m cap'], .float .f32 x, .float .f32 y] w (RetMat w R C (R * C) (tab C (weighF xs ys x y C) (R * C))) := by
  have Hn := Lib.hid hn
  have Hm := Lib.hid hm
  clear hn hm
  go_enter Try.func144, Try.ntmps144
  go_upto_region 1 with (fail)
  obtain ⟨w0, hw0⟩ : ∃ w0, w0 = (((((w.alloc (.cells #[.int .i64 R, .int .i64 C, .slice A n cap] 35)).alloc (.cells #[.int .i64 R, .int .i64 C, .slice B m cap'] 35)).alloc (.cells #[.float .f32 x] 39)).alloc (.cells #[.float .f32 y] 39)).alloc (.cells #[.int .i64 0, .int .i64 0, .slice none 0 0] 35)) := ⟨_, rfl⟩
  have hx0 : Ext w w0 := by subst hw0; exact (((((Ext.refl _).alloc _).alloc _).alloc _).alloc _).alloc _
  have ba : Blk w0 w.heap.size #[.int .i64 R, .int .i64 C, .slice A n cap] 35 := by subst hw0; exact (Blk.new w _ _).ext (((((Ext.refl _).alloc _).alloc _).alloc _).alloc _)
  have bb : Blk w0 (w.heap.size + 1) #[.int .i64 R, .int .i64 C, .slice B m cap'] 35 := by subst hw0; simpa using (Blk.new (w.alloc (.cells #[.int .i64 R, .int .i64 C, .slice A n cap] 35)) _ _).ext ((((Ext.refl _).alloc _).alloc _).alloc _)
  have b0 : Blk w0 (w.heap.size + 1 + 1 + 1 + 1) #[.int .i64 0, .int .i64 0, .slice none 0 0] 35 := by subst hw0; simpa using Blk.new ((((w.alloc (.cells #[.int .i64 R, .int .i64 C, .slice A n cap] 35)).alloc (.cells #[.int .i64 R, .int .i64 C, .slice B m cap'] 35)).alloc (.cells #[.float .f32 x] 39)).alloc (.cells #[.float .f32 y] 39)) _ _
  have bx : Blk w0 (w.heap.size + 1 + 1) #[.float .f32 x] 39 := by subst hw0; simpa using (Blk.new ((w.alloc (.cells #[.int .i64 R, .int .i64 C, .slice A n cap] 35)).alloc (.cells #[.int .i64 R, .int .i64 C, .slice B m cap'] 35)) _ _).ext (((Ext.refl _).alloc _).alloc _)
  have cx : w0.cell? ⟨w.heap.size + 1 + 1, 0, none⟩ = some (.float .f32 x) := bx.cell 0 rfl
  have by_ : Blk w0 (w.heap.size + 1 + 1 + 1) #[.float .f32 y] 39 := by subst hw0; simpa using (Blk.new (((w.alloc (.cells #[.int .i64 R, .int .i64 C, .slice A n cap] 35)).alloc (.cells #[.int .i64 R, .int .i64 C, .slice B m cap'] 35)).alloc (.cells #[.float .f32 x] 39)) _ _).ext ((Ext.refl _).alloc _)
  have cy : w0.cell? ⟨w.heap.size + 1 + 1 + 1, 0, none⟩ = some (.float .f32 y) := by_.cell 0 rfl
  rw [← hw0]
  clear hw0
  have a0 := ba.cell 0 rfl
  have a1 := ba.cell 1 rfl
  go_wp2_with fail
  refine (made_any 182 _ (enters_of Try.func182 (by kernel_rfl) rfl) R C hR hC (weighF xs ys x y C) _ (fun i k W hi hk hW => ?_) (fun i k _ _ => ex_fop _ _ _)).mono ?_
  · exact weigh1_any _ _ _ _ x y R C i k n m cap cap' A B xs ys W hi hk hR hC Hn.out Hm.out (hW.cell cx) (hW.cell cy) ⟨hW.cell (ba.cell 0 rfl), hW.cell (ba.cell 1 rfl), hW.cell (ba.cell 2 rfl), (hr.below hx0).below hW⟩ ⟨hW.cell (bb.cell 0 rfl), hW.cell (bb.cell 1 rfl), hW.cell (bb.cell 2 rfl), (hq.below hx0).below hW⟩
  rintro e w2 ⟨A', c', zs, hz, rfl, ho, hx⟩
  replace b0 := b0.ext hx
  clear a0 a1 cx cy bx by_
  have y0 : w2.cell? ⟨w.heap.size + 1 + 1 + 1 + 1, 0, none⟩ = some (.int .i64 0) := b0.cell 0 rfl
  have y1 : w2.cell? ⟨w.heap.size + 1 + 1 + 1 + 1, 1, none⟩ = some (.int .i64 0) := b0.cell 1 rfl
  have y2 : w2.cell? ⟨w.heap.size + 1 + 1 + 1 + 1, 2, none⟩ = some (.slice none 0 0) := b0.cell 2 rfl
  have q0 := b0.free 0
  have q1 := b0.free 1
  have q2 := b0.free 2
  have hq := b0.lt
  go_wp2_with fail
  obtain ⟨k1, k2, k3⟩ := Own.resM (w := w) (u := .int .i64 R) (v := .int .i64 C) (x := .slice A' (R * C) c') b0 (ho.base hx0.size) (hx0.trans hx) (by omega)
  exact bodyPost_ret (resM rfl rfl k3) rfl ⟨A', c', zs, hz, rfl, k1, k2⟩

end Go.Proofs.Ytgjfdfmbknmpaaa
