import Derived.Test.YtgjfdfmbknmpaaaM16
set_option linter.unusedVariables false
set_option linter.unusedSimpArgs false
namespace Go.Proofs.Ytgjfdfmbknmpaaa
open Go.RowKit

def mulF (xs ys : List Nat) (K C : Nat) (i k : Nat) : Option Nat := dotF (fun j => c32 (at_ xs K i j)) (fun j => c32 (at_ ys C j k)) K
theorem dot_mulF {xs ys : List Nat} {R K C i k : Nat} (hl : xs.length = R * K) (hi : i < R) : dotL (rowL xs K i) (colL ys C k K) K = mulF xs ys K C i k := by
  unfold dotL mulF
  exact dotF_congr (fun j hj => ⟨by rw [rowL_rd (row_le hl hi) hj], by rw [colL_rd hj]⟩)
def fitB (r c r' c' : Int) (xs ys : List Nat) : Bool := isMat r c xs && isMat r' c' ys && decide (c = r')
def mulD (r c r' c' : Int) (xs ys : List Nat) : MD := if fitB r c r' c' xs ys then giveM r c' (tab c'.toNat (mulF xs ys c.toNat c'.toNat) (r.toNat * c'.toNat)) else MD.bad

set_option maxRecDepth 20000 in
set_option maxHeartbeats 2000000 in
theorem product1_any (b b' R K C i k n m cap cap' : Nat) (A B : Option Addr) (xs ys : List Nat) (w : World) (hi : i < R) (hk : k < C) (hR : R ≤ 12) (hK : K ≤ 12) (hC : C ≤ 12) (h1 : 1 ≤ K) (hn : n = R * K) (hm : m = K * C) (hcap : n ≤ cap) (ha : MAt w b R K A n cap xs) (hb : MAt w b' K C B m cap' ys) :
    Calls Try.prog 187 #[.int .i64 i, .int .i64 k, .pointer (some ⟨b, 0, none⟩), .pointer (some ⟨b', 0, none⟩)] w (RetF w (mulF xs ys K C i k)) := by
  obtain ⟨c0, c1, c2, hr⟩ := ha
  obtain ⟨d0, d1, d2, hq⟩ := hb
  have Hn := Lib.hid hn
  have Hm := Lib.hid hm
  have HD : Hid (dotL (rowL xs K i) (colL ys C k K) K = mulF xs ys K C i k) := dot_mulF (hr.flen.trans hn) hi
  clear hn hm
  go_enter Try.func187, Try.ntmps187
  go_upto_region 1 with (fail)
  refine wp_region_T (cs := []) [0, 1, 2, 3, 4, 5, 6, 7] [] [2, 5, 6] [(6, [2, 5])] (fun i__ v => match i__ with | 2 => ∃ (A : Option Addr) (k : Nat), v = .slice A K k | 5 => ∃ (A : Option Addr) (k : Nat), v = .slice A K k | 6 => ∃ r, v = .float .f32 r ∧ c32 r = (mulF xs ys K C i k) | _ => False) (fun i__ v w' => match i__ with | 2 => RdsF w' v [] (flts (rowL xs K i)) | 5 => RdsF w' v [] (flts (colL ys C k K)) | _ => True) (by kernel_rfl) (by kernel_rfl) (by intro i v w' w2 h hx; revert h; (try dsimp only); split <;> intro h <;> first | trivial | exact RdsF.ext h hx) ?_
  refine' wpT_det (o := ⟨some 7, Op.load 35 (Operand.tmp 2), 35, "l02_matrices.go:190", #[], none⟩) rfl (by rfl) (by rfl) (fun w' hw' => ?_) ?_; rotate_left
  · have c0_ := Ext.cell hw' c0; have c1_ := Ext.cell hw' c1; have c2_ := Ext.cell hw' c2; have d0_ := Ext.cell hw' d0; have d1_ := Ext.cell hw' d1; have d2_ := Ext.cell hw' d2; go_simp <;> first | rfl | exact ⟨rfl, rfl⟩
  simp only [Act.put, List.setIfInBounds_toArray, List.set_cons_zero, List.set_cons_succ]
  refine' wpT_det (o := ⟨some 8, Op.move (Operand.tmp 0), 2, "l02_matrices.go:190", #[], none⟩) rfl (by rfl) (by rfl) (fun w' hw' => ?_) ?_; rotate_left
  · go_simp <;> first | rfl | exact ⟨rfl, rfl⟩
  simp only [Act.put, List.setIfInBounds_toArray, List.set_cons_zero, List.set_cons_succ]
  refine wpT_nd (o := ⟨some 9, Op.call { callee := Callee.value (Operand.func 183), args := #[Operand.tmp 7, Operand.tmp 8], argTypes := #[35, 2] }, 22, "l02_matrices.go:190", #[{ on := 0, ground := Ground.data }, { on := 1, ground := Ground.data }], none⟩) rfl (by rfl) (by rfl) (fun w' hw' hF R__ hGo => ?_) ⟨_, none, 0, rfl⟩ ?_
  · go_simp
    refine gives_enter rfl ?_
    refine (row_any R K i n cap A xs _ hi hR hK h1 Hn.out hcap (hr.below hw'.undrew)).mono ?_
    rintro e w2 ⟨A1, k1, rfl, o1, hx⟩
    exact ⟨_, rfl, hGo _ _ hx ⟨_, _, rfl⟩ (RdsF.of o1.reads rfl)⟩
  rintro _ ⟨A1, k1, rfl⟩
  simp only [Act.put, List.setIfInBounds_toArray, List.set_cons_zero, List.set_cons_succ]
  refine' wpT_det (o := ⟨some 10, Op.load 35 (Operand.tmp 3), 35, "l02_matrices.go:190", #[], none⟩) rfl (by rfl) (by rfl) (fun w' hw' => ?_) ?_; rotate_left
  · have c0_ := Ext.cell hw' c0; have c1_ := Ext.cell hw' c1; have c2_ := Ext.cell hw' c2; have d0_ := Ext.cell hw' d0; have d1_ := Ext.cell hw' d1; have d2_ := Ext.cell hw' d2; go_simp <;> first | rfl | exact ⟨rfl, rfl⟩
  simp only [Act.put, List.setIfInBounds_toArray, List.set_cons_zero, List.set_cons_succ]
  refine' wpT_det (o := ⟨some 11, Op.move (Operand.tmp 1), 2, "l02_matrices.go:190", #[], none⟩) rfl (by rfl) (by rfl) (fun w' hw' => ?_) ?_; rotate_left
  · go_simp <;> first | rfl | exact ⟨rfl, rfl⟩
  simp only [Act.put, List.setIfInBounds_toArray, List.set_cons_zero, List.set_cons_succ]
  refine wpT_nd (o := ⟨some 12, Op.call { callee := Callee.value (Operand.func 188), args := #[Operand.tmp 10, Operand.tmp 11], argTypes := #[35, 2] }, 22, "l02_matrices.go:190", #[{ on := 3, ground := Ground.data }, { on := 4, ground := Ground.data }, { on := 2, ground := Ground.chain }], none⟩) rfl (by rfl) (by rfl) (fun w' hw' hF R__ hGo => ?_) ⟨_, none, 0, rfl⟩ ?_
  · go_simp
    refine gives_enter rfl ?_
    refine (column_any K C k m cap' B ys _ hk hK hC Hm.out (hq.below hw'.undrew)).mono ?_
    rintro e w2 ⟨A2, k2, rfl, o2, hx⟩
    exact ⟨_, rfl, hGo _ _ hx ⟨_, _, rfl⟩ (RdsF.of o2.reads rfl)⟩
  rintro _ ⟨A2, k2, rfl⟩
  simp only [Act.put, List.setIfInBounds_toArray, List.set_cons_zero, List.set_cons_succ]
  refine wpT_nd (o := ⟨some 13, Op.call { callee := Callee.value (Operand.func 152), args := #[Operand.tmp 9, Operand.tmp 12], argTypes := #[22, 22] }, 39, "l02_matrices.go:190", #[{ on := 2, ground := Ground.data }, { on := 5, ground := Ground.data }, { on := 5, ground := Ground.chain }], none⟩) rfl (by rfl) (by rfl) (fun w' hw' hF R__ hGo => ?_) (by obtain ⟨r, hr⟩ : ∃ r, c32 r = (mulF xs ys K C i k) := ex_dot _ _ _; exact ⟨_, r, rfl, hr⟩) ?_
  · go_simp
    refine gives_enter rfl ?_
    refine (dot_any A1 A2 K K k1 k2 (rowL xs K i) (colL ys C k K) _ (Nat.le_refl _) ((hF 2 (by simp [uses]) _ rfl) _ _ _ rfl) ((hF 5 (by simp [uses]) _ rfl) _ _ _ rfl)).mono ?_
    rintro e w2 ⟨r, rfl, hr, hx⟩
    exact ⟨_, rfl, hGo _ _ hx ⟨r, rfl, (hr.trans HD.out)⟩ trivial⟩
  rintro _ ⟨f6, rfl, hf6⟩
  simp only [Act.put, List.setIfInBounds_toArray, List.set_cons_zero, List.set_cons_succ]
  refine' wpT_det (o := ⟨some 6, Op.assign (Operand.tmp 13), 39, "l02_matrices.go:190", #[{ on := 6, ground := Ground.data }, { on := 6, ground := Ground.chain }, { on := 0, ground := Ground.phase }, { on := 1, ground := Ground.phase }, { on := 2, ground := Ground.phase }, { on := 3, ground := Ground.phase }, { on := 4, ground := Ground.phase }, { on := 5, ground := Ground.phase }, { on := 6, ground := Ground.phase }], none⟩) rfl (by rfl) (by rfl) (fun w' hw' => ?_) ?_; rotate_left
  · go_simp <;> first | rfl | exact ⟨rfl, rfl⟩
  simp only [Act.put, List.setIfInBounds_toArray, List.set_cons_zero, List.set_cons_succ]
  refine wpT_nil (fun w' hw' hF => ?_)
  refine wpList_nil ?_
  go_wp2_with fail
  go_ret
  exact ⟨_, rfl, hf6, hw'.undrew⟩

set_option maxRecDepth 20000 in
set_option maxHeartbeats 2000000 in
theorem product_any (R K C n m cap cap' : Nat) (A B : Option Addr) (xs ys : List Nat) (w : World) (hR : R ≤ 12) (hK : K ≤ 12) (hC : C ≤ 12) (h1 : 1 ≤ K) (hn : n = R * K) (hm : m = K * C) (hcap : n ≤ cap) (hr : Rds w A n (flts xs)) (hq : Rds w B m (flts ys)) :
    Calls Try.prog 167 #[.agg #[.int .i64 R, .int .i64 K, .slice A n cap], .agg #[.int .i64 K, .int .i64 C, .slice B m cap']] w (RetMat w R C (R * C) (tab C (mulF xs ys K C) (R * C))) := by
  have Hn := Lib.hid hn
  have Hm := Lib.hid hm
  clear hn hm
  go_enter Try.func167, Try.ntmps167
  go_upto_region 1 with (fail)
  obtain ⟨w0, hw0⟩ : ∃ w0, w0 = (((w.alloc (.cells #[.int .i64 R, .int .i64 K, .slice A n cap] 35)).alloc (.cells #[.int .i64 K, .int .i64 C, .slice B m cap'] 35)).alloc (.cells #[.int .i64 0, .int .i64 0, .slice none 0 0] 35)) := ⟨_, rfl⟩
  have hx0 : Ext w w0 := by subst hw0; exact (((Ext.refl _).alloc _).alloc _).alloc _
  have ba : Blk w0 (w.heap.size) #[.int .i64 R, .int .i64 K, .slice A n cap] 35 := by subst hw0; exact (Blk.new w _ _).ext (((Ext.refl _).alloc _).alloc _)
  have bb : Blk w0 (w.heap.size + 1) #[.int .i64 K, .int .i64 C, .slice B m cap'] 35 := by subst hw0; simpa using (Blk.new (w.alloc (.cells #[.int .i64 R, .int .i64 K, .slice A n cap] 35)) _ _).ext ((Ext.refl _).alloc _)
  have b0 : Blk w0 (w.heap.size + 1 + 1) #[.int .i64 0, .int .i64 0, .slice none 0 0] 35 := by subst hw0; simpa using (Blk.new ((w.alloc (.cells #[.int .i64 R, .int .i64 K, .slice A n cap] 35)).alloc (.cells #[.int .i64 K, .int .i64 C, .slice B m cap'] 35)) _ _)
  rw [← hw0]
  clear hw0
  have a0 := ba.cell 0 rfl
  have a1 := bb.cell 1 rfl
  go_wp2_with fail
  refine (made_any 187 _ (enters_of Try.func187 (by kernel_rfl) rfl) R C hR hC (mulF xs ys K C) _ (fun i k W hi hk hW => ?_) (fun i k _ _ => ex_dot _ _ _)).mono ?_
  · exact product1_any _ _ R K C i k n m cap cap' A B xs ys W hi hk hR hK hC h1 Hn.out Hm.out hcap ((MAt.blk ba (hr.below hx0)).ext hW) ((MAt.blk bb (hq.below hx0)).ext hW)
  rintro e w2 ⟨A', c', zs, hz, rfl, ho, hx⟩
  replace b0 := b0.ext hx
  clear a0 a1
  have y0 : w2.cell? ⟨w.heap.size + 1 + 1, 0, none⟩ = some (.int .i64 0) := b0.cell 0 rfl
  have y1 : w2.cell? ⟨w.heap.size + 1 + 1, 1, none⟩ = some (.int .i64 0) := b0.cell 1 rfl
  have y2 : w2.cell? ⟨w.heap.size + 1 + 1, 2, none⟩ = some (.slice none 0 0) := b0.cell 2 rfl
  have q0 := b0.free 0
  have q1 := b0.free 1
  have q2 := b0.free 2
  have hq := b0.lt
  go_wp2_with fail
  obtain ⟨k1, k2, k3⟩ := Own.resM (w := w) (u := .int .i64 R) (v := .int .i64 C) (x := .slice A' (R * C) c') b0 (ho.base hx0.size) (hx0.trans hx) (by omega)
  exact bodyPost_ret (resM rfl rfl k3) rfl ⟨A', c', zs, hz, rfl, k1, k2⟩

set_option maxRecDepth 20000 in
set_option maxHeartbeats 2000000 in
theorem areFactors_any (r c : Int) (A : Option Addr) (n cap : Nat) (r' c' : Int) (B : Option Addr) (m cap' : Nat) (xs ys : List Nat) (w : World) (hr : Rds w A n (flts xs)) (hq : Rds w B m (flts ys)) :
    Calls Try.prog 166 #[.agg #[.int .i64 r, .int .i64 c, .slice A n cap], .agg #[.int .i64 r', .int .i64 c', .slice B m cap']] w fun e w' => e = .returned (.bool (fitB r c r' c' xs ys)) ∧ Ext w w' := by
  unfold fitB
  cases hv : isMat r c xs with
  | false =>
    go_enter Try.func166, Try.ntmps166
    go_upto_region 1 with (fail)
    obtain ⟨w0, hw0⟩ : ∃ w0, w0 = ((w.alloc (.cells #[.int .i64 r, .int .i64 c, .slice A n cap] 35)).alloc (.cells #[.int .i64 r', .int .i64 c', .slice B m cap'] 35)) := ⟨_, rfl⟩
    have hx0 : Ext w w0 := by subst hw0; exact ((Ext.refl _).alloc _).alloc _
    have ba : Blk w0 (w.heap.size) #[.int .i64 r, .int .i64 c, .slice A n cap] 35 := by subst hw0; exact (Blk.new w _ _).ext ((Ext.refl _).alloc _)
    have bb : Blk w0 (w.heap.size + 1) #[.int .i64 r', .int .i64 c', .slice B m cap'] 35 := by subst hw0; simpa using (Blk.new (w.alloc (.cells #[.int .i64 r, .int .i64 c, .slice A n cap] 35)) _ _)
    rw [← hw0]
    clear hw0
    obtain ⟨c0, c1, c2, hr1⟩ := MAt.blk ba (hr.below hx0)
    go_wp2_with fail
    refine (ValidMatrix_any r c A n cap xs _ hr1).mono ?_
    rintro e w1 ⟨rfl, hx⟩
    rw [hv]
    replace hx0 := hx0.trans hx
    clear c0 c1 c2 hx
    go_wp2_with fail
    go_ret
    exact ⟨rfl, hx0⟩
  | true =>
    cases hv' : isMat r' c' ys with
    | false =>
      go_enter Try.func166, Try.ntmps166
      go_upto_region 1 with (fail)
      obtain ⟨w0, hw0⟩ : ∃ w0, w0 = ((w.alloc (.cells #[.int .i64 r, .int .i64 c, .slice A n cap] 35)).alloc (.cells #[.int .i64 r', .int .i64 c', .slice B m cap'] 35)) := ⟨_, rfl⟩
      have hx0 : Ext w w0 := by subst hw0; exact ((Ext.refl _).alloc _).alloc _
      have ba : Blk w0 (w.heap.size) #[.int .i64 r, .int .i64 c, .slice A n cap] 35 := by subst hw0; exact (Blk.new w _ _).ext ((Ext.refl _).alloc _)
      have bb : Blk w0 (w.heap.size + 1) #[.int .i64 r', .int .i64 c', .slice B m cap'] 35 := by subst hw0; simpa using (Blk.new (w.alloc (.cells #[.int .i64 r, .int .i64 c, .slice A n cap] 35)) _ _)
      rw [← hw0]
      clear hw0
      obtain ⟨c0, c1, c2, hr1⟩ := MAt.blk ba (hr.below hx0)
      go_wp2_with fail
      refine (ValidMatrix_any r c A n cap xs _ hr1).mono ?_
      rintro e w1 ⟨rfl, hx⟩
      rw [hv]
      replace bb := bb.ext hx
      replace hx0 := hx0.trans hx
      clear c0 c1 c2 hx
      obtain ⟨d0, d1, d2, hq1⟩ := MAt.blk bb (hq.below hx0)
      go_wp2_with fail
      refine (ValidMatrix_any r' c' B m cap' ys _ hq1).mono ?_
      rintro e w2 ⟨rfl, hx⟩
      rw [hv']
      replace hx0 := hx0.trans hx
      clear d0 d1 d2 hx
      go_wp2_with fail
      go_ret
      exact ⟨rfl, hx0⟩
    | true =>
      obtain ⟨v, hrc⟩ : ∃ v, v = decide (c = r') := ⟨_, rfl⟩
      have hd : (c == r') = v := by rw [hrc]; by_cases h : c = r' <;> simp [h]
      rw [← hrc]
      clear hrc
      go_enter Try.func166, Try.ntmps166
      go_upto_region 1 with (fail)
      obtain ⟨w0, hw0⟩ : ∃ w0, w0 = ((w.alloc (.cells #[.int .i64 r, .int .i64 c, .slice A n cap] 35)).alloc (.cells #[.int .i64 r', .int .i64 c', .slice B m cap'] 35)) := ⟨_, rfl⟩
      have hx0 : Ext w w0 := by subst hw0; exact ((Ext.refl _).alloc _).alloc _
      have ba : Blk w0 (w.heap.size) #[.int .i64 r, .int .i64 c, .slice A n cap] 35 := by subst hw0; exact (Blk.new w _ _).ext ((Ext.refl _).alloc _)
      have bb : Blk w0 (w.heap.size + 1) #[.int .i64 r', .int .i64 c', .slice B m cap'] 35 := by subst hw0; simpa using (Blk.new (w.alloc (.cells #[.int .i64 r, .int .i64 c, .slice A n cap] 35)) _ _)
      rw [← hw0]
      clear hw0
      obtain ⟨c0, c1, c2, hr1⟩ := MAt.blk ba (hr.below hx0)
      go_wp2_with fail
      refine (ValidMatrix_any r c A n cap xs _ hr1).mono ?_
      rintro e w1 ⟨rfl, hx⟩
      rw [hv]
      replace ba := ba.ext hx
      replace bb := bb.ext hx
      replace hx0 := hx0.trans hx
      clear c0 c1 c2 hr1 hx
      obtain ⟨d0, d1, d2, hq1⟩ := MAt.blk bb (hq.below hx0)
      go_wp2_with fail
      refine (ValidMatrix_any r' c' B m cap' ys _ hq1).mono ?_
      rintro e w2 ⟨rfl, hx⟩
      rw [hv']
      replace ba := ba.ext hx
      replace bb := bb.ext hx
      replace hx0 := hx0.trans hx
      clear d0 d1 d2 hq1 hx
      obtain ⟨c0, c1, c2, hr1⟩ := MAt.blk ba (hr.below hx0)
      obtain ⟨d0, d1, d2, hq1⟩ := MAt.blk bb (hq.below hx0)
      go_wp2_with fail
      go_ret
      exact ⟨rfl, hx0⟩

set_option maxRecDepth 20000 in
set_option maxHeartbeats 2000000 in
theorem l02Fit_any (b b' : Nat) (r c : Int) (A : Option Addr) (n cap : Nat) (r' c' : Int) (B : Option Addr) (m cap' : Nat) (xs ys : List Nat) (w : World) (ha : MAt w b r c A n cap xs) (hb : MAt w b' r' c' B m cap' ys) :
    Calls Try.prog 164 #[.pointer (some ⟨b, 0, none⟩), .pointer (some ⟨b', 0, none⟩)] w fun e w' => e = .returned (.bool (fitB r c r' c' xs ys)) ∧ Ext w w' := by
  unfold fitB
  cases hv : isMat r c xs with
  | false =>
    go_enter Try.func164, Try.ntmps164
    go_upto_region 1 with (fail)
    refine wp_region_T (cs := []) [0, 1, 2, 3, 4, 5, 6, 7, 8, 9, 10, 11, 12, 13, 14, 15, 16, 17] [] [1] [] (fun i__ v => match i__ with | 1 => v = (.bool false) | _ => False) (fun _ _ _ => True) (by kernel_rfl) (by kernel_rfl) (fun _ _ _ _ _ _ => trivial) ?_
    refine' wpT_det (o := ⟨some 5, Op.move (Operand.tmp 0), 85, "l02_matrices.go:200", #[], none⟩) rfl (by rfl) (by rfl) (fun w' hw' => ?_) ?_; rotate_left
    · go_simp <;> first | rfl | exact ⟨rfl, rfl⟩
    simp only [Act.put, List.setIfInBounds_toArray, List.set_cons_zero, List.set_cons_succ]
    refine wpT_nd (o := ⟨some 6, Op.call { callee := Callee.value (Operand.func 121), args := #[Operand.tmp 5], argTypes := #[85] }, 4, "l02_matrices.go:200", #[{ on := 0, ground := Ground.data }], none⟩) rfl (by rfl) (by rfl) (fun w' hw' hF R__ hGo => ?_) ⟨_, rfl⟩ ?_
    · go_simp
      refine gives_enter rfl ?_
      refine (l02Is_any b r c A n cap xs _ (ha.ext hw'.undrew)).mono ?_
      rintro e w2 ⟨rfl, hx⟩
      exact ⟨_, rfl, hGo _ _ hx (congrArg Value.bool hv) trivial⟩
    intro v hv
    obtain rfl : v = (.bool false) := hv
    simp only [Act.put, List.setIfInBounds_toArray, List.set_cons_zero, List.set_cons_succ]
    refine' wpT_det (o := ⟨some 7, Op.move (Operand.tmp 6), 4, "l02_matrices.go:200", #[{ on := 1, ground := Ground.data }, { on := 1, ground := Ground.chain }], none⟩) rfl (by rfl) (by rfl) (fun w' hw' => ?_) ?_; rotate_left
    · go_simp <;> first | rfl | exact ⟨rfl, rfl⟩
    simp only [Act.put, List.setIfInBounds_toArray, List.set_cons_zero, List.set_cons_succ]
    refine wpT_skip (o := ⟨some 8, Op.move (Operand.tmp 1), 85, "l02_matrices.go:200", #[{ on := 2, ground := Ground.guard }], some (2, true)⟩) rfl (by rfl) ?_
    simp only [Act.put, List.setIfInBounds_toArray, List.set_cons_zero, List.set_cons_succ]
    refine wpT_skip (o := ⟨some 9, Op.call { callee := Callee.value (Operand.func 121), args := #[Operand.tmp 8], argTypes := #[85] }, 4, "l02_matrices.go:200", #[{ on := 3, ground := Ground.data }, { on := 2, ground := Ground.chain }, { on := 2, ground := Ground.guard }], some (2, true)⟩) rfl (by rfl) ?_
    simp only [Act.put, List.setIfInBounds_toArray, List.set_cons_zero, List.set_cons_succ]
    refine' wpT_det (o := ⟨some 10, Op.pick (Operand.tmp 7) (Operand.tmp 9) (Operand.const (Value.bool false)), 4, "l02_matrices.go:200", #[{ on := 2, ground := Ground.data }, { on := 4, ground := Ground.data }], none⟩) rfl (by rfl) (by rfl) (fun w' hw' => ?_) ?_; rotate_left
    · go_simp <;> first | rfl | exact ⟨rfl, rfl⟩
    simp only [Act.put, List.setIfInBounds_toArray, List.set_cons_zero, List.set_cons_succ]
    refine' wpT_det (o := ⟨some 11, Op.move (Operand.tmp 10), 4, "l02_matrices.go:200", #[{ on := 5, ground := Ground.data }, { on := 4, ground := Ground.chain }], none⟩) rfl (by rfl) (by rfl) (fun w' hw' => ?_) ?_; rotate_left
    · go_simp <;> first | rfl | exact ⟨rfl, rfl⟩
    simp only [Act.put, List.setIfInBounds_toArray, List.set_cons_zero, List.set_cons_succ]
    refine wpT_skip (o := ⟨some 12, Op.move (Operand.tmp 0), 85, "l02_matrices.go:200", #[{ on := 6, ground := Ground.guard }], some (6, true)⟩) rfl (by rfl) ?_
    simp only [Act.put, List.setIfInBounds_toArray, List.set_cons_zero, List.set_cons_succ]
    refine wpT_skip (o := ⟨some 13, Op.nilCheck (Operand.tmp 12), 0, "l02_matrices.go:200", #[{ on := 7, ground := Ground.data }, { on := 6, ground := Ground.guard }], some (6, true)⟩) rfl (by rfl) ?_
    simp only [Act.put, List.setIfInBounds_toArray, List.set_cons_zero, List.set_cons_succ]
    refine wpT_skip (o := ⟨some 14, Op.fieldAddr 35 (Operand.tmp 13) 1, 0, "l02_matrices.go:200", #[{ on := 8, ground := Ground.data }, { on := 6, ground := Ground.guard }], some (6, true)⟩) rfl (by rfl) ?_
    simp only [Act.put, List.setIfInBounds_toArray, List.set_cons_zero, List.set_cons_succ]
    refine wpT_skip (o := ⟨some 15, Op.load 2 (Operand.tmp 14), 2, "l02_matrices.go:200", #[{ on := 9, ground := Ground.data }, { on := 6, ground := Ground.guard }], some (6, true)⟩) rfl (by rfl) ?_
    simp only [Act.put, List.setIfInBounds_toArray, List.set_cons_zero, List.set_cons_succ]
    refine wpT_skip (o := ⟨some 16, Op.move (Operand.tmp 1), 85, "l02_matrices.go:200", #[{ on := 6, ground := Ground.guard }], some (6, true)⟩) rfl (by rfl) ?_
    simp only [Act.put, List.setIfInBounds_toArray, List.set_cons_zero, List.set_cons_succ]
    refine wpT_skip (o := ⟨some 17, Op.nilCheck (Operand.tmp 16), 0, "l02_matrices.go:200", #[{ on := 11, ground := Ground.data }, { on := 6, ground := Ground.guard }], some (6, true)⟩) rfl (by rfl) ?_
    simp only [Act.put, List.setIfInBounds_toArray, List.set_cons_zero, List.set_cons_succ]
    refine wpT_skip (o := ⟨some 18, Op.fieldAddr 35 (Operand.tmp 17) 0, 0, "l02_matrices.go:200", #[{ on := 12, ground := Ground.data }, { on := 6, ground := Ground.guard }], some (6, true)⟩) rfl (by rfl) ?_
    simp only [Act.put, List.setIfInBounds_toArray, List.set_cons_zero, List.set_cons_succ]
    refine wpT_skip (o := ⟨some 19, Op.load 2 (Operand.tmp 18), 2, "l02_matrices.go:200", #[{ on := 13, ground := Ground.data }, { on := 6, ground := Ground.guard }], some (6, true)⟩) rfl (by rfl) ?_
    simp only [Act.put, List.setIfInBounds_toArray, List.set_cons_zero, List.set_cons_succ]
    refine wpT_skip (o := ⟨some 20, Op.binOp BinOp.eql 2 (Operand.tmp 15) (Operand.tmp 19) 2, 4, "l02_matrices.go:200", #[{ on := 10, ground := Ground.data }, { on := 14, ground := Ground.data }, { on := 6, ground := Ground.guard }], some (6, true)⟩) rfl (by rfl) ?_
    simp only [Act.put, List.setIfInBounds_toArray, List.set_cons_zero, List.set_cons_succ]
    refine' wpT_det (o := ⟨some 21, Op.pick (Operand.tmp 11) (Operand.tmp 20) (Operand.const (Value.bool false)), 4, "l02_matrices.go:200", #[{ on := 6, ground := Ground.data }, { on := 15, ground := Ground.data }], none⟩) rfl (by rfl) (by rfl) (fun w' hw' => ?_) ?_; rotate_left
    · go_simp <;> first | rfl | exact ⟨rfl, rfl⟩
    simp only [Act.put, List.setIfInBounds_toArray, List.set_cons_zero, List.set_cons_succ]
    refine' wpT_det (o := ⟨some 4, Op.assign (Operand.tmp 21), 4, "l02_matrices.go:200", #[{ on := 16, ground := Ground.data }, { on := 6, ground := Ground.chain }, { on := 0, ground := Ground.phase }, { on := 1, ground := Ground.phase }, { on := 2, ground := Ground.phase }, { on := 3, ground := Ground.phase }, { on := 4, ground := Ground.phase }, { on := 5, ground := Ground.phase }, { on := 6, ground := Ground.phase }, { on := 7, ground := Ground.phase }, { on := 8, ground := Ground.phase }, { on := 9, ground := Ground.phase }, { on := 10, ground := Ground.phase }, { on := 11, ground := Ground.phase }, { on := 12, ground := Ground.phase }, { on := 13, ground := Ground.phase }, { on := 14, ground := Ground.phase }, { on := 15, ground := Ground.phase }, { on := 16, ground := Ground.phase }], none⟩) rfl (by rfl) (by rfl) (fun w' hw' => ?_) ?_; rotate_left
    · go_simp <;> first | rfl | exact ⟨rfl, rfl⟩
    simp only [Act.put, List.setIfInBounds_toArray, List.set_cons_zero, List.set_cons_succ]
    refine wpT_nil (fun w' hw' hF => ?_)
    refine wpList_nil ?_
    go_wp2_with fail
    go_ret
    exact ⟨rfl, hw'.undrew⟩
  | true =>
    cases hv' : isMat r' c' ys with
    | false =>
      go_enter Try.func164, Try.ntmps164
      go_upto_region 1 with (fail)
      refine wp_region_T (cs := []) [0, 1, 2, 3, 4, 5, 6, 7, 8, 9, 10, 11, 12, 13, 14, 15, 16, 17] [] [1, 4] [] (fun i__ v => match i__ with | 1 => v = (.bool true) | 4 => v = (.bool false) | _ => False) (fun _ _ _ => True) (by kernel_rfl) (by kernel_rfl) (fun _ _ _ _ _ _ => trivial) ?_
      refine' wpT_det (o := ⟨some 5, Op.move (Operand.tmp 0), 85, "l02_matrices.go:200", #[], none⟩) rfl (by rfl) (by rfl) (fun w' hw' => ?_) ?_; rotate_left
      · go_simp <;> first | rfl | exact ⟨rfl, rfl⟩
      simp only [Act.put, List.setIfInBounds_toArray, List.set_cons_zero, List.set_cons_succ]
      refine wpT_nd (o := ⟨some 6, Op.call { callee := Callee.value (Operand.func 121), args := #[Operand.tmp 5], argTypes := #[85] }, 4, "l02_matrices.go:200", #[{ on := 0, ground := Ground.data }], none⟩) rfl (by rfl) (by rfl) (fun w' hw' hF R__ hGo => ?_) ⟨_, rfl⟩ ?_
      · go_simp
        refine gives_enter rfl ?_
        refine (l02Is_any b r c A n cap xs _ (ha.ext hw'.undrew)).mono ?_
        rintro e w2 ⟨rfl, hx⟩
        exact ⟨_, rfl, hGo _ _ hx (congrArg Value.bool hv) trivial⟩
      intro v hv
      obtain rfl : v = (.bool true) := hv
      simp only [Act.put, List.setIfInBounds_toArray, List.set_cons_zero, List.set_cons_succ]
      refine' wpT_det (o := ⟨some 7, Op.move (Operand.tmp 6), 4, "l02_matrices.go:200", #[{ on := 1, ground := Ground.data }, { on := 1, ground := Ground.chain }], none⟩) rfl (by rfl) (by rfl) (fun w' hw' => ?_) ?_; rotate_left
      · go_simp <;> first | rfl | exact ⟨rfl, rfl⟩
      simp only [Act.put, List.setIfInBounds_toArray, List.set_cons_zero, List.set_cons_succ]
      refine' wpT_det (o := ⟨some 8, Op.move (Operand.tmp 1), 85, "l02_matrices.go:200", #[{ on := 2, ground := Ground.guard }], some (2, true)⟩) rfl (by rfl) (by rfl) (fun w' hw' => ?_) ?_; rotate_left
      · go_simp <;> first | rfl | exact ⟨rfl, rfl⟩
      simp only [Act.put, List.setIfInBounds_toArray, List.set_cons_zero, List.set_cons_succ]
      refine wpT_nd (o := ⟨some 9, Op.call { callee := Callee.value (Operand.func 121), args := #[Operand.tmp 8], argTypes := #[85] }, 4, "l02_matrices.go:200", #[{ on := 3, ground := Ground.data }, { on := 2, ground := Ground.chain }, { on := 2, ground := Ground.guard }], some (2, true)⟩) rfl (by rfl) (by rfl) (fun w' hw' hF R__ hGo => ?_) ⟨_, rfl⟩ ?_
      · go_simp
        refine gives_enter rfl ?_
        refine (l02Is_any b' r' c' B m cap' ys _ (hb.ext hw'.undrew)).mono ?_
        rintro e w2 ⟨rfl, hx⟩
        exact ⟨_, rfl, hGo _ _ hx (congrArg Value.bool hv') trivial⟩
      intro v hv
      obtain rfl : v = (.bool false) := hv
      simp only [Act.put, List.setIfInBounds_toArray, List.set_cons_zero, List.set_cons_succ]
      refine' wpT_det (o := ⟨some 10, Op.pick (Operand.tmp 7) (Operand.tmp 9) (Operand.const (Value.bool false)), 4, "l02_matrices.go:200", #[{ on := 2, ground := Ground.data }, { on := 4, ground := Ground.data }], none⟩) rfl (by rfl) (by rfl) (fun w' hw' => ?_) ?_; rotate_left
      · go_simp <;> first | rfl | exact ⟨rfl, rfl⟩
      simp only [Act.put, List.setIfInBounds_toArray, List.set_cons_zero, List.set_cons_succ]
      refine' wpT_det (o := ⟨some 11, Op.move (Operand.tmp 10), 4, "l02_matrices.go:200", #[{ on := 5, ground := Ground.data }, { on := 4, ground := Ground.chain }], none⟩) rfl (by rfl) (by rfl) (fun w' hw' => ?_) ?_; rotate_left
      · go_simp <;> first | rfl | exact ⟨rfl, rfl⟩
      simp only [Act.put, List.setIfInBounds_toArray, List.set_cons_zero, List.set_cons_succ]
      refine wpT_skip (o := ⟨some 12, Op.move (Operand.tmp 0), 85, "l02_matrices.go:200", #[{ on := 6, ground := Ground.guard }], some (6, true)⟩) rfl (by rfl) ?_
      simp only [Act.put, List.setIfInBounds_toArray, List.set_cons_zero, List.set_cons_succ]
      refine wpT_skip (o := ⟨some 13, Op.nilCheck (Operand.tmp 12), 0, "l02_matrices.go:200", #[{ on := 7, ground := Ground.data }, { on := 6, ground := Ground.guard }], some (6, true)⟩) rfl (by rfl) ?_
      simp only [Act.put, List.setIfInBounds_toArray, List.set_cons_zero, List.set_cons_succ]
      refine wpT_skip (o := ⟨some 14, Op.fieldAddr 35 (Operand.tmp 13) 1, 0, "l02_matrices.go:200", #[{ on := 8, ground := Ground.data }, { on := 6, ground := Ground.guard }], some (6, true)⟩) rfl (by rfl) ?_
      simp only [Act.put, List.setIfInBounds_toArray, List.set_cons_zero, List.set_cons_succ]
      refine wpT_skip (o := ⟨some 15, Op.load 2 (Operand.tmp 14), 2, "l02_matrices.go:200", #[{ on := 9, ground := Ground.data }, { on := 6, ground := Ground.guard }], some (6, true)⟩) rfl (by rfl) ?_
      simp only [Act.put, List.setIfInBounds_toArray, List.set_cons_zero, List.set_cons_succ]
      refine wpT_skip (o := ⟨some 16, Op.move (Operand.tmp 1), 85, "l02_matrices.go:200", #[{ on := 6, ground := Ground.guard }], some (6, true)⟩) rfl (by rfl) ?_
      simp only [Act.put, List.setIfInBounds_toArray, List.set_cons_zero, List.set_cons_succ]
      refine wpT_skip (o := ⟨some 17, Op.nilCheck (Operand.tmp 16), 0, "l02_matrices.go:200", #[{ on := 11, ground := Ground.data }, { on := 6, ground := Ground.guard }], some (6, true)⟩) rfl (by rfl) ?_
      simp only [Act.put, List.setIfInBounds_toArray, List.set_cons_zero, List.set_cons_succ]
      refine wpT_skip (o := ⟨some 18, Op.fieldAddr 35 (Operand.tmp 17) 0, 0, "l02_matrices.go:200", #[{ on := 12, ground := Ground.data }, { on := 6, ground := Ground.guard }], some (6, true)⟩) rfl (by rfl) ?_
      simp only [Act.put, List.setIfInBounds_toArray, List.set_cons_zero, List.set_cons_succ]
      refine wpT_skip (o := ⟨some 19, Op.load 2 (Operand.tmp 18), 2, "l02_matrices.go:200", #[{ on := 13, ground := Ground.data }, { on := 6, ground := Ground.guard }], some (6, true)⟩) rfl (by rfl) ?_
      simp only [Act.put, List.setIfInBounds_toArray, List.set_cons_zero, List.set_cons_succ]
      refine wpT_skip (o := ⟨some 20, Op.binOp BinOp.eql 2 (Operand.tmp 15) (Operand.tmp 19) 2, 4, "l02_matrices.go:200", #[{ on := 10, ground := Ground.data }, { on := 14, ground := Ground.data }, { on := 6, ground := Ground.guard }], some (6, true)⟩) rfl (by rfl) ?_
      simp only [Act.put, List.setIfInBounds_toArray, List.set_cons_zero, List.set_cons_succ]
      refine' wpT_det (o := ⟨some 21, Op.pick (Operand.tmp 11) (Operand.tmp 20) (Operand.const (Value.bool false)), 4, "l02_matrices.go:200", #[{ on := 6, ground := Ground.data }, { on := 15, ground := Ground.data }], none⟩) rfl (by rfl) (by rfl) (fun w' hw' => ?_) ?_; rotate_left
      · go_simp <;> first | rfl | exact ⟨rfl, rfl⟩
      simp only [Act.put, List.setIfInBounds_toArray, List.set_cons_zero, List.set_cons_succ]
      refine' wpT_det (o := ⟨some 4, Op.assign (Operand.tmp 21), 4, "l02_matrices.go:200", #[{ on := 16, ground := Ground.data }, { on := 6, ground := Ground.chain }, { on := 0, ground := Ground.phase }, { on := 1, ground := Ground.phase }, { on := 2, ground := Ground.phase }, { on := 3, ground := Ground.phase }, { on := 4, ground := Ground.phase }, { on := 5, ground := Ground.phase }, { on := 6, ground := Ground.phase }, { on := 7, ground := Ground.phase }, { on := 8, ground := Ground.phase }, { on := 9, ground := Ground.phase }, { on := 10, ground := Ground.phase }, { on := 11, ground := Ground.phase }, { on := 12, ground := Ground.phase }, { on := 13, ground := Ground.phase }, { on := 14, ground := Ground.phase }, { on := 15, ground := Ground.phase }, { on := 16, ground := Ground.phase }], none⟩) rfl (by rfl) (by rfl) (fun w' hw' => ?_) ?_; rotate_left
      · go_simp <;> first | rfl | exact ⟨rfl, rfl⟩
      simp only [Act.put, List.setIfInBounds_toArray, List.set_cons_zero, List.set_cons_succ]
      refine wpT_nil (fun w' hw' hF => ?_)
      refine wpList_nil ?_
      go_wp2_with fail
      go_ret
      exact ⟨rfl, hw'.undrew⟩
    | true =>
      obtain ⟨v, hrc⟩ : ∃ v, v = decide (c = r') := ⟨_, rfl⟩
      have hd : (c == r') = v := by rw [hrc]; by_cases h : c = r' <;> simp [h]
      rw [← hrc]
      clear hrc
      have c1 := ha.c1
      have d0 := hb.c0
      go_enter Try.func164, Try.ntmps164
      go_upto_region 1 with (fail)
      refine wp_region_T (cs := []) [0, 1, 2, 3, 4, 5, 6, 7, 8, 9, 10, 11, 12, 13, 14, 15, 16, 17] [] [1, 4] [] (fun i__ v => match i__ with | 1 => v = (.bool true) | 4 => v = (.bool true) | _ => False) (fun _ _ _ => True) (by kernel_rfl) (by kernel_rfl) (fun _ _ _ _ _ _ => trivial) ?_
      refine' wpT_det (o := ⟨some 5, Op.move (Operand.tmp 0), 85, "l02_matrices.go:200", #[], none⟩) rfl (by rfl) (by rfl) (fun w' hw' => ?_) ?_; rotate_left
      · go_simp <;> first | rfl | exact ⟨rfl, rfl⟩
      simp only [Act.put, List.setIfInBounds_toArray, List.set_cons_zero, List.set_cons_succ]
      refine wpT_nd (o := ⟨some 6, Op.call { callee := Callee.value (Operand.func 121), args := #[Operand.tmp 5], argTypes := #[85] }, 4, "l02_matrices.go:200", #[{ on := 0, ground := Ground.data }], none⟩) rfl (by rfl) (by rfl) (fun w' hw' hF R__ hGo => ?_) ⟨_, rfl⟩ ?_
      · go_simp
        refine gives_enter rfl ?_
        refine (l02Is_any b r c A n cap xs _ (ha.ext hw'.undrew)).mono ?_
        rintro e w2 ⟨rfl, hx⟩
        exact ⟨_, rfl, hGo _ _ hx (congrArg Value.bool hv) trivial⟩
      intro v hv
      obtain rfl : v = (.bool true) := hv
      simp only [Act.put, List.setIfInBounds_toArray, List.set_cons_zero, List.set_cons_succ]
      refine' wpT_det (o := ⟨some 7, Op.move (Operand.tmp 6), 4, "l02_matrices.go:200", #[{ on := 1, ground := Ground.data }, { on := 1, ground := Ground.chain }], none⟩) rfl (by rfl) (by rfl) (fun w' hw' => ?_) ?_; rotate_left
      · go_simp <;> first | rfl | exact ⟨rfl, rfl⟩
      simp only [Act.put, List.setIfInBounds_toArray, List.set_cons_zero, List.set_cons_succ]
      refine' wpT_det (o := ⟨some 8, Op.move (Operand.tmp 1), 85, "l02_matrices.go:200", #[{ on := 2, ground := Ground.guard }], some (2, true)⟩) rfl (by rfl) (by rfl) (fun w' hw' => ?_) ?_; rotate_left
      · go_simp <;> first | rfl | exact ⟨rfl, rfl⟩
      simp only [Act.put, List.setIfInBounds_toArray, List.set_cons_zero, List.set_cons_succ]
      refine wpT_nd (o := ⟨some 9, Op.call { callee := Callee.value (Operand.func 121), args := #[Operand.tmp 8], argTypes := #[85] }, 4, "l02_matrices.go:200", #[{ on := 3, ground := Ground.data }, { on := 2, ground := Ground.chain }, { on := 2, ground := Ground.guard }], some (2, true)⟩) rfl (by rfl) (by rfl) (fun w' hw' hF R__ hGo => ?_) ⟨_, rfl⟩ ?_
      · go_simp
        refine gives_enter rfl ?_
        refine (l02Is_any b' r' c' B m cap' ys _ (hb.ext hw'.undrew)).mono ?_
        rintro e w2 ⟨rfl, hx⟩
        exact ⟨_, rfl, hGo _ _ hx (congrArg Value.bool hv') trivial⟩
      intro v hv
      obtain rfl : v = (.bool true) := hv
      simp only [Act.put, List.setIfInBounds_toArray, List.set_cons_zero, List.set_cons_succ]
      refine' wpT_det (o := ⟨some 10, Op.pick (Operand.tmp 7) (Operand.tmp 9) (Operand.const (Value.bool false)), 4, "l02_matrices.go:200", #[{ on := 2, ground := Ground.data }, { on := 4, ground := Ground.data }], none⟩) rfl (by rfl) (by rfl) (fun w' hw' => ?_) ?_; rotate_left
      · go_simp <;> first | rfl | exact ⟨rfl, rfl⟩
      simp only [Act.put, List.setIfInBounds_toArray, List.set_cons_zero, List.set_cons_succ]
      refine' wpT_det (o := ⟨some 11, Op.move (Operand.tmp 10), 4, "l02_matrices.go:200", #[{ on := 5, ground := Ground.data }, { on := 4, ground := Ground.chain }], none⟩) rfl (by rfl) (by rfl) (fun w' hw' => ?_) ?_; rotate_left
      · go_simp <;> first | rfl | exact ⟨rfl, rfl⟩
      simp only [Act.put, List.setIfInBounds_toArray, List.set_cons_zero, List.set_cons_succ]
      refine' wpT_det (o := ⟨some 12, Op.move (Operand.tmp 0), 85, "l02_matrices.go:200", #[{ on := 6, ground := Ground.guard }], some (6, true)⟩) rfl (by rfl) (by rfl) (fun w' hw' => ?_) ?_; rotate_left
      · go_simp <;> first | rfl | exact ⟨rfl, rfl⟩
      simp only [Act.put, List.setIfInBounds_toArray, List.set_cons_zero, List.set_cons_succ]
      refine' wpT_det (o := ⟨some 13, Op.nilCheck (Operand.tmp 12), 0, "l02_matrices.go:200", #[{ on := 7, ground := Ground.data }, { on := 6, ground := Ground.guard }], some (6, true)⟩) rfl (by rfl) (by rfl) (fun w' hw' => ?_) ?_; rotate_left
      · go_simp <;> first | rfl | exact ⟨rfl, rfl⟩
      simp only [Act.put, List.setIfInBounds_toArray, List.set_cons_zero, List.set_cons_succ]
      refine' wpT_det (o := ⟨some 14, Op.fieldAddr 35 (Operand.tmp 13) 1, 0, "l02_matrices.go:200", #[{ on := 8, ground := Ground.data }, { on := 6, ground := Ground.guard }], some (6, true)⟩) rfl (by rfl) (by rfl) (fun w' hw' => ?_) ?_; rotate_left
      · go_simp <;> first | rfl | exact ⟨rfl, rfl⟩
      simp only [Act.put, List.setIfInBounds_toArray, List.set_cons_zero, List.set_cons_succ]
      refine' wpT_det (o := ⟨some 15, Op.load 2 (Operand.tmp 14), 2, "l02_matrices.go:200", #[{ on := 9, ground := Ground.data }, { on := 6, ground := Ground.guard }], some (6, true)⟩) rfl (by rfl) (by rfl) (fun w' hw' => ?_) ?_; rotate_left
      · have c1_ := Ext.cell hw' c1; have d0_ := Ext.cell hw' d0; go_simp <;> first | rfl | exact ⟨rfl, rfl⟩
      simp only [Act.put, List.setIfInBounds_toArray, List.set_cons_zero, List.set_cons_succ]
      refine' wpT_det (o := ⟨some 16, Op.move (Operand.tmp 1), 85, "l02_matrices.go:200", #[{ on := 6, ground := Ground.guard }], some (6, true)⟩) rfl (by rfl) (by rfl) (fun w' hw' => ?_) ?_; rotate_left
      · go_simp <;> first | rfl | exact ⟨rfl, rfl⟩
      simp only [Act.put, List.setIfInBounds_toArray, List.set_cons_zero, List.set_cons_succ]
      refine' wpT_det (o := ⟨some 17, Op.nilCheck (Operand.tmp 16), 0, "l02_matrices.go:200", #[{ on := 11, ground := Ground.data }, { on := 6, ground := Ground.guard }], some (6, true)⟩) rfl (by rfl) (by rfl) (fun w' hw' => ?_) ?_; rotate_left
      · go_simp <;> first | rfl | exact ⟨rfl, rfl⟩
      simp only [Act.put, List.setIfInBounds_toArray, List.set_cons_zero, List.set_cons_succ]
      refine' wpT_det (o := ⟨some 18, Op.fieldAddr 35 (Operand.tmp 17) 0, 0, "l02_matrices.go:200", #[{ on := 12, ground := Ground.data }, { on := 6, ground := Ground.guard }], some (6, true)⟩) rfl (by rfl) (by rfl) (fun w' hw' => ?_) ?_; rotate_left
      · go_simp <;> first | rfl | exact ⟨rfl, rfl⟩
      simp only [Act.put, List.setIfInBounds_toArray, List.set_cons_zero, List.set_cons_succ]
      refine' wpT_det (o := ⟨some 19, Op.load 2 (Operand.tmp 18), 2, "l02_matrices.go:200", #[{ on := 13, ground := Ground.data }, { on := 6, ground := Ground.guard }], some (6, true)⟩) rfl (by rfl) (by rfl) (fun w' hw' => ?_) ?_; rotate_left
      · have c1_ := Ext.cell hw' c1; have d0_ := Ext.cell hw' d0; go_simp <;> first | rfl | exact ⟨rfl, rfl⟩
      simp only [Act.put, List.setIfInBounds_toArray, List.set_cons_zero, List.set_cons_succ]
      refine' wpT_det (o := ⟨some 20, Op.binOp BinOp.eql 2 (Operand.tmp 15) (Operand.tmp 19) 2, 4, "l02_matrices.go:200", #[{ on := 10, ground := Ground.data }, { on := 14, ground := Ground.data }, { on := 6, ground := Ground.guard }], some (6, true)⟩) rfl (by rfl) (by rfl) (fun w' hw' => ?_) ?_; rotate_left
      · go_simp <;> first | rfl | exact ⟨rfl, rfl⟩
      simp only [Act.put, List.setIfInBounds_toArray, List.set_cons_zero, List.set_cons_succ]
      refine' wpT_det (o := ⟨some 21, Op.pick (Operand.tmp 11) (Operand.tmp 20) (Operand.const (Value.bool false)), 4, "l02_matrices.go:200", #[{ on := 6, ground := Ground.data }, { on := 15, ground := Ground.data }], none⟩) rfl (by rfl) (by rfl) (fun w' hw' => ?_) ?_; rotate_left
      · go_simp <;> first | rfl | exact ⟨rfl, rfl⟩
      simp only [Act.put, List.setIfInBounds_toArray, List.set_cons_zero, List.set_cons_succ]
      refine' wpT_det (o := ⟨some 4, Op.assign (Operand.tmp 21), 4, "l02_matrices.go:200", #[{ on := 16, ground := Ground.data }, { on := 6, ground := Ground.chain }, { on := 0, ground := Ground.phase }, { on := 1, ground := Ground.phase }, { on := 2, ground := Ground.phase }, { on := 3, ground := Ground.phase }, { on := 4, ground := Ground.phase }, { on := 5, ground := Ground.phase }, { on := 6, ground := Ground.phase }, { on := 7, ground := Ground.phase }, { on := 8, ground := Ground.phase }, { on := 9, ground := Ground.phase }, { on := 10, ground := Ground.phase }, { on := 11, ground := Ground.phase }, { on := 12, ground := Ground.phase }, { on := 13, ground := Ground.phase }, { on := 14, ground := Ground.phase }, { on := 15, ground := Ground.phase }, { on := 16, ground := Ground.phase }], none⟩) rfl (by rfl) (by rfl) (fun w' hw' => ?_) ?_; rotate_left
      · go_simp <;> first | rfl | exact ⟨rfl, rfl⟩
      simp only [Act.put, List.setIfInBounds_toArray, List.set_cons_zero, List.set_cons_succ]
      refine wpT_nil (fun w' hw' hF => ?_)
      refine wpList_nil ?_
      go_wp2_with fail
      go_ret
      exact ⟨rfl, hw'.undrew⟩

end Go.Proofs.Ytgjfdfmbknmpaaa
