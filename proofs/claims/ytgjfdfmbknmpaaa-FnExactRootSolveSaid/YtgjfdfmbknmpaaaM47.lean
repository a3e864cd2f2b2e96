import Derived.Test.YtgjfdfmbknmpaaaM11
set_option linter.unusedVariables false
set_option linter.unusedSimpArgs false
namespace Go.Proofs.Ytgjfdfmbknmpaaa
open Go.RowKit

/-- A list by what stands where; one place told anew. -/
def lst (n : Nat) (F : Nat → Option Nat) : List (Option Nat) := (List.range n).map F
def upd1 (F : Nat → Option Nat) (i : Nat) (v : Option Nat) : Nat → Option Nat := fun j => if j = i then v else F j
theorem lst_length (n : Nat) (F : Nat → Option Nat) : (lst n F).length = n := by simp [lst]
theorem lst_set {n : Nat} {F F' : Nat → Option Nat} {i : Nat} {v : Option Nat} (hv : F' i = v) (h : ∀ j, j < n → j ≠ i → F' j = F j) : (lst n F).set i v = lst n F' := by
  apply List.ext_getElem
  · simp [lst]
  intro j h1 h2
  rw [List.getElem_set]
  simp only [lst, List.getElem_map, List.getElem_range]
  have hj : j < n := by simpa [lst] using h2
  split
  · rename_i e; rw [← e, hv]
  · rename_i e; exact (h j hj (fun e' => e e'.symm)).symm
theorem lst_congr {n : Nat} {F F' : Nat → Option Nat} (h : ∀ j, j < n → F j = F' j) : lst n F = lst n F' := by
  unfold lst
  apply List.map_congr_left
  intro j hj
  exact h j (by simpa using hj)
theorem lst_succ (n : Nat) (F : Nat → Option Nat) : lst (n + 1) F = lst n F ++ [F n] := by
  unfold lst
  rw [List.range_succ, List.map_append]
  rfl
theorem lst_at {n : Nat} {F : Nat → Option Nat} {ys : List Nat} (h : cfs ys = lst n F) {j : Nat} (hj : j < n) : c32 (rdf ys j) = F j := by
  have hl : ys.length = n := by rw [← cfs_length, h, lst_length]
  have h1 : (cfs ys)[j]? = some (c32 (rdf ys j)) := by
    unfold cfs
    rw [List.getElem?_map, List.getElem?_eq_getElem (by omega), rdf_get (by omega)]
    rfl
  rw [h] at h1
  have h2 : (lst n F)[j]? = some (F j) := by simp [lst, hj]
  rw [h2] at h1
  exact (Option.some.inj h1).symm
theorem cfs_lst (xs : List Nat) : cfs xs = lst xs.length (fun i => c32 (rdf xs i)) := by
  apply List.ext_getElem
  · simp [cfs, lst]
  intro j h1 h2
  have hj : j < xs.length := by simpa [cfs] using h1
  simp [cfs, lst, rdf, hj]
/-- One place of a row of the call's own is written. -/
theorem Own.putF {w : World} {base g n k : Nat} {ys : List Nat} {F F' : Nat → Option Nat} (h0 : cfs ys = lst n F) (h3 : Own w base 39 (.slice (some ⟨g, 0, none⟩) n k) (flts ys)) (j y : Nat) (hv : F' j = c32 y) (h : ∀ i, i < n → i ≠ j → F' i = F i) :
    cfs (ys.set j y) = lst n F' ∧ Own (w.setCell ⟨g, j, none⟩ (.float .f32 y)) base 39 (.slice (some ⟨g, 0, none⟩) n k) (flts (ys.set j y)) ∧ Wr w (w.setCell ⟨g, j, none⟩ (.float .f32 y)) (.slice (some ⟨g, 0, none⟩) n k) := by
  obtain ⟨o, hw⟩ := h3.stored j (.float .f32 y)
  exact ⟨by rw [cfs_set, h0, lst_set hv h], by rw [flts_set]; exact o, hw⟩
theorem giveL_lst {n : Nat} {F F' : Nat → Option Nat} (h : ∀ j, j < n → F j = F' j) : giveL (lst n F) = giveL (lst n F') := by rw [lst_congr h]

/-- A number less products. -/
def lessF (a x : Nat → Option Nat) (s : Option Nat) (lo : Nat) : Nat → Option Nat
  | 0 => s
  | t + 1 => fsub (lessF a x s lo t) (fmul (a (lo + t)) (x (lo + t)))
theorem lessF_congr {a a' x x' : Nat → Option Nat} {s : Option Nat} {lo : Nat} : ∀ {t : Nat}, (∀ i, lo ≤ i → i < lo + t → a i = a' i ∧ x i = x' i) → lessF a x s lo t = lessF a' x' s lo t
  | 0, _ => rfl
  | t + 1, h => by
    unfold lessF
    rw [lessF_congr (fun i h1 h2 => h i h1 (by omega)), (h (lo + t) (by omega) (by omega)).1, (h (lo + t) (by omega) (by omega)).2]
theorem ex_less (a x : Nat → Option Nat) (s : Nat) (lo t : Nat) : ∃ r, c32 r = lessF a x (c32 s) lo t := by
  cases t with
  | zero => exact ⟨s, rfl⟩
  | succ t => exact ex_fop _ _ _

set_option maxRecDepth 20000 in
set_option maxHeartbeats 4000000 in
theorem lessRow_any (R C n cap m cap' lo hi i s : Nat) (A B : Option Addr) (xs zs : List Nat) (w : World) (hR : R ≤ 12) (hC : C ≤ 12) (hRC : R = C) (hn : n = R * C) (hi' : i < R) (hlo : lo ≤ hi) (hhi : hi ≤ C) (hm : hi ≤ m) (hr : Rds w A n (flts xs)) (hq : Rds w B m (flts zs)) :
    Calls Try.prog 162 #[.agg #[.int .i64 R, .int .i64 C, .slice A n cap], .float .f32 s, .int .i64 i, .int .i64 lo, .int .i64 hi, .slice B m cap'] w (RetF w (lessF (fun k => c32 (at_ xs C i k)) (fun k => c32 (rdf zs k)) (c32 s) lo (hi - lo))) := by
  have Hn := Lib.hid hn
  have HRC := Lib.hid hRC
  obtain ⟨a, ha⟩ : ∃ a : Nat → Option Nat, a = fun k => c32 (at_ xs C i k) := ⟨_, rfl⟩
  obtain ⟨x, hx⟩ : ∃ x : Nat → Option Nat, x = fun (k : Nat) => c32 (rdf zs (k : Int)) := ⟨_, rfl⟩
  rw [← ha, ← hx]
  have HA := Lib.hid ha
  have HX := Lib.hid hx
  clear hn hRC ha hx
  go_enter Try.func162, Try.ntmps162
  go_upto_region 1 with (fail)
  obtain ⟨w0, hw0⟩ : ∃ w0, w0 = (w.alloc (.cells #[.int .i64 R, .int .i64 C, .slice A n cap] 35)) := ⟨_, rfl⟩
  have hx0 : Ext w w0 := by subst hw0; exact (Ext.refl _).alloc _
  have ba : Blk w0 (w.heap.size) #[.int .i64 R, .int .i64 C, .slice A n cap] 35 := by subst hw0; exact (Blk.new w _ _)
  rw [← hw0]
  clear hw0
  go_wp2_with fail
  go_loopw [1, 13] (fun u v wr => ∃ t : Nat, lo + t ≤ hi ∧ v = .int .i64 ((lo + t : Nat) : Int) ∧ ∃ r, u = .float .f32 r ∧ c32 r = lessF a x (c32 s) lo t ∧ Ext w0 wr) (fun _ v _ => hi - (intOf v).toNat)
  case atStart => exact ⟨0, by omega, rfl, s, rfl, rfl, Ext.refl _⟩
  case round =>
    obtain ⟨t, ht, rfl, r, rfl, hs', hx⟩ := hrel
    obtain ⟨c0, c1, c2, hr1⟩ := (MAt.blk ba (hr.below hx0)).ext hx
    obtain ⟨q, hq'⟩ : ∃ q, q = lo + t := ⟨_, rfl⟩
    rw [← hq'] at ht ⊢
    have HQ := Lib.hid hq'
    clear hq'
    by_cases hlt : q < hi
    · obtain ⟨ad', rfl, hcb⟩ := ((hq.below hx0).below hx).fltN q (by omega)
      have hqm : (q : Int) < m := by omega
      have hqh : (q : Int) < hi := by omega
      go_wp2_with fail
      refine wp_region_T (cs := []) [0, 1, 2, 3, 4, 5, 6, 7, 8, 9, 10] [11] [4, 9, 10] [] (fun i__ v => match i__ with | 4 => v = (.float .f32 (at_ xs C i q)) | 9 => ∃ r, v = .float .f32 r ∧ c32 r = (fmul (c32 (at_ xs C i q)) (c32 (rdf zs q))) | 10 => ∃ r, v = .float .f32 r ∧ c32 r = (lessF a x (c32 s) lo (t + 1)) | _ => False) (fun _ _ _ => True) (by kernel_rfl) (by kernel_rfl) (fun _ _ _ _ _ _ => trivial) ?_
      refine' wpT_det (o := ⟨some 20, Op.move (Operand.tmp 1), 39, "l03_factors.go:129", #[], none⟩) rfl (by rfl) (by rfl) (fun w' hw' => ?_) ?_; rotate_left
      · go_simp <;> first | rfl | exact ⟨rfl, rfl⟩
      simp only [Act.put, List.setIfInBounds_toArray, List.set_cons_zero, List.set_cons_succ]
      refine' wpT_det (o := ⟨some 21, Op.load 35 (Operand.tmp 6), 35, "l03_factors.go:129", #[], none⟩) rfl (by rfl) (by rfl) (fun w' hw' => ?_) ?_; rotate_left
      · have c0_ := Ext.cell hw' c0; have c1_ := Ext.cell hw' c1; have c2_ := Ext.cell hw' c2; have hcb_ := Ext.cell hw' hcb; go_simp <;> first | rfl | exact ⟨rfl, rfl⟩
      simp only [Act.put, List.setIfInBounds_toArray, List.set_cons_zero, List.set_cons_succ]
      refine' wpT_det (o := ⟨some 22, Op.move (Operand.tmp 2), 2, "l03_factors.go:129", #[], none⟩) rfl (by rfl) (by rfl) (fun w' hw' => ?_) ?_; rotate_left
      · go_simp <;> first | rfl | exact ⟨rfl, rfl⟩
      simp only [Act.put, List.setIfInBounds_toArray, List.set_cons_zero, List.set_cons_succ]
      refine' wpT_det (o := ⟨some 23, Op.move (Operand.tmp 13), 2, "l03_factors.go:129", #[], none⟩) rfl (by rfl) (by rfl) (fun w' hw' => ?_) ?_; rotate_left
      · go_simp <;> first | rfl | exact ⟨rfl, rfl⟩
      simp only [Act.put, List.setIfInBounds_toArray, List.set_cons_zero, List.set_cons_succ]
      refine wpT_nd (o := ⟨some 24, Op.call { callee := Callee.value (Operand.func 105), args := #[Operand.tmp 21, Operand.tmp 22, Operand.tmp 23], argTypes := #[35, 2, 2] }, 39, "l03_factors.go:129", #[{ on := 1, ground := Ground.data }, { on := 2, ground := Ground.data }, { on := 3, ground := Ground.data }], none⟩) rfl (by rfl) (by rfl) (fun w' hw' hF R__ hGo => ?_) ⟨_, rfl⟩ ?_
      · go_simp
        refine gives_enter rfl ?_
        refine (at_any R C i q n cap A xs _ (by have := HRC.out; omega) (by have := HRC.out; omega) hR hC Hn.out (hr1.below hw'.undrew)).mono ?_
        rintro e w2 ⟨rfl, hx⟩
        exact ⟨_, rfl, hGo _ _ hx rfl trivial⟩
      intro v hv
      obtain rfl : v = (.float .f32 (at_ xs C i q)) := hv
      simp only [Act.put, List.setIfInBounds_toArray, List.set_cons_zero, List.set_cons_succ]
      refine' wpT_det (o := ⟨some 25, Op.move (Operand.tmp 5), 22, "l03_factors.go:129", #[], none⟩) rfl (by rfl) (by rfl) (fun w' hw' => ?_) ?_; rotate_left
      · go_simp <;> first | rfl | exact ⟨rfl, rfl⟩
      simp only [Act.put, List.setIfInBounds_toArray, List.set_cons_zero, List.set_cons_succ]
      refine' wpT_det (o := ⟨some 26, Op.move (Operand.tmp 13), 2, "l03_factors.go:129", #[], none⟩) rfl (by rfl) (by rfl) (fun w' hw' => ?_) ?_; rotate_left
      · go_simp <;> first | rfl | exact ⟨rfl, rfl⟩
      simp only [Act.put, List.setIfInBounds_toArray, List.set_cons_zero, List.set_cons_succ]
      refine' wpT_det (o := ⟨some 27, Op.indexAddr 22 (Operand.tmp 25) (Operand.tmp 26), 0, "l03_factors.go:129", #[{ on := 5, ground := Ground.data }, { on := 6, ground := Ground.data }], none⟩) rfl (by rfl) (by rfl) (fun w' hw' => ?_) ?_; rotate_left
      · go_simp <;> first | rfl | exact ⟨rfl, rfl⟩
      simp only [Act.put, List.setIfInBounds_toArray, List.set_cons_zero, List.set_cons_succ]
      refine' wpT_det (o := ⟨some 28, Op.load 39 (Operand.tmp 27), 39, "l03_factors.go:129", #[{ on := 7, ground := Ground.data }], none⟩) rfl (by rfl) (by rfl) (fun w' hw' => ?_) ?_; rotate_left
      · have c0_ := Ext.cell hw' c0; have c1_ := Ext.cell hw' c1; have c2_ := Ext.cell hw' c2; have hcb_ := Ext.cell hw' hcb; go_simp <;> first | rfl | exact ⟨rfl, rfl⟩
      simp only [Act.put, List.setIfInBounds_toArray, List.set_cons_zero, List.set_cons_succ]
      refine wpT_nd (o := ⟨some 29, Op.call { callee := Callee.value (Operand.func 119), args := #[Operand.tmp 24, Operand.tmp 28], argTypes := #[39, 39] }, 39, "l03_factors.go:129", #[{ on := 4, ground := Ground.data }, { on := 8, ground := Ground.data }, { on := 4, ground := Ground.chain }], none⟩) rfl (by rfl) (by rfl) (fun w' hw' hF R__ hGo => ?_) (by obtain ⟨r, hr⟩ : ∃ r, c32 r = (fmul (c32 (at_ xs C i q)) (c32 (rdf zs q))) := ex_fop _ _ _; exact ⟨_, r, rfl, hr⟩) ?_
      · go_simp
        refine gives_enter rfl ?_
        refine (mul_any (at_ xs C i q) (rdf zs q) _).mono ?_
        rintro e w2 ⟨r, rfl, hr, hx⟩
        exact ⟨_, rfl, hGo _ _ hx ⟨r, rfl, hr⟩ trivial⟩
      rintro _ ⟨f9, rfl, hf9⟩
      simp only [Act.put, List.setIfInBounds_toArray, List.set_cons_zero, List.set_cons_succ]
      refine wpT_nd (o := ⟨some 30, Op.binOp BinOp.sub 39 (Operand.tmp 20) (Operand.tmp 29) 39, 39, "l03_factors.go:129", #[{ on := 0, ground := Ground.data }, { on := 9, ground := Ground.data }], none⟩) rfl (by rfl) (by rfl) (fun w' hw' hF R__ hGo => ?_) (by obtain ⟨r, hr⟩ := ex_d .sub ((by rw [hf9, hs', HA.out, HX.out, HQ.out]; rfl) : fop .sub .f32 (c32 (r)) (c32 (f9)) = (lessF a x (c32 s) lo (t + 1))); exact ⟨_, r, rfl, hr⟩) ?_
      · exact gives_f .sub (.inr (.inl rfl)) _ _ _ _ rfl (r) (f9) rfl rfl (lessF a x (c32 s) lo (t + 1)) (by rw [hf9, hs', HA.out, HX.out, HQ.out]; rfl) (fun r w2 hx hc => hGo _ _ hx ⟨r, rfl, hc⟩ trivial)
      rintro _ ⟨f10, rfl, hf10⟩
      simp only [Act.put, List.setIfInBounds_toArray, List.set_cons_zero, List.set_cons_succ]
      refine wpT_nil (fun w2 hw' hF => ?_)
      show wpList _ _ _ [(⟨some 1, Op.assign (Operand.tmp 30), 39, "l03_factors.go:129", #[{ on := 10, ground := Ground.data }, { on := 9, ground := Ground.chain }, { on := 0, ground := Ground.phase }, { on := 1, ground := Ground.phase }, { on := 2, ground := Ground.phase }, { on := 3, ground := Ground.phase }, { on := 4, ground := Ground.phase }, { on := 5, ground := Ground.phase }, { on := 6, ground := Ground.phase }, { on := 7, ground := Ground.phase }, { on := 8, ground := Ground.phase }, { on := 9, ground := Ground.phase }, { on := 10, ground := Ground.phase }], none⟩ : Oper)] _ _
      have hx2 := hw'.undrew
      clear c0 c1 c2 hr1 hcb hF hw'
      go_wp2_with fail
      go_roundw
      case rel => exact ⟨t + 1, by have := HQ.out; omega, by have := HQ.out; go_num, f10, rfl, hf10, hx.trans hx2⟩
      case measure => simp [intOf]; omega
    · have e : t = hi - lo := by have := HQ.out; omega
      have hqh : ¬ (q : Int) < hi := by omega
      rw [e] at hs'
      clear c0 c1 c2 e
      go_wp2_with fail
      go_ret
      exact ⟨r, rfl, hs', hx0.trans hx⟩
set_option maxRecDepth 20000 in
set_option maxHeartbeats 4000000 in
theorem lessColumn_any (R C n cap m cap' lo hi i s : Nat) (A B : Option Addr) (xs zs : List Nat) (w : World) (hR : R ≤ 12) (hC : C ≤ 12) (hRC : R = C) (hn : n = R * C) (hi' : i < R) (hlo : lo ≤ hi) (hhi : hi ≤ C) (hm : hi ≤ m) (hr : Rds w A n (flts xs)) (hq : Rds w B m (flts zs)) :
    Calls Try.prog 163 #[.agg #[.int .i64 R, .int .i64 C, .slice A n cap], .float .f32 s, .int .i64 i, .int .i64 lo, .int .i64 hi, .slice B m cap'] w (RetF w (lessF (fun k => c32 (at_ xs C k i)) (fun k => c32 (rdf zs k)) (c32 s) lo (hi - lo))) := by
  have Hn := Lib.hid hn
  have HRC := Lib.hid hRC
  obtain ⟨a, ha⟩ : ∃ a : Nat → Option Nat, a = fun k => c32 (at_ xs C k i) := ⟨_, rfl⟩
  obtain ⟨x, hx⟩ : ∃ x : Nat → Option Nat, x = fun (k : Nat) => c32 (rdf zs (k : Int)) := ⟨_, rfl⟩
  rw [← ha, ← hx]
  have HA := Lib.hid ha
  have HX := Lib.hid hx
  clear hn hRC ha hx
  go_enter Try.func163, Try.ntmps163
  go_upto_region 1 with (fail)
  obtain ⟨w0, hw0⟩ : ∃ w0, w0 = (w.alloc (.cells #[.int .i64 R, .int .i64 C, .slice A n cap] 35)) := ⟨_, rfl⟩
  have hx0 : Ext w w0 := by subst hw0; exact (Ext.refl _).alloc _
  have ba : Blk w0 (w.heap.size) #[.int .i64 R, .int .i64 C, .slice A n cap] 35 := by subst hw0; exact (Blk.new w _ _)
  rw [← hw0]
  clear hw0
  go_wp2_with fail
  go_loopw [1, 13] (fun u v wr => ∃ t : Nat, lo + t ≤ hi ∧ v = .int .i64 ((lo + t : Nat) : Int) ∧ ∃ r, u = .float .f32 r ∧ c32 r = lessF a x (c32 s) lo t ∧ Ext w0 wr) (fun _ v _ => hi - (intOf v).toNat)
  case atStart => exact ⟨0, by omega, rfl, s, rfl, rfl, Ext.refl _⟩
  case round =>
    obtain ⟨t, ht, rfl, r, rfl, hs', hx⟩ := hrel
    obtain ⟨c0, c1, c2, hr1⟩ := (MAt.blk ba (hr.below hx0)).ext hx
    obtain ⟨q, hq'⟩ : ∃ q, q = lo + t := ⟨_, rfl⟩
    rw [← hq'] at ht ⊢
    have HQ := Lib.hid hq'
    clear hq'
    by_cases hlt : q < hi
    · obtain ⟨ad', rfl, hcb⟩ := ((hq.below hx0).below hx).fltN q (by omega)
      have hqm : (q : Int) < m := by omega
      have hqh : (q : Int) < hi := by omega
      go_wp2_with fail
      refine wp_region_T (cs := []) [0, 1, 2, 3, 4, 5, 6, 7, 8, 9, 10] [11] [4, 9, 10] [] (fun i__ v => match i__ with | 4 => v = (.float .f32 (at_ xs C q i)) | 9 => ∃ r, v = .float .f32 r ∧ c32 r = (fmul (c32 (at_ xs C q i)) (c32 (rdf zs q))) | 10 => ∃ r, v = .float .f32 r ∧ c32 r = (lessF a x (c32 s) lo (t + 1)) | _ => False) (fun _ _ _ => True) (by kernel_rfl) (by kernel_rfl) (fun _ _ _ _ _ _ => trivial) ?_
      refine' wpT_det (o := ⟨some 20, Op.move (Operand.tmp 1), 39, "l03_factors.go:137", #[], none⟩) rfl (by rfl) (by rfl) (fun w' hw' => ?_) ?_; rotate_left
      · go_simp <;> first | rfl | exact ⟨rfl, rfl⟩
      simp only [Act.put, List.setIfInBounds_toArray, List.set_cons_zero, List.set_cons_succ]
      refine' wpT_det (o := ⟨some 21, Op.load 35 (Operand.tmp 6), 35, "l03_factors.go:137", #[], none⟩) rfl (by rfl) (by rfl) (fun w' hw' => ?_) ?_; rotate_left
      · have c0_ := Ext.cell hw' c0; have c1_ := Ext.cell hw' c1; have c2_ := Ext.cell hw' c2; have hcb_ := Ext.cell hw' hcb; go_simp <;> first | rfl | exact ⟨rfl, rfl⟩
      simp only [Act.put, List.setIfInBounds_toArray, List.set_cons_zero, List.set_cons_succ]
      refine' wpT_det (o := ⟨some 22, Op.move (Operand.tmp 13), 2, "l03_factors.go:137", #[], none⟩) rfl (by rfl) (by rfl) (fun w' hw' => ?_) ?_; rotate_left
      · go_simp <;> first | rfl | exact ⟨rfl, rfl⟩
      simp only [Act.put, List.setIfInBounds_toArray, List.set_cons_zero, List.set_cons_succ]
      refine' wpT_det (o := ⟨some 23, Op.move (Operand.tmp 2), 2, "l03_factors.go:137", #[], none⟩) rfl (by rfl) (by rfl) (fun w' hw' => ?_) ?_; rotate_left
      · go_simp <;> first | rfl | exact ⟨rfl, rfl⟩
      simp only [Act.put, List.setIfInBounds_toArray, List.set_cons_zero, List.set_cons_succ]
      refine wpT_nd (o := ⟨some 24, Op.call { callee := Callee.value (Operand.func 105), args := #[Operand.tmp 21, Operand.tmp 22, Operand.tmp 23], argTypes := #[35, 2, 2] }, 39, "l03_factors.go:137", #[{ on := 1, ground := Ground.data }, { on := 2, ground := Ground.data }, { on := 3, ground := Ground.data }], none⟩) rfl (by rfl) (by rfl) (fun w' hw' hF R__ hGo => ?_) ⟨_, rfl⟩ ?_
      · go_simp
        refine gives_enter rfl ?_
        refine (at_any R C q i n cap A xs _ (by have := HRC.out; omega) (by have := HRC.out; omega) hR hC Hn.out (hr1.below hw'.undrew)).mono ?_
        rintro e w2 ⟨rfl, hx⟩
        exact ⟨_, rfl, hGo _ _ hx rfl trivial⟩
      intro v hv
      obtain rfl : v = (.float .f32 (at_ xs C q i)) := hv
      simp only [Act.put, List.setIfInBounds_toArray, List.set_cons_zero, List.set_cons_succ]
      refine' wpT_det (o := ⟨some 25, Op.move (Operand.tmp 5), 22, "l03_factors.go:137", #[], none⟩) rfl (by rfl) (by rfl) (fun w' hw' => ?_) ?_; rotate_left
      · go_simp <;> first | rfl | exact ⟨rfl, rfl⟩
      simp only [Act.put, List.setIfInBounds_toArray, List.set_cons_zero, List.set_cons_succ]
      refine' wpT_det (o := ⟨some 26, Op.move (Operand.tmp 13), 2, "l03_factors.go:137", #[], none⟩) rfl (by rfl) (by rfl) (fun w' hw' => ?_) ?_; rotate_left
      · go_simp <;> first | rfl | exact ⟨rfl, rfl⟩
      simp only [Act.put, List.setIfInBounds_toArray, List.set_cons_zero, List.set_cons_succ]
      refine' wpT_det (o := ⟨some 27, Op.indexAddr 22 (Operand.tmp 25) (Operand.tmp 26), 0, "l03_factors.go:137", #[{ on := 5, ground := Ground.data }, { on := 6, ground := Ground.data }], none⟩) rfl (by rfl) (by rfl) (fun w' hw' => ?_) ?_; rotate_left
      · go_simp <;> first | rfl | exact ⟨rfl, rfl⟩
      simp only [Act.put, List.setIfInBounds_toArray, List.set_cons_zero, List.set_cons_succ]
      refine' wpT_det (o := ⟨some 28, Op.load 39 (Operand.tmp 27), 39, "l03_factors.go:137", #[{ on := 7, ground := Ground.data }], none⟩) rfl (by rfl) (by rfl) (fun w' hw' => ?_) ?_; rotate_left
      · have c0_ := Ext.cell hw' c0; have c1_ := Ext.cell hw' c1; have c2_ := Ext.cell hw' c2; have hcb_ := Ext.cell hw' hcb; go_simp <;> first | rfl | exact ⟨rfl, rfl⟩
      simp only [Act.put, List.setIfInBounds_toArray, List.set_cons_zero, List.set_cons_succ]
      refine wpT_nd (o := ⟨some 29, Op.call { callee := Callee.value (Operand.func 119), args := #[Operand.tmp 24, Operand.tmp 28], argTypes := #[39, 39] }, 39, "l03_factors.go:137", #[{ on := 4, ground := Ground.data }, { on := 8, ground := Ground.data }, { on := 4, ground := Ground.chain }], none⟩) rfl (by rfl) (by rfl) (fun w' hw' hF R__ hGo => ?_) (by obtain ⟨r, hr⟩ : ∃ r, c32 r = (fmul (c32 (at_ xs C q i)) (c32 (rdf zs q))) := ex_fop _ _ _; exact ⟨_, r, rfl, hr⟩) ?_
      · go_simp
        refine gives_enter rfl ?_
        refine (mul_any (at_ xs C q i) (rdf zs q) _).mono ?_
        rintro e w2 ⟨r, rfl, hr, hx⟩
        exact ⟨_, rfl, hGo _ _ hx ⟨r, rfl, hr⟩ trivial⟩
      rintro _ ⟨f9, rfl, hf9⟩
      simp only [Act.put, List.setIfInBounds_toArray, List.set_cons_zero, List.set_cons_succ]
      refine wpT_nd (o := ⟨some 30, Op.binOp BinOp.sub 39 (Operand.tmp 20) (Operand.tmp 29) 39, 39, "l03_factors.go:137", #[{ on := 0, ground := Ground.data }, { on := 9, ground := Ground.data }], none⟩) rfl (by rfl) (by rfl) (fun w' hw' hF R__ hGo => ?_) (by obtain ⟨r, hr⟩ := ex_d .sub ((by rw [hf9, hs', HA.out, HX.out, HQ.out]; rfl) : fop .sub .f32 (c32 (r)) (c32 (f9)) = (lessF a x (c32 s) lo (t + 1))); exact ⟨_, r, rfl, hr⟩) ?_
      · exact gives_f .sub (.inr (.inl rfl)) _ _ _ _ rfl (r) (f9) rfl rfl (lessF a x (c32 s) lo (t + 1)) (by rw [hf9, hs', HA.out, HX.out, HQ.out]; rfl) (fun r w2 hx hc => hGo _ _ hx ⟨r, rfl, hc⟩ trivial)
      rintro _ ⟨f10, rfl, hf10⟩
      simp only [Act.put, List.setIfInBounds_toArray, List.set_cons_zero, List.set_cons_succ]
      refine wpT_nil (fun w2 hw' hF => ?_)
      show wpList _ _ _ [(⟨some 1, Op.assign (Operand.tmp 30), 39, "l03_factors.go:137", #[{ on := 10, ground := Ground.data }, { on := 9, ground := Ground.chain }, { on := 0, ground := Ground.phase }, { on := 1, ground := Ground.phase }, { on := 2, ground := Ground.phase }, { on := 3, ground := Ground.phase }, { on := 4, ground := Ground.phase }, { on := 5, ground := Ground.phase }, { on := 6, ground := Ground.phase }, { on := 7, ground := Ground.phase }, { on := 8, ground := Ground.phase }, { on := 9, ground := Ground.phase }, { on := 10, ground := Ground.phase }], none⟩ : Oper)] _ _
      have hx2 := hw'.undrew
      clear c0 c1 c2 hr1 hcb hF hw'
      go_wp2_with fail
      go_roundw
      case rel => exact ⟨t + 1, by have := HQ.out; omega, by have := HQ.out; go_num, f10, rfl, hf10, hx.trans hx2⟩
      case measure => simp [intOf]; omega
    · have e : t = hi - lo := by have := HQ.out; omega
      have hqh : ¬ (q : Int) < hi := by omega
      rw [e] at hs'
      clear c0 c1 c2 e
      go_wp2_with fail
      go_ret
      exact ⟨r, rfl, hs', hx0.trans hx⟩

end Go.Proofs.Ytgjfdfmbknmpaaa
