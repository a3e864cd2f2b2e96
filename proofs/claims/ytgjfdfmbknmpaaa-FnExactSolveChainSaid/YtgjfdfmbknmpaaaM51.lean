import Derived.Test.YtgjfdfmbknmpaaaM48
import Derived.Test.YtgjfdfmbknmpaaaM39
import Derived.Test.YtgjfdfmbknmpaaaM21
set_option linter.unusedVariables false
set_option linter.unusedSimpArgs false
namespace Go.Proofs.Ytgjfdfmbknmpaaa
open Go.RowKit

/-- A chain is solved: pivots, right sides, the solution from the last one up. -/
def dF (xs ys : List Nat) : Nat → Option Nat
  | 0 => entry xs 0
  | j + 1 => fsub (entry xs (j + 1)) (fmul (fdiv (entry ys j) (dF xs ys j)) (entry ys j))
def qF (xs ys : List Nat) (j : Nat) : Option Nat := fdiv (entry ys j) (dF xs ys j)
def gF (xs ys vs : List Nat) : Nat → Option Nat
  | 0 => entry vs 0
  | j + 1 => fsub (entry vs (j + 1)) (fmul (qF xs ys j) (gF xs ys vs j))
def bT (xs ys vs : List Nat) (n : Nat) : Nat → Option Nat
  | 0 => fdiv (gF xs ys vs (n - 1)) (dF xs ys (n - 1))
  | t + 1 => fdiv (fsub (gF xs ys vs (n - 2 - t)) (fmul (entry ys (n - 2 - t)) (bT xs ys vs n t))) (dF xs ys (n - 2 - t))
def xF (xs ys vs : List Nat) (n i : Nat) : Option Nat := bT xs ys vs n (n - 1 - i)
theorem xF_last (xs ys vs : List Nat) {n i : Nat} (h : i + 1 = n) : xF xs ys vs n i = fdiv (gF xs ys vs i) (dF xs ys i) := by
  have e : n - 1 - i = 0 := by omega
  have e1 : n - 1 = i := by omega
  unfold xF
  rw [e, bT, e1]
theorem xF_step (xs ys vs : List Nat) {n i : Nat} (h : i + 1 < n) : xF xs ys vs n i = fdiv (fsub (gF xs ys vs i) (fmul (entry ys i) (xF xs ys vs n (i + 1)))) (dF xs ys i) := by
  have e : n - 1 - i = (n - 1 - (i + 1)) + 1 := by omega
  have e1 : n - 2 - (n - 1 - (i + 1)) = i := by omega
  unfold xF
  rw [e, bT, e1]
def DT (xs ys : List Nat) (j i : Nat) : Option Nat := if i < j then dF xs ys i else entry xs i
def GT (xs ys vs : List Nat) (j i : Nat) : Option Nat := if i < j then gF xs ys vs i else entry vs i
def XT (xs ys vs : List Nat) (n c i : Nat) : Option Nat := if c ≤ i then xF xs ys vs n i else gF xs ys vs i
def OT (xs ys vs : List Nat) (n c i : Nat) : Option Nat := if c ≤ i then xF xs ys vs n i else some 0
theorem DT_lo (xs ys : List Nat) {j i : Nat} (h : i < j) : DT xs ys j i = dF xs ys i := if_pos h
theorem DT_hi (xs ys : List Nat) {j i : Nat} (h : j ≤ i) : DT xs ys j i = entry xs i := if_neg (by omega)
theorem GT_lo (xs ys vs : List Nat) {j i : Nat} (h : i < j) : GT xs ys vs j i = gF xs ys vs i := if_pos h
theorem GT_hi (xs ys vs : List Nat) {j i : Nat} (h : j ≤ i) : GT xs ys vs j i = entry vs i := if_neg (by omega)
theorem XT_lo (xs ys vs : List Nat) {n c i : Nat} (h : c ≤ i) : XT xs ys vs n c i = xF xs ys vs n i := if_pos h
theorem XT_hi (xs ys vs : List Nat) {n c i : Nat} (h : i < c) : XT xs ys vs n c i = gF xs ys vs i := if_neg (by omega)
theorem OT_lo (xs ys vs : List Nat) {n c i : Nat} (h : c ≤ i) : OT xs ys vs n c i = xF xs ys vs n i := if_pos h
theorem OT_hi (xs ys vs : List Nat) {n c i : Nat} (h : i < c) : OT xs ys vs n c i = some 0 := if_neg (by omega)
theorem DT_1 (xs ys : List Nat) : lst xs.length (DT xs ys 1) = cfs xs := by
  rw [cfs_lst]
  refine lst_congr (fun i hi => ?_)
  by_cases h : i < 1
  · obtain rfl : i = 0 := by omega
    rw [DT_lo _ _ h]; rfl
  · rw [DT_hi _ _ (by omega)]
theorem GT_1 (xs ys vs : List Nat) : lst vs.length (GT xs ys vs 1) = cfs vs := by
  rw [cfs_lst]
  refine lst_congr (fun i hi => ?_)
  by_cases h : i < 1
  · obtain rfl : i = 0 := by omega
    rw [GT_lo _ _ _ h]; rfl
  · rw [GT_hi _ _ _ (by omega)]
theorem DT_next (xs ys : List Nat) {j : Nat} (i : Nat) (h : i ≠ j) : DT xs ys (j + 1) i = DT xs ys j i := by
  by_cases hi : i < j
  · rw [DT_lo _ _ hi, DT_lo _ _ (by omega)]
  · rw [DT_hi _ _ (by omega), DT_hi _ _ (by omega)]
theorem GT_next (xs ys vs : List Nat) {j : Nat} (i : Nat) (h : i ≠ j) : GT xs ys vs (j + 1) i = GT xs ys vs j i := by
  by_cases hi : i < j
  · rw [GT_lo _ _ _ hi, GT_lo _ _ _ (by omega)]
  · rw [GT_hi _ _ _ (by omega), GT_hi _ _ _ (by omega)]
theorem XT_next (xs ys vs : List Nat) {n c : Nat} (i : Nat) (h : i ≠ c) : XT xs ys vs n c i = XT xs ys vs n (c + 1) i := by
  by_cases hi : c ≤ i
  · rw [XT_lo _ _ _ hi, XT_lo _ _ _ (by omega)]
  · rw [XT_hi _ _ _ (by omega), XT_hi _ _ _ (by omega)]
theorem OT_next (xs ys vs : List Nat) {n c : Nat} (i : Nat) (h : i ≠ c) : OT xs ys vs n c i = OT xs ys vs n (c + 1) i := by
  by_cases hi : c ≤ i
  · rw [OT_lo _ _ _ hi, OT_lo _ _ _ (by omega)]
  · rw [OT_hi _ _ _ (by omega), OT_hi _ _ _ (by omega)]
theorem DT_set (xs ys : List Nat) {j : Nat} (h : 1 ≤ j) : DT xs ys (j + 1) j = fsub (DT xs ys j j) (fmul (qF xs ys (j - 1)) (entry ys (j - 1))) := by
  obtain ⟨i, rfl⟩ : ∃ i, j = i + 1 := ⟨j - 1, by omega⟩
  rw [DT_lo _ _ (by omega), DT_hi _ _ (Nat.le_refl _)]
  rfl
theorem GT_set (xs ys vs : List Nat) {j : Nat} (h : 1 ≤ j) : GT xs ys vs (j + 1) j = fsub (GT xs ys vs j j) (fmul (qF xs ys (j - 1)) (GT xs ys vs j (j - 1))) := by
  obtain ⟨i, rfl⟩ : ∃ i, j = i + 1 := ⟨j - 1, by omega⟩
  rw [GT_lo _ _ _ (by omega), GT_hi _ _ _ (Nat.le_refl _), GT_lo _ _ _ (by omega)]
  rfl
def solB (xs ys vs : List Nat) : Bool := isCh xs ys && isVec vs && decide (vs.length = xs.length)
def solD (xs ys vs : List Nat) : List Nat × Bool := if solB xs ys vs then giveL (lst xs.length (xF xs ys vs xs.length)) else ([], false)
theorem sol_bad {xs ys vs : List Nat} (h : solB xs ys vs = false) : solD xs ys vs = ([], false) := by simp [solD, h]
theorem sol_good {xs ys vs : List Nat} {n : Nat} (h : solB xs ys vs = true) (hn : xs.length = n) : giveL (lst n (xF xs ys vs n)) = solD xs ys vs := by rw [← hn]; simp [solD, h]

set_option maxRecDepth 20000 in
set_option maxHeartbeats 16000000 in
theorem implSolveChain_any (A : Option Addr) (n cap : Nat) (B : Option Addr) (m cap' : Nat) (V : Option Addr) (q capv : Nat) (xs ys vs : List Nat) (w : World) (hr : Rds w A n (flts xs)) (hq : Rds w B m (flts ys)) (hv : Rds w V q (flts vs)) :
    Calls Try.prog 72 #[.agg #[.slice A n cap, .slice B m cap'], .slice V q capv] w (RetLD w (solD xs ys vs)) := by
  have HL := Lib.hid hr.flen
  have HL2 := Lib.hid hq.flen
  have HL3 := Lib.hid hv.flen
  have hs1 := hr.small
  have hs2 := hv.small
  cases hc : isCh xs ys with
  | false =>
    have hd := sol_bad (xs := xs) (ys := ys) (vs := vs) (by unfold solB; rw [hc]; rfl)
    go_enter Try.func72, Try.ntmps72
    go_upto_region 1 with (fail)
    obtain ⟨w0, hw0⟩ : ∃ w0, w0 = (w.alloc (.cells #[.slice A n cap, .slice B m cap'] 27)) := ⟨_, rfl⟩
    have hx0 : Ext w w0 := by subst hw0; exact (Ext.refl _).alloc _
    have ba : Blk w0 (w.heap.size) #[.slice A n cap, .slice B m cap'] 27 := by subst hw0; exact (Blk.new w _ _)
    rw [← hw0]
    clear hw0
    have a0 := ba.cell 0 rfl
    have a1 := ba.cell 1 rfl
    go_wp2_with fail
    refine (implValidChain_any A n cap B m cap' xs ys _ (hr.below hx0) (hq.below hx0)).mono ?_
    rintro e w1 ⟨rfl, hx⟩
    rw [hc]
    replace hx0 := hx0.trans hx
    clear a0 a1 hx
    go_wp2_with fail
    go_ret2
    exact RetLDb.bad hd hx0
  | true =>
    cases hvv : isVec vs with
    | false =>
      have hd := sol_bad (xs := xs) (ys := ys) (vs := vs) (by unfold solB; rw [hc, hvv]; rfl)
      go_enter Try.func72, Try.ntmps72
      go_upto_region 1 with (fail)
      obtain ⟨w0, hw0⟩ : ∃ w0, w0 = (w.alloc (.cells #[.slice A n cap, .slice B m cap'] 27)) := ⟨_, rfl⟩
      have hx0 : Ext w w0 := by subst hw0; exact (Ext.refl _).alloc _
      have ba : Blk w0 (w.heap.size) #[.slice A n cap, .slice B m cap'] 27 := by subst hw0; exact (Blk.new w _ _)
      rw [← hw0]
      clear hw0
      have a0 := ba.cell 0 rfl
      have a1 := ba.cell 1 rfl
      go_wp2_with fail
      refine (implValidChain_any A n cap B m cap' xs ys _ (hr.below hx0) (hq.below hx0)).mono ?_
      rintro e w1 ⟨rfl, hx⟩
      rw [hc]
      replace hx0 := hx0.trans hx
      clear a0 a1 hx
      go_wp2_with fail
      refine (IsVector_any V q capv vs _ (hv.below hx0)).mono ?_
      rintro e w2 ⟨rfl, hx⟩
      rw [hvv]
      replace hx0 := hx0.trans hx
      clear  hx
      go_wp2_with fail
      go_ret2
      exact RetLDb.bad hd hx0
    | true =>
      by_cases hqn : q = n
      rotate_left
      · have hqn' : ((q : Int) != (n : Int)) = true := by simp; omega
        have hd := sol_bad (xs := xs) (ys := ys) (vs := vs) (by unfold solB; rw [hc, hvv, HL.out, HL3.out, decide_eq_false hqn]; rfl)
        go_enter Try.func72, Try.ntmps72
        go_upto_region 1 with (fail)
        obtain ⟨w0, hw0⟩ : ∃ w0, w0 = (w.alloc (.cells #[.slice A n cap, .slice B m cap'] 27)) := ⟨_, rfl⟩
        have hx0 : Ext w w0 := by subst hw0; exact (Ext.refl _).alloc _
        have ba : Blk w0 (w.heap.size) #[.slice A n cap, .slice B m cap'] 27 := by subst hw0; exact (Blk.new w _ _)
        rw [← hw0]
        clear hw0
        have a0 := ba.cell 0 rfl
        have a1 := ba.cell 1 rfl
        go_wp2_with fail
        refine (implValidChain_any A n cap B m cap' xs ys _ (hr.below hx0) (hq.below hx0)).mono ?_
        rintro e w1 ⟨rfl, hx⟩
        rw [hc]
        replace ba := ba.ext hx
        replace hx0 := hx0.trans hx
        clear a0 a1 hx
        go_wp2_with fail
        refine (IsVector_any V q capv vs _ (hv.below hx0)).mono ?_
        rintro e w2 ⟨rfl, hx⟩
        rw [hvv]
        replace ba := ba.ext hx
        replace hx0 := hx0.trans hx
        clear  hx
        have a0 := ba.cell 0 rfl
        go_wp2_with fail
        go_ret2
        exact RetLDb.bad hd hx0
      obtain rfl := hqn
      have HG := Lib.hid (sol_good (xs := xs) (ys := ys) (vs := vs) (by unfold solB; rw [hc, hvv, HL.out, HL3.out]; simp) HL.out)
      have HD1 : Hid (cfs xs = lst q (DT xs ys 1)) := by show _ = _; rw [← DT_1 xs ys, HL.out]
      have HG1 : Hid (cfs vs = lst q (GT xs ys vs 1)) := by show _ = _; rw [← GT_1 xs ys vs, HL3.out]
      obtain ⟨hnm, hn1, hn12⟩ := ch_nat hc
      rw [HL.out] at hnm hn1 hn12
      rw [HL2.out] at hnm
      obtain ⟨d, hd⟩ : ∃ d, d = solD xs ys vs := ⟨_, rfl⟩
      rw [← hd] at HG ⊢
      clear hd
      have hqq : ((q : Int) != (q : Int)) = false := by simp
      go_enter Try.func72, Try.ntmps72
      go_upto_region 1 with (fail)
      obtain ⟨w0, hw0⟩ : ∃ w0, w0 = (w.alloc (.cells #[.slice A q cap, .slice B m cap'] 27)) := ⟨_, rfl⟩
      have hx0 : Ext w w0 := by subst hw0; exact (Ext.refl _).alloc _
      have ba : Blk w0 (w.heap.size) #[.slice A q cap, .slice B m cap'] 27 := by subst hw0; exact (Blk.new w _ _)
      rw [← hw0]
      clear hw0
      obtain ⟨ad, rfl, _⟩ := hr.fltN 0 (by omega)
      obtain ⟨av, rfl, _⟩ := hv.fltN 0 (by omega)
      have a0 := ba.cell 0 rfl
      have a1 := ba.cell 1 rfl
      go_wp2_with fail
      refine (implValidChain_any _ q cap B m cap' xs ys _ (hr.below hx0) (hq.below hx0)).mono ?_
      rintro e w1 ⟨rfl, hx⟩
      rw [hc]
      replace ba := ba.ext hx
      replace hx0 := hx0.trans hx
      clear a0 a1 hx
      go_wp2_with fail
      refine (IsVector_any _ q capv vs _ (hv.below hx0)).mono ?_
      rintro e w2 ⟨rfl, hx⟩
      rw [hvv]
      replace ba := ba.ext hx
      replace hx0 := hx0.trans hx
      clear  hx
      have a0 := ba.cell 0 rfl
      go_wp2_with fail
      refine (clone_any ad q cap xs _ (hr.below hx0) (by omega)).mono ?_
      rintro e w3 ⟨A1, k1, rfl, o1, hx⟩
      replace ba := ba.ext hx
      have hb1 := hx0.size
      replace hx0 := hx0.trans hx
      obtain ⟨g1, rfl, _⟩ := o1.head (by omega)
      clear a0 hx
      go_wp2_with fail
      refine (clone_any av q capv vs _ (hv.below hx0) (by omega)).mono ?_
      rintro e w4 ⟨A2, k2, rfl, o2, hx⟩
      obtain ⟨ne1, ne2⟩ := Own.ne o1 o2
      replace ba := ba.ext hx
      have o1' := (o1.ext hx).base hb1
      have o2' := o2.base hx0.size
      replace hx0 := hx0.trans hx
      obtain ⟨g2, rfl, _⟩ := o2.head (by omega)
      clear hx o1 o2 hb1
      go_wp2_with fail
      go_loopw [9] (fun u wr => ∃ j : Nat, 1 ≤ j ∧ j ≤ q ∧ u = .int .i64 j ∧ ∃ ds gs, cfs ds = lst q (DT xs ys j) ∧ cfs gs = lst q (GT xs ys vs j) ∧ Own wr w.heap.size 39 (.slice (some ⟨g1, 0, none⟩) q k1) (flts ds) ∧ Own wr w.heap.size 39 (.slice (some ⟨g2, 0, none⟩) q k2) (flts gs) ∧ Ext w wr ∧ Blk wr w.heap.size #[.slice (some ad) q cap, .slice B m cap'] 27) (fun u _ => q - (intOf u).toNat)
      case atStart => exact ⟨1, Nat.le_refl _, hn1, rfl, xs, vs, HD1.out, HG1.out, o1', o2', hx0, ba⟩
      case round =>
        clear o1' o2' hx0 ba
        obtain ⟨j, hj1, hj, rfl, ds, gs, hds, hgs, o1, o2, hx0, ba⟩ := hrel
        by_cases hlt : j < q
        · have c1 := ba.cell 1 rfl
          obtain ⟨ab, rfl, hcb⟩ := (hq.below hx0).fltN (j - 1) (by omega)
          obtain ⟨y, hy⟩ : ∃ y, y = rdf ys ((j - 1 : Nat) : Int) := ⟨_, rfl⟩
          rw [← hy] at hcb
          have HY : Hid (c32 y = entry ys (j - 1)) := by show _ = _; rw [hy]
          have hdl : ds.length = q := o1.reads.flen
          have hgl : gs.length = q := o2.reads.flen
          obtain ⟨hd0, _⟩ := o1.at_ (j - 1) (by omega)
          obtain ⟨hd1, _⟩ := o1.at_ j hlt
          rw [flts_get (by omega)] at hd0 hd1
          obtain ⟨p0, hp0⟩ : ∃ p, p = rdf ds ((j - 1 : Nat) : Int) := ⟨_, rfl⟩
          obtain ⟨p1, hp1⟩ : ∃ p, p = rdf ds (j : Int) := ⟨_, rfl⟩
          rw [← hp0] at hd0
          rw [← hp1] at hd1
          have HP0 : Hid (c32 p0 = dF xs ys (j - 1)) := by show _ = _; rw [hp0, lst_at hds (by omega), DT_lo _ _ (by omega)]
          have HP1 : Hid (c32 p1 = DT xs ys j j) := by show _ = _; rw [hp1, lst_at hds hlt]
          have e1 : IntKind.i64.wrap ((j : Int) - 1) = (j : Int) - 1 := IntWalk.i64_in _ (by omega)
          have e2 : (1 : Int) ≤ (j : Int) := by omega
          have e3 : (j : Int) - 1 < (m : Int) := by omega
          have e4 : (j : Int) - 1 < (q : Int) := by omega
          clear hy hp0 hp1 hdl
          go_upto_region 7 with (fail)
          refine wp_region_T (cs := []) [0, 1, 2, 3, 4, 5, 6, 7, 8, 9, 10, 11] [12] [11] [] (fun i__ v => match i__ with | 11 => ∃ r, v = .float .f32 r ∧ c32 r = (qF xs ys (j - 1)) | _ => False) (fun _ _ _ => True) (by kernel_rfl) (by kernel_rfl) (fun _ _ _ _ _ _ => trivial) ?_
          refine' wpT_det (o := ⟨some 40, Op.fieldAddr 27 (Operand.tmp 2) 1, 0, "l04_values.go:135", #[], none⟩) rfl (by rfl) (by rfl) (fun w' hw' => ?_) ?_; rotate_left
          · go_simp <;> first | rfl | exact ⟨rfl, rfl⟩
          simp only [Act.put, List.setIfInBounds_toArray, List.set_cons_zero, List.set_cons_succ]
          refine' wpT_det (o := ⟨some 41, Op.load 22 (Operand.tmp 40), 22, "l04_values.go:135", #[{ on := 0, ground := Ground.data }], none⟩) rfl (by rfl) (by rfl) (fun w' hw' => ?_) ?_; rotate_left
          · have c1_ := Ext.cell hw' c1; have hcb_ := Ext.cell hw' hcb; have hd0_ := Ext.cell hw' hd0; go_simp <;> first | rfl | exact ⟨rfl, rfl⟩
          simp only [Act.put, List.setIfInBounds_toArray, List.set_cons_zero, List.set_cons_succ]
          refine' wpT_det (o := ⟨some 42, Op.move (Operand.tmp 9), 3, "l04_values.go:135", #[], none⟩) rfl (by rfl) (by rfl) (fun w' hw' => ?_) ?_; rotate_left
          · go_simp <;> first | rfl | exact ⟨rfl, rfl⟩
          simp only [Act.put, List.setIfInBounds_toArray, List.set_cons_zero, List.set_cons_succ]
          refine' wpT_det (o := ⟨some 43, Op.binOp BinOp.sub 3 (Operand.tmp 42) (Operand.const (Value.int IntKind.i64 1)) 3, 3, "l04_values.go:135", #[{ on := 2, ground := Ground.data }], none⟩) rfl (by rfl) (by rfl) (fun w' hw' => ?_) ?_; rotate_left
          · go_simp <;> first | rfl | exact ⟨rfl, rfl⟩
          simp only [Act.put, List.setIfInBounds_toArray, List.set_cons_zero, List.set_cons_succ]
          refine' wpT_det (o := ⟨some 44, Op.indexAddr 22 (Operand.tmp 41) (Operand.tmp 43), 0, "l04_values.go:135", #[{ on := 1, ground := Ground.data }, { on := 3, ground := Ground.data }], none⟩) rfl (by rfl) (by rfl) (fun w' hw' => ?_) ?_; rotate_left
          · go_simp <;> first | rfl | exact ⟨rfl, rfl⟩
          simp only [Act.put, List.setIfInBounds_toArray, List.set_cons_zero, List.set_cons_succ]
          refine' wpT_det (o := ⟨some 45, Op.load 39 (Operand.tmp 44), 39, "l04_values.go:135", #[{ on := 4, ground := Ground.data }], none⟩) rfl (by rfl) (by rfl) (fun w' hw' => ?_) ?_; rotate_left
          · have c1_ := Ext.cell hw' c1; have hcb_ := Ext.cell hw' hcb; have hd0_ := Ext.cell hw' hd0; go_simp <;> first | rfl | exact ⟨rfl, rfl⟩
          simp only [Act.put, List.setIfInBounds_toArray, List.set_cons_zero, List.set_cons_succ]
          refine' wpT_det (o := ⟨some 46, Op.move (Operand.tmp 7), 22, "l04_values.go:135", #[], none⟩) rfl (by rfl) (by rfl) (fun w' hw' => ?_) ?_; rotate_left
          · go_simp <;> first | rfl | exact ⟨rfl, rfl⟩
          simp only [Act.put, List.setIfInBounds_toArray, List.set_cons_zero, List.set_cons_succ]
          refine' wpT_det (o := ⟨some 47, Op.move (Operand.tmp 9), 3, "l04_values.go:135", #[], none⟩) rfl (by rfl) (by rfl) (fun w' hw' => ?_) ?_; rotate_left
          · go_simp <;> first | rfl | exact ⟨rfl, rfl⟩
          simp only [Act.put, List.setIfInBounds_toArray, List.set_cons_zero, List.set_cons_succ]
          refine' wpT_det (o := ⟨some 48, Op.binOp BinOp.sub 3 (Operand.tmp 47) (Operand.const (Value.int IntKind.i64 1)) 3, 3, "l04_values.go:135", #[{ on := 7, ground := Ground.data }], none⟩) rfl (by rfl) (by rfl) (fun w' hw' => ?_) ?_; rotate_left
          · go_simp <;> first | rfl | exact ⟨rfl, rfl⟩
          simp only [Act.put, List.setIfInBounds_toArray, List.set_cons_zero, List.set_cons_succ]
          refine' wpT_det (o := ⟨some 49, Op.indexAddr 22 (Operand.tmp 46) (Operand.tmp 48), 0, "l04_values.go:135", #[{ on := 6, ground := Ground.data }, { on := 8, ground := Ground.data }], none⟩) rfl (by rfl) (by rfl) (fun w' hw' => ?_) ?_; rotate_left
          · go_simp <;> first | rfl | exact ⟨rfl, rfl⟩
          simp only [Act.put, List.setIfInBounds_toArray, List.set_cons_zero, List.set_cons_succ]
          refine' wpT_det (o := ⟨some 50, Op.load 39 (Operand.tmp 49), 39, "l04_values.go:135", #[{ on := 9, ground := Ground.data }], none⟩) rfl (by rfl) (by rfl) (fun w' hw' => ?_) ?_; rotate_left
          · have c1_ := Ext.cell hw' c1; have hcb_ := Ext.cell hw' hcb; have hd0_ := Ext.cell hw' hd0; go_simp <;> first | rfl | exact ⟨rfl, rfl⟩
          simp only [Act.put, List.setIfInBounds_toArray, List.set_cons_zero, List.set_cons_succ]
          refine wpT_nd (o := ⟨some 51, Op.binOp BinOp.quo 39 (Operand.tmp 45) (Operand.tmp 50) 39, 39, "l04_values.go:135", #[{ on := 5, ground := Ground.data }, { on := 10, ground := Ground.data }], none⟩) rfl (by rfl) (by rfl) (fun w' hw' hF R__ hGo => ?_) (by obtain ⟨r, hr⟩ := ex_d .quo ((by rw [HY.out, HP0.out]; rfl) : fop .quo .f32 (c32 (y)) (c32 (p0)) = (qF xs ys (j - 1))); exact ⟨_, r, rfl, hr⟩) ?_
          · exact gives_f .quo (.inr (.inr (.inr rfl))) _ _ _ _ rfl (y) (p0) rfl rfl (qF xs ys (j - 1)) (by rw [HY.out, HP0.out]; rfl) (fun r w2 hx hc => hGo _ _ hx ⟨r, rfl, hc⟩ trivial)
          rintro _ ⟨f11, rfl, hf11⟩
          simp only [Act.put, List.setIfInBounds_toArray, List.set_cons_zero, List.set_cons_succ]
          refine wpT_nil (fun w5 hw' hF => ?_)
          show wpList _ _ _ [(⟨some 10, Op.assign (Operand.tmp 51), 39, "l04_values.go:135", #[{ on := 11, ground := Ground.data }, { on := 0, ground := Ground.phase }, { on := 1, ground := Ground.phase }, { on := 2, ground := Ground.phase }, { on := 3, ground := Ground.phase }, { on := 4, ground := Ground.phase }, { on := 5, ground := Ground.phase }, { on := 6, ground := Ground.phase }, { on := 7, ground := Ground.phase }, { on := 8, ground := Ground.phase }, { on := 9, ground := Ground.phase }, { on := 10, ground := Ground.phase }, { on := 11, ground := Ground.phase }], none⟩ : Oper)] _ _
          have hx5 := hw'.undrew
          replace c1 := hx5.cell c1
          replace hcb := hx5.cell hcb
          replace hd1 := hx5.cell hd1
          replace o1 := o1.ext hx5
          replace o2 := o2.ext hx5
          replace ba := ba.ext hx5
          replace hx0 := hx0.trans hx5
          clear hd0 hF hw' hx5
          rename Nat => fq
          rename c32 fq = _ => hfq
          go_upto_region 8 with (fail)
          refine wp_region_T (cs := []) [0, 1, 2, 3, 4, 5, 6, 7, 8, 9, 10, 11, 12] [13, 14] [11, 12] [] (fun i__ v => match i__ with | 11 => ∃ r, v = .float .f32 r ∧ c32 r = (fmul (qF xs ys (j - 1)) (entry ys (j - 1))) | 12 => ∃ r, v = .float .f32 r ∧ c32 r = (DT xs ys (j + 1) j) | _ => False) (fun _ _ _ => True) (by kernel_rfl) (by kernel_rfl) (fun _ _ _ _ _ _ => trivial) ?_
          refine' wpT_det (o := ⟨some 52, Op.move (Operand.tmp 7), 22, "l04_values.go:136", #[], none⟩) rfl (by rfl) (by rfl) (fun w' hw' => ?_) ?_; rotate_left
          · go_simp <;> first | rfl | exact ⟨rfl, rfl⟩
          simp only [Act.put, List.setIfInBounds_toArray, List.set_cons_zero, List.set_cons_succ]
          refine' wpT_det (o := ⟨some 53, Op.move (Operand.tmp 9), 3, "l04_values.go:136", #[], none⟩) rfl (by rfl) (by rfl) (fun w' hw' => ?_) ?_; rotate_left
          · go_simp <;> first | rfl | exact ⟨rfl, rfl⟩
          simp only [Act.put, List.setIfInBounds_toArray, List.set_cons_zero, List.set_cons_succ]
          refine' wpT_det (o := ⟨some 54, Op.indexAddr 22 (Operand.tmp 52) (Operand.tmp 53), 0, "l04_values.go:136", #[{ on := 0, ground := Ground.data }, { on := 1, ground := Ground.data }], none⟩) rfl (by rfl) (by rfl) (fun w' hw' => ?_) ?_; rotate_left
          · go_simp <;> first | rfl | exact ⟨rfl, rfl⟩
          simp only [Act.put, List.setIfInBounds_toArray, List.set_cons_zero, List.set_cons_succ]
          refine' wpT_det (o := ⟨some 55, Op.load 39 (Operand.tmp 54), 39, "l04_values.go:136", #[{ on := 2, ground := Ground.data }], none⟩) rfl (by rfl) (by rfl) (fun w' hw' => ?_) ?_; rotate_left
          · have c1_ := Ext.cell hw' c1; have hcb_ := Ext.cell hw' hcb; have hd1_ := Ext.cell hw' hd1; go_simp <;> first | rfl | exact ⟨rfl, rfl⟩
          simp only [Act.put, List.setIfInBounds_toArray, List.set_cons_zero, List.set_cons_succ]
          refine' wpT_det (o := ⟨some 56, Op.move (Operand.tmp 10), 39, "l04_values.go:136", #[], none⟩) rfl (by rfl) (by rfl) (fun w' hw' => ?_) ?_; rotate_left
          · go_simp <;> first | rfl | exact ⟨rfl, rfl⟩
          simp only [Act.put, List.setIfInBounds_toArray, List.set_cons_zero, List.set_cons_succ]
          refine' wpT_det (o := ⟨some 57, Op.fieldAddr 27 (Operand.tmp 2) 1, 0, "l04_values.go:136", #[], none⟩) rfl (by rfl) (by rfl) (fun w' hw' => ?_) ?_; rotate_left
          · go_simp <;> first | rfl | exact ⟨rfl, rfl⟩
          simp only [Act.put, List.setIfInBounds_toArray, List.set_cons_zero, List.set_cons_succ]
          refine' wpT_det (o := ⟨some 58, Op.load 22 (Operand.tmp 57), 22, "l04_values.go:136", #[{ on := 5, ground := Ground.data }], none⟩) rfl (by rfl) (by rfl) (fun w' hw' => ?_) ?_; rotate_left
          · have c1_ := Ext.cell hw' c1; have hcb_ := Ext.cell hw' hcb; have hd1_ := Ext.cell hw' hd1; go_simp <;> first | rfl | exact ⟨rfl, rfl⟩
          simp only [Act.put, List.setIfInBounds_toArray, List.set_cons_zero, List.set_cons_succ]
          refine' wpT_det (o := ⟨some 59, Op.move (Operand.tmp 9), 3, "l04_values.go:136", #[], none⟩) rfl (by rfl) (by rfl) (fun w' hw' => ?_) ?_; rotate_left
          · go_simp <;> first | rfl | exact ⟨rfl, rfl⟩
          simp only [Act.put, List.setIfInBounds_toArray, List.set_cons_zero, List.set_cons_succ]
          refine' wpT_det (o := ⟨some 60, Op.binOp BinOp.sub 3 (Operand.tmp 59) (Operand.const (Value.int IntKind.i64 1)) 3, 3, "l04_values.go:136", #[{ on := 7, ground := Ground.data }], none⟩) rfl (by rfl) (by rfl) (fun w' hw' => ?_) ?_; rotate_left
          · go_simp <;> first | rfl | exact ⟨rfl, rfl⟩
          simp only [Act.put, List.setIfInBounds_toArray, List.set_cons_zero, List.set_cons_succ]
          refine' wpT_det (o := ⟨some 61, Op.indexAddr 22 (Operand.tmp 58) (Operand.tmp 60), 0, "l04_values.go:136", #[{ on := 6, ground := Ground.data }, { on := 8, ground := Ground.data }], none⟩) rfl (by rfl) (by rfl) (fun w' hw' => ?_) ?_; rotate_left
          · go_simp <;> first | rfl | exact ⟨rfl, rfl⟩
          simp only [Act.put, List.setIfInBounds_toArray, List.set_cons_zero, List.set_cons_succ]
          refine' wpT_det (o := ⟨some 62, Op.load 39 (Operand.tmp 61), 39, "l04_values.go:136", #[{ on := 9, ground := Ground.data }], none⟩) rfl (by rfl) (by rfl) (fun w' hw' => ?_) ?_; rotate_left
          · have c1_ := Ext.cell hw' c1; have hcb_ := Ext.cell hw' hcb; have hd1_ := Ext.cell hw' hd1; go_simp <;> first | rfl | exact ⟨rfl, rfl⟩
          simp only [Act.put, List.setIfInBounds_toArray, List.set_cons_zero, List.set_cons_succ]
          refine wpT_nd (o := ⟨some 63, Op.call { callee := Callee.value (Operand.func 119), args := #[Operand.tmp 56, Operand.tmp 62], argTypes := #[39, 39] }, 39, "l04_values.go:136", #[{ on := 4, ground := Ground.data }, { on := 10, ground := Ground.data }], none⟩) rfl (by rfl) (by rfl) (fun w' hw' hF R__ hGo => ?_) (by obtain ⟨r, hr⟩ : ∃ r, c32 r = (fmul (qF xs ys (j - 1)) (entry ys (j - 1))) := ex_fop _ _ _; exact ⟨_, r, rfl, hr⟩) ?_
          · go_simp
            refine gives_enter rfl ?_
            refine (mul_any fq y _).mono ?_
            rintro e w2 ⟨r, rfl, hr, hx⟩
            exact ⟨_, rfl, hGo _ _ hx ⟨r, rfl, (hr.trans (by rw [hfq, HY.out]))⟩ trivial⟩
          rintro _ ⟨f11, rfl, hf11⟩
          simp only [Act.put, List.setIfInBounds_toArray, List.set_cons_zero, List.set_cons_succ]
          refine wpT_nd (o := ⟨some 64, Op.binOp BinOp.sub 39 (Operand.tmp 55) (Operand.tmp 63) 39, 39, "l04_values.go:136", #[{ on := 3, ground := Ground.data }, { on := 11, ground := Ground.data }], none⟩) rfl (by rfl) (by rfl) (fun w' hw' hF R__ hGo => ?_) (by obtain ⟨r, hr⟩ := ex_d .sub ((by rw [HP1.out, hf11, DT_set _ _ hj1]) : fop .sub .f32 (c32 (p1)) (c32 (f11)) = (DT xs ys (j + 1) j)); exact ⟨_, r, rfl, hr⟩) ?_
          · exact gives_f .sub (.inr (.inl rfl)) _ _ _ _ rfl (p1) (f11) rfl rfl (DT xs ys (j + 1) j) (by rw [HP1.out, hf11, DT_set _ _ hj1]) (fun r w2 hx hc => hGo _ _ hx ⟨r, rfl, hc⟩ trivial)
          rintro _ ⟨f12, rfl, hf12⟩
          simp only [Act.put, List.setIfInBounds_toArray, List.set_cons_zero, List.set_cons_succ]
          refine wpT_nil (fun w6 hw' hF => ?_)
          show wpList _ _ _ [(⟨some 65, Op.indexAddr 22 (Operand.tmp 52) (Operand.tmp 53), 0, "l04_values.go:136", #[{ on := 0, ground := Ground.data }, { on := 1, ground := Ground.data }, { on := 0, ground := Ground.phase }, { on := 1, ground := Ground.phase }, { on := 2, ground := Ground.phase }, { on := 3, ground := Ground.phase }, { on := 4, ground := Ground.phase }, { on := 5, ground := Ground.phase }, { on := 6, ground := Ground.phase }, { on := 7, ground := Ground.phase }, { on := 8, ground := Ground.phase }, { on := 9, ground := Ground.phase }, { on := 10, ground := Ground.phase }, { on := 11, ground := Ground.phase }, { on := 12, ground := Ground.phase }], none⟩ : Oper), (⟨none, Op.store 39 (Operand.tmp 65) (Operand.tmp 64), 0, "l04_values.go:136", #[{ on := 13, ground := Ground.data }, { on := 12, ground := Ground.data }, { on := 11, ground := Ground.chain }, { on := 0, ground := Ground.phase }, { on := 1, ground := Ground.phase }, { on := 2, ground := Ground.phase }, { on := 3, ground := Ground.phase }, { on := 4, ground := Ground.phase }, { on := 5, ground := Ground.phase }, { on := 6, ground := Ground.phase }, { on := 7, ground := Ground.phase }, { on := 8, ground := Ground.phase }, { on := 9, ground := Ground.phase }, { on := 10, ground := Ground.phase }, { on := 11, ground := Ground.phase }, { on := 12, ground := Ground.phase }], none⟩ : Oper)] _ _
          have hx5 := hw'.undrew
          replace o1 := o1.ext hx5
          replace o2 := o2.ext hx5
          replace ba := ba.ext hx5
          replace hx0 := hx0.trans hx5
          clear c1 hcb hd1 hF hw' hx5
          obtain ⟨hd1, hfr⟩ := o1.at_ j hlt
          rw [flts_get (by have := o1.reads.flen; omega)] at hd1
          have hst := store_f32 Try.prog f12 hd1 hfr
          obtain ⟨p1', p2', p3'⟩ := Own.putF (F' := DT xs ys (j + 1)) hds o1 j f12 hf12.symm (fun i _ hi => DT_next _ _ i hi)
          replace o2 := o2.other p3' ne2
          replace ba := ba.wr p3' o1 (by decide)
          replace hx0 := p3'.ext hx0 o1
          go_upto_region 9 with (fail)
          obtain ⟨w7, hw7⟩ : ∃ v : World, v = w6.setCell ⟨g1, j, none⟩ (.float .f32 f12) := ⟨_, rfl⟩
          rw [← hw7] at p2' p3' o2 ba hx0 ⊢
          obtain ⟨ds', hds'⟩ : ∃ ds', ds' = ds.set j f12 := ⟨_, rfl⟩
          rw [← hds'] at p1' p2'
          clear hw7 hst hd1 hfr o1 p3' hds hds' hf12 hf11
          rename Own w7 _ _ (.slice (some ⟨g1, 0, none⟩) q k1) _ => o1
          obtain ⟨hg0, _⟩ := o2.at_ (j - 1) (by omega)
          obtain ⟨hg1, _⟩ := o2.at_ j hlt
          rw [flts_get (by omega)] at hg0 hg1
          obtain ⟨t0, ht0⟩ : ∃ p, p = rdf gs ((j - 1 : Nat) : Int) := ⟨_, rfl⟩
          obtain ⟨t1, ht1⟩ : ∃ p, p = rdf gs (j : Int) := ⟨_, rfl⟩
          rw [← ht0] at hg0
          rw [← ht1] at hg1
          have HT0 : Hid (c32 t0 = GT xs ys vs j (j - 1)) := by show _ = _; rw [ht0, lst_at hgs (by omega)]
          have HT1 : Hid (c32 t1 = GT xs ys vs j j) := by show _ = _; rw [ht1, lst_at hgs hlt]
          clear ht0 ht1 hgl
          refine wp_region_T (cs := []) [0, 1, 2, 3, 4, 5, 6, 7, 8, 9, 10, 11] [12, 13] [10, 11] [] (fun i__ v => match i__ with | 10 => ∃ r, v = .float .f32 r ∧ c32 r = (fmul (qF xs ys (j - 1)) (GT xs ys vs j (j - 1))) | 11 => ∃ r, v = .float .f32 r ∧ c32 r = (GT xs ys vs (j + 1) j) | _ => False) (fun _ _ _ => True) (by kernel_rfl) (by kernel_rfl) (fun _ _ _ _ _ _ => trivial) ?_
          refine' wpT_det (o := ⟨some 66, Op.move (Operand.tmp 8), 22, "l04_values.go:137", #[], none⟩) rfl (by rfl) (by rfl) (fun w' hw' => ?_) ?_; rotate_left
          · go_simp <;> first | rfl | exact ⟨rfl, rfl⟩
          simp only [Act.put, List.setIfInBounds_toArray, List.set_cons_zero, List.set_cons_succ]
          refine' wpT_det (o := ⟨some 67, Op.move (Operand.tmp 9), 3, "l04_values.go:137", #[], none⟩) rfl (by rfl) (by rfl) (fun w' hw' => ?_) ?_; rotate_left
          · go_simp <;> first | rfl | exact ⟨rfl, rfl⟩
          simp only [Act.put, List.setIfInBounds_toArray, List.set_cons_zero, List.set_cons_succ]
          refine' wpT_det (o := ⟨some 68, Op.indexAddr 22 (Operand.tmp 66) (Operand.tmp 67), 0, "l04_values.go:137", #[{ on := 0, ground := Ground.data }, { on := 1, ground := Ground.data }], none⟩) rfl (by rfl) (by rfl) (fun w' hw' => ?_) ?_; rotate_left
          · go_simp <;> first | rfl | exact ⟨rfl, rfl⟩
          simp only [Act.put, List.setIfInBounds_toArray, List.set_cons_zero, List.set_cons_succ]
          refine' wpT_det (o := ⟨some 69, Op.load 39 (Operand.tmp 68), 39, "l04_values.go:137", #[{ on := 2, ground := Ground.data }], none⟩) rfl (by rfl) (by rfl) (fun w' hw' => ?_) ?_; rotate_left
          · have hg0_ := Ext.cell hw' hg0; have hg1_ := Ext.cell hw' hg1; go_simp <;> first | rfl | exact ⟨rfl, rfl⟩
          simp only [Act.put, List.setIfInBounds_toArray, List.set_cons_zero, List.set_cons_succ]
          refine' wpT_det (o := ⟨some 70, Op.move (Operand.tmp 10), 39, "l04_values.go:137", #[], none⟩) rfl (by rfl) (by rfl) (fun w' hw' => ?_) ?_; rotate_left
          · go_simp <;> first | rfl | exact ⟨rfl, rfl⟩
          simp only [Act.put, List.setIfInBounds_toArray, List.set_cons_zero, List.set_cons_succ]
          refine' wpT_det (o := ⟨some 71, Op.move (Operand.tmp 8), 22, "l04_values.go:137", #[], none⟩) rfl (by rfl) (by rfl) (fun w' hw' => ?_) ?_; rotate_left
          · go_simp <;> first | rfl | exact ⟨rfl, rfl⟩
          simp only [Act.put, List.setIfInBounds_toArray, List.set_cons_zero, List.set_cons_succ]
          refine' wpT_det (o := ⟨some 72, Op.move (Operand.tmp 9), 3, "l04_values.go:137", #[], none⟩) rfl (by rfl) (by rfl) (fun w' hw' => ?_) ?_; rotate_left
          · go_simp <;> first | rfl | exact ⟨rfl, rfl⟩
          simp only [Act.put, List.setIfInBounds_toArray, List.set_cons_zero, List.set_cons_succ]
          refine' wpT_det (o := ⟨some 73, Op.binOp BinOp.sub 3 (Operand.tmp 72) (Operand.const (Value.int IntKind.i64 1)) 3, 3, "l04_values.go:137", #[{ on := 6, ground := Ground.data }], none⟩) rfl (by rfl) (by rfl) (fun w' hw' => ?_) ?_; rotate_left
          · go_simp <;> first | rfl | exact ⟨rfl, rfl⟩
          simp only [Act.put, List.setIfInBounds_toArray, List.set_cons_zero, List.set_cons_succ]
          refine' wpT_det (o := ⟨some 74, Op.indexAddr 22 (Operand.tmp 71) (Operand.tmp 73), 0, "l04_values.go:137", #[{ on := 5, ground := Ground.data }, { on := 7, ground := Ground.data }], none⟩) rfl (by rfl) (by rfl) (fun w' hw' => ?_) ?_; rotate_left
          · go_simp <;> first | rfl | exact ⟨rfl, rfl⟩
          simp only [Act.put, List.setIfInBounds_toArray, List.set_cons_zero, List.set_cons_succ]
          refine' wpT_det (o := ⟨some 75, Op.load 39 (Operand.tmp 74), 39, "l04_values.go:137", #[{ on := 8, ground := Ground.data }], none⟩) rfl (by rfl) (by rfl) (fun w' hw' => ?_) ?_; rotate_left
          · have hg0_ := Ext.cell hw' hg0; have hg1_ := Ext.cell hw' hg1; go_simp <;> first | rfl | exact ⟨rfl, rfl⟩
          simp only [Act.put, List.setIfInBounds_toArray, List.set_cons_zero, List.set_cons_succ]
          refine wpT_nd (o := ⟨some 76, Op.call { callee := Callee.value (Operand.func 119), args := #[Operand.tmp 70, Operand.tmp 75], argTypes := #[39, 39] }, 39, "l04_values.go:137", #[{ on := 4, ground := Ground.data }, { on := 9, ground := Ground.data }], none⟩) rfl (by rfl) (by rfl) (fun w' hw' hF R__ hGo => ?_) (by obtain ⟨r, hr⟩ : ∃ r, c32 r = (fmul (qF xs ys (j - 1)) (GT xs ys vs j (j - 1))) := ex_fop _ _ _; exact ⟨_, r, rfl, hr⟩) ?_
          · go_simp
            refine gives_enter rfl ?_
            refine (mul_any fq t0 _).mono ?_
            rintro e w2 ⟨r, rfl, hr, hx⟩
            exact ⟨_, rfl, hGo _ _ hx ⟨r, rfl, (hr.trans (by rw [hfq, HT0.out]))⟩ trivial⟩
          rintro _ ⟨f10, rfl, hf10⟩
          simp only [Act.put, List.setIfInBounds_toArray, List.set_cons_zero, List.set_cons_succ]
          refine wpT_nd (o := ⟨some 77, Op.binOp BinOp.sub 39 (Operand.tmp 69) (Operand.tmp 76) 39, 39, "l04_values.go:137", #[{ on := 3, ground := Ground.data }, { on := 10, ground := Ground.data }], none⟩) rfl (by rfl) (by rfl) (fun w' hw' hF R__ hGo => ?_) (by obtain ⟨r, hr⟩ := ex_d .sub ((by rw [HT1.out, hf10, GT_set _ _ _ hj1]) : fop .sub .f32 (c32 (t1)) (c32 (f10)) = (GT xs ys vs (j + 1) j)); exact ⟨_, r, rfl, hr⟩) ?_
          · exact gives_f .sub (.inr (.inl rfl)) _ _ _ _ rfl (t1) (f10) rfl rfl (GT xs ys vs (j + 1) j) (by rw [HT1.out, hf10, GT_set _ _ _ hj1]) (fun r w2 hx hc => hGo _ _ hx ⟨r, rfl, hc⟩ trivial)
          rintro _ ⟨f11, rfl, hf11⟩
          simp only [Act.put, List.setIfInBounds_toArray, List.set_cons_zero, List.set_cons_succ]
          refine wpT_nil (fun w8 hw' hF => ?_)
          show wpList _ _ _ [(⟨some 78, Op.indexAddr 22 (Operand.tmp 66) (Operand.tmp 67), 0, "l04_values.go:137", #[{ on := 0, ground := Ground.data }, { on := 1, ground := Ground.data }, { on := 0, ground := Ground.phase }, { on := 1, ground := Ground.phase }, { on := 2, ground := Ground.phase }, { on := 3, ground := Ground.phase }, { on := 4, ground := Ground.phase }, { on := 5, ground := Ground.phase }, { on := 6, ground := Ground.phase }, { on := 7, ground := Ground.phase }, { on := 8, ground := Ground.phase }, { on := 9, ground := Ground.phase }, { on := 10, ground := Ground.phase }, { on := 11, ground := Ground.phase }], none⟩ : Oper), (⟨none, Op.store 39 (Operand.tmp 78) (Operand.tmp 77), 0, "l04_values.go:137", #[{ on := 12, ground := Ground.data }, { on := 11, ground := Ground.data }, { on := 10, ground := Ground.chain }, { on := 0, ground := Ground.phase }, { on := 1, ground := Ground.phase }, { on := 2, ground := Ground.phase }, { on := 3, ground := Ground.phase }, { on := 4, ground := Ground.phase }, { on := 5, ground := Ground.phase }, { on := 6, ground := Ground.phase }, { on := 7, ground := Ground.phase }, { on := 8, ground := Ground.phase }, { on := 9, ground := Ground.phase }, { on := 10, ground := Ground.phase }, { on := 11, ground := Ground.phase }], none⟩ : Oper)] _ _
          have hx5 := hw'.undrew
          replace o1 := o1.ext hx5
          replace o2 := o2.ext hx5
          replace ba := ba.ext hx5
          replace hx0 := hx0.trans hx5
          clear hg0 hg1 hF hw' hx5
          obtain ⟨hd1, hfr⟩ := o2.at_ j hlt
          rw [flts_get (by have := o2.reads.flen; omega)] at hd1
          have hst := store_f32 Try.prog f11 hd1 hfr
          go_wp2_with fail
          go_roundw
          case rel =>
            obtain ⟨u1, u2, u3⟩ := Own.putF (F' := GT xs ys vs (j + 1)) hgs o2 j f11 hf11.symm (fun i _ hi => GT_next _ _ _ i hi)
            exact ⟨j + 1, by omega, by omega, by go_num, ds', gs.set j f11, p1', u1, o1.other u3 ne1, u2, u3.ext hx0 o2, ba.wr u3 o2 (by decide)⟩
          case measure => simp [intOf]; omega
        · obtain rfl : j = q := by omega
          have e1 : IntKind.i64.wrap ((j : Int) - 1) = (j : Int) - 1 := IntWalk.i64_in _ (by omega)
          have hG0 : cfs gs = lst j (XT xs ys vs j j) := by rw [hgs]; exact lst_congr (fun i hi => by rw [GT_lo _ _ _ hi, XT_hi _ _ _ hi])
          clear hgs
          go_wp2_with fail
          go_loopw [11] (fun u wr => ∃ c : Nat, c ≤ j ∧ u = .int .i64 ((c : Int) - 1) ∧ ∃ gs, cfs gs = lst j (XT xs ys vs j c) ∧ Own wr w.heap.size 39 (.slice (some ⟨g1, 0, none⟩) j k1) (flts ds) ∧ Own wr w.heap.size 39 (.slice (some ⟨g2, 0, none⟩) j k2) (flts gs) ∧ Ext w wr ∧ Blk wr w.heap.size #[.slice (some ad) j cap, .slice B m cap'] 27) (fun u _ => (intOf u + 1).toNat)
          case atStart => exact ⟨j, Nat.le_refl _, rfl, gs, hG0, o1, o2, hx0, ba⟩
          case round =>
            clear o1 o2 hx0 ba hG0
            obtain ⟨c, hc', rfl, gs, hgs, o1, o2, hx0, ba⟩ := hrel
            cases c with
            | zero =>
              have hneg : ¬ ((0 : Nat) : Int) - 1 ≥ 0 := by omega
              have hfin : cfs gs = lst j (xF xs ys vs j) := by rw [hgs]; exact lst_congr (fun i hi => XT_lo _ _ _ (Nat.zero_le _))
              clear hgs
              go_wp2_with fail
              refine (allFinite_any w.heap.size (some ⟨g2, 0, none⟩) j k2 gs _ o2 hx0.size).mono ?_
              rw [hfin, HG.out]
              rintro e w5 ⟨A3, k3, rfl, o3, hx⟩
              go_wp2_with fail
              go_ret2
              exact ⟨A3, k3, rfl, o3, hx0.trans hx⟩
            | succ i =>
              have ei : ((i + 1 : Nat) : Int) - 1 = (i : Int) := by omega
              rw [ei]
              clear ei
              have hi : i < j := by omega
              have hge : (i : Int) ≥ 0 := by omega
              have e2 : IntKind.i64.wrap ((i : Int) - 1) = (i : Int) - 1 := IntWalk.i64_in _ (by omega)
              have e3 : IntKind.i64.wrap ((i : Int) + 1) = (i : Int) + 1 := IntWalk.i64_in _ (by omega)
              have hgl : gs.length = j := o2.reads.flen
              have hdl : ds.length = j := o1.reads.flen
              by_cases hil : i + 1 = j
              · have hcm : ¬ (i : Int) < (j : Int) - 1 := by omega
                obtain ⟨hg1, _⟩ := o2.at_ i hi
                obtain ⟨hd1, _⟩ := o1.at_ i hi
                rw [flts_get (by omega)] at hg1 hd1
                obtain ⟨t1, ht1⟩ : ∃ p, p = rdf gs (i : Int) := ⟨_, rfl⟩
                obtain ⟨p1, hp1⟩ : ∃ p, p = rdf ds (i : Int) := ⟨_, rfl⟩
                rw [← ht1] at hg1
                rw [← hp1] at hd1
                have HT1 : Hid (c32 t1 = gF xs ys vs i) := by show _ = _; rw [ht1, lst_at hgs hi, XT_hi _ _ _ (by omega)]
                have HP1 : Hid (c32 p1 = dF xs ys i) := by show _ = _; rw [hp1, lst_at hds hi, DT_lo _ _ (by omega)]
                have HIL := Lib.hid hil
                clear ht1 hp1 hil hgl hdl
                go_upto_region 15 with (fail)
                refine wp_region_T (cs := []) [0, 1, 2, 3, 4, 5, 6, 7, 8] [9, 10] [8] [] (fun i__ v => match i__ with | 8 => ∃ r, v = .float .f32 r ∧ c32 r = (xF xs ys vs j i) | _ => False) (fun _ _ _ => True) (by kernel_rfl) (by kernel_rfl) (fun _ _ _ _ _ _ => trivial) ?_
                refine' wpT_det (o := ⟨some 106, Op.move (Operand.tmp 8), 22, "l04_values.go:143", #[], none⟩) rfl (by rfl) (by rfl) (fun w' hw' => ?_) ?_; rotate_left
                · go_simp <;> first | rfl | exact ⟨rfl, rfl⟩
                simp only [Act.put, List.setIfInBounds_toArray, List.set_cons_zero, List.set_cons_succ]
                refine' wpT_det (o := ⟨some 107, Op.move (Operand.tmp 11), 3, "l04_values.go:143", #[], none⟩) rfl (by rfl) (by rfl) (fun w' hw' => ?_) ?_; rotate_left
                · go_simp <;> first | rfl | exact ⟨rfl, rfl⟩
                simp only [Act.put, List.setIfInBounds_toArray, List.set_cons_zero, List.set_cons_succ]
                refine' wpT_det (o := ⟨some 108, Op.indexAddr 22 (Operand.tmp 106) (Operand.tmp 107), 0, "l04_values.go:143", #[{ on := 0, ground := Ground.data }, { on := 1, ground := Ground.data }], none⟩) rfl (by rfl) (by rfl) (fun w' hw' => ?_) ?_; rotate_left
                · go_simp <;> first | rfl | exact ⟨rfl, rfl⟩
                simp only [Act.put, List.setIfInBounds_toArray, List.set_cons_zero, List.set_cons_succ]
                refine' wpT_det (o := ⟨some 109, Op.load 39 (Operand.tmp 108), 39, "l04_values.go:143", #[{ on := 2, ground := Ground.data }], none⟩) rfl (by rfl) (by rfl) (fun w' hw' => ?_) ?_; rotate_left
                · have hg1_ := Ext.cell hw' hg1; have hd1_ := Ext.cell hw' hd1; go_simp <;> first | rfl | exact ⟨rfl, rfl⟩
                simp only [Act.put, List.setIfInBounds_toArray, List.set_cons_zero, List.set_cons_succ]
                refine' wpT_det (o := ⟨some 110, Op.move (Operand.tmp 7), 22, "l04_values.go:143", #[], none⟩) rfl (by rfl) (by rfl) (fun w' hw' => ?_) ?_; rotate_left
                · go_simp <;> first | rfl | exact ⟨rfl, rfl⟩
                simp only [Act.put, List.setIfInBounds_toArray, List.set_cons_zero, List.set_cons_succ]
                refine' wpT_det (o := ⟨some 111, Op.move (Operand.tmp 11), 3, "l04_values.go:143", #[], none⟩) rfl (by rfl) (by rfl) (fun w' hw' => ?_) ?_; rotate_left
                · go_simp <;> first | rfl | exact ⟨rfl, rfl⟩
                simp only [Act.put, List.setIfInBounds_toArray, List.set_cons_zero, List.set_cons_succ]
                refine' wpT_det (o := ⟨some 112, Op.indexAddr 22 (Operand.tmp 110) (Operand.tmp 111), 0, "l04_values.go:143", #[{ on := 4, ground := Ground.data }, { on := 5, ground := Ground.data }], none⟩) rfl (by rfl) (by rfl) (fun w' hw' => ?_) ?_; rotate_left
                · go_simp <;> first | rfl | exact ⟨rfl, rfl⟩
                simp only [Act.put, List.setIfInBounds_toArray, List.set_cons_zero, List.set_cons_succ]
                refine' wpT_det (o := ⟨some 113, Op.load 39 (Operand.tmp 112), 39, "l04_values.go:143", #[{ on := 6, ground := Ground.data }], none⟩) rfl (by rfl) (by rfl) (fun w' hw' => ?_) ?_; rotate_left
                · have hg1_ := Ext.cell hw' hg1; have hd1_ := Ext.cell hw' hd1; go_simp <;> first | rfl | exact ⟨rfl, rfl⟩
                simp only [Act.put, List.setIfInBounds_toArray, List.set_cons_zero, List.set_cons_succ]
                refine wpT_nd (o := ⟨some 114, Op.binOp BinOp.quo 39 (Operand.tmp 109) (Operand.tmp 113) 39, 39, "l04_values.go:143", #[{ on := 3, ground := Ground.data }, { on := 7, ground := Ground.data }], none⟩) rfl (by rfl) (by rfl) (fun w' hw' hF R__ hGo => ?_) (by obtain ⟨r, hr⟩ := ex_d .quo ((by rw [HT1.out, HP1.out, xF_last _ _ _ HIL.out]) : fop .quo .f32 (c32 (t1)) (c32 (p1)) = (xF xs ys vs j i)); exact ⟨_, r, rfl, hr⟩) ?_
                · exact gives_f .quo (.inr (.inr (.inr rfl))) _ _ _ _ rfl (t1) (p1) rfl rfl (xF xs ys vs j i) (by rw [HT1.out, HP1.out, xF_last _ _ _ HIL.out]) (fun r w2 hx hc => hGo _ _ hx ⟨r, rfl, hc⟩ trivial)
                rintro _ ⟨f8, rfl, hf8⟩
                simp only [Act.put, List.setIfInBounds_toArray, List.set_cons_zero, List.set_cons_succ]
                refine wpT_nil (fun w6 hw' hF => ?_)
                show wpList _ _ _ [(⟨some 115, Op.indexAddr 22 (Operand.tmp 106) (Operand.tmp 107), 0, "l04_values.go:143", #[{ on := 0, ground := Ground.data }, { on := 1, ground := Ground.data }, { on := 0, ground := Ground.phase }, { on := 1, ground := Ground.phase }, { on := 2, ground := Ground.phase }, { on := 3, ground := Ground.phase }, { on := 4, ground := Ground.phase }, { on := 5, ground := Ground.phase }, { on := 6, ground := Ground.phase }, { on := 7, ground := Ground.phase }, { on := 8, ground := Ground.phase }], none⟩ : Oper), (⟨none, Op.store 39 (Operand.tmp 115) (Operand.tmp 114), 0, "l04_values.go:143", #[{ on := 9, ground := Ground.data }, { on := 8, ground := Ground.data }, { on := 0, ground := Ground.phase }, { on := 1, ground := Ground.phase }, { on := 2, ground := Ground.phase }, { on := 3, ground := Ground.phase }, { on := 4, ground := Ground.phase }, { on := 5, ground := Ground.phase }, { on := 6, ground := Ground.phase }, { on := 7, ground := Ground.phase }, { on := 8, ground := Ground.phase }], none⟩ : Oper)] _ _
                have hx5 := hw'.undrew
                replace o1 := o1.ext hx5
                replace o2 := o2.ext hx5
                replace ba := ba.ext hx5
                replace hx0 := hx0.trans hx5
                clear hg1 hd1 hF hw' hx5
                obtain ⟨hd1, hfr⟩ := o2.at_ i hi
                rw [flts_get (by have := o2.reads.flen; omega)] at hd1
                have hst := store_f32 Try.prog f8 hd1 hfr
                go_wp2_with fail
                go_roundw
                case rel =>
                  obtain ⟨u1, u2, u3⟩ := Own.putF (F' := XT xs ys vs j i) hgs o2 i f8 (by rw [hf8, XT_lo _ _ _ (Nat.le_refl _)]) (fun k _ hk => XT_next _ _ _ k hk)
                  exact ⟨i, by omega, by go_num, gs.set i f8, u1, o1.other u3 ne1, u2, u3.ext hx0 o2, ba.wr u3 o2 (by decide)⟩
                case measure => simp [intOf]
              · have hcm : (i : Int) < (j : Int) - 1 := by omega
                have c1 := ba.cell 1 rfl
                obtain ⟨ab, rfl, hcb⟩ := (hq.below hx0).fltN i (by omega)
                have him : (i : Int) < (m : Int) := by omega
                have hij : (i : Int) + 1 < (j : Int) := by omega
                obtain ⟨y, hy⟩ : ∃ y, y = rdf ys (i : Int) := ⟨_, rfl⟩
                rw [← hy] at hcb
                have HY : Hid (c32 y = entry ys i) := by show _ = _; rw [hy]
                obtain ⟨hg1, _⟩ := o2.at_ i hi
                obtain ⟨hg2, _⟩ := o2.at_ (i + 1) (by omega)
                rw [flts_get (by omega)] at hg1 hg2
                obtain ⟨t1, ht1⟩ : ∃ p, p = rdf gs (i : Int) := ⟨_, rfl⟩
                obtain ⟨t2, ht2⟩ : ∃ p, p = rdf gs ((i + 1 : Nat) : Int) := ⟨_, rfl⟩
                rw [← ht1] at hg1
                rw [← ht2] at hg2
                have HT1 : Hid (c32 t1 = gF xs ys vs i) := by show _ = _; rw [ht1, lst_at hgs hi, XT_hi _ _ _ (by omega)]
                have HT2 : Hid (c32 t2 = xF xs ys vs j (i + 1)) := by show _ = _; rw [ht2, lst_at hgs (by omega), XT_lo _ _ _ (Nat.le_refl _)]
                have HIL : Hid (i + 1 < j) := by show _ < _; omega
                clear ht1 ht2 hy hil
                go_upto_region 14 with (fail)
                refine wp_region_T (cs := []) [0, 1, 2, 3, 4, 5, 6, 7, 8, 9, 10, 11, 12, 13, 14, 15] [16, 17] [14, 15] [] (fun i__ v => match i__ with | 14 => ∃ r, v = .float .f32 r ∧ c32 r = (fmul (entry ys i) (xF xs ys vs j (i + 1))) | 15 => ∃ r, v = .float .f32 r ∧ c32 r = (fsub (gF xs ys vs i) (fmul (entry ys i) (xF xs ys vs j (i + 1)))) | _ => False) (fun _ _ _ => True) (by kernel_rfl) (by kernel_rfl) (fun _ _ _ _ _ _ => trivial) ?_
                refine' wpT_det (o := ⟨some 89, Op.move (Operand.tmp 8), 22, "l04_values.go:141", #[], none⟩) rfl (by rfl) (by rfl) (fun w' hw' => ?_) ?_; rotate_left
                · go_simp <;> first | rfl | exact ⟨rfl, rfl⟩
                simp only [Act.put, List.setIfInBounds_toArray, List.set_cons_zero, List.set_cons_succ]
                refine' wpT_det (o := ⟨some 90, Op.move (Operand.tmp 11), 3, "l04_values.go:141", #[], none⟩) rfl (by rfl) (by rfl) (fun w' hw' => ?_) ?_; rotate_left
                · go_simp <;> first | rfl | exact ⟨rfl, rfl⟩
                simp only [Act.put, List.setIfInBounds_toArray, List.set_cons_zero, List.set_cons_succ]
                refine' wpT_det (o := ⟨some 91, Op.indexAddr 22 (Operand.tmp 89) (Operand.tmp 90), 0, "l04_values.go:141", #[{ on := 0, ground := Ground.data }, { on := 1, ground := Ground.data }], none⟩) rfl (by rfl) (by rfl) (fun w' hw' => ?_) ?_; rotate_left
                · go_simp <;> first | rfl | exact ⟨rfl, rfl⟩
                simp only [Act.put, List.setIfInBounds_toArray, List.set_cons_zero, List.set_cons_succ]
                refine' wpT_det (o := ⟨some 92, Op.load 39 (Operand.tmp 91), 39, "l04_values.go:141", #[{ on := 2, ground := Ground.data }], none⟩) rfl (by rfl) (by rfl) (fun w' hw' => ?_) ?_; rotate_left
                · have hg1_ := Ext.cell hw' hg1; have hg2_ := Ext.cell hw' hg2; have c1_ := Ext.cell hw' c1; have hcb_ := Ext.cell hw' hcb; go_simp <;> first | rfl | exact ⟨rfl, rfl⟩
                simp only [Act.put, List.setIfInBounds_toArray, List.set_cons_zero, List.set_cons_succ]
                refine' wpT_det (o := ⟨some 93, Op.fieldAddr 27 (Operand.tmp 2) 1, 0, "l04_values.go:141", #[], none⟩) rfl (by rfl) (by rfl) (fun w' hw' => ?_) ?_; rotate_left
                · go_simp <;> first | rfl | exact ⟨rfl, rfl⟩
                simp only [Act.put, List.setIfInBounds_toArray, List.set_cons_zero, List.set_cons_succ]
                refine' wpT_det (o := ⟨some 94, Op.load 22 (Operand.tmp 93), 22, "l04_values.go:141", #[{ on := 4, ground := Ground.data }], none⟩) rfl (by rfl) (by rfl) (fun w' hw' => ?_) ?_; rotate_left
                · have hg1_ := Ext.cell hw' hg1; have hg2_ := Ext.cell hw' hg2; have c1_ := Ext.cell hw' c1; have hcb_ := Ext.cell hw' hcb; go_simp <;> first | rfl | exact ⟨rfl, rfl⟩
                simp only [Act.put, List.setIfInBounds_toArray, List.set_cons_zero, List.set_cons_succ]
                refine' wpT_det (o := ⟨some 95, Op.move (Operand.tmp 11), 3, "l04_values.go:141", #[], none⟩) rfl (by rfl) (by rfl) (fun w' hw' => ?_) ?_; rotate_left
                · go_simp <;> first | rfl | exact ⟨rfl, rfl⟩
                simp only [Act.put, List.setIfInBounds_toArray, List.set_cons_zero, List.set_cons_succ]
                refine' wpT_det (o := ⟨some 96, Op.indexAddr 22 (Operand.tmp 94) (Operand.tmp 95), 0, "l04_values.go:141", #[{ on := 5, ground := Ground.data }, { on := 6, ground := Ground.data }], none⟩) rfl (by rfl) (by rfl) (fun w' hw' => ?_) ?_; rotate_left
                · go_simp <;> first | rfl | exact ⟨rfl, rfl⟩
                simp only [Act.put, List.setIfInBounds_toArray, List.set_cons_zero, List.set_cons_succ]
                refine' wpT_det (o := ⟨some 97, Op.load 39 (Operand.tmp 96), 39, "l04_values.go:141", #[{ on := 7, ground := Ground.data }], none⟩) rfl (by rfl) (by rfl) (fun w' hw' => ?_) ?_; rotate_left
                · have hg1_ := Ext.cell hw' hg1; have hg2_ := Ext.cell hw' hg2; have c1_ := Ext.cell hw' c1; have hcb_ := Ext.cell hw' hcb; go_simp <;> first | rfl | exact ⟨rfl, rfl⟩
                simp only [Act.put, List.setIfInBounds_toArray, List.set_cons_zero, List.set_cons_succ]
                refine' wpT_det (o := ⟨some 98, Op.move (Operand.tmp 8), 22, "l04_values.go:141", #[], none⟩) rfl (by rfl) (by rfl) (fun w' hw' => ?_) ?_; rotate_left
                · go_simp <;> first | rfl | exact ⟨rfl, rfl⟩
                simp only [Act.put, List.setIfInBounds_toArray, List.set_cons_zero, List.set_cons_succ]
                refine' wpT_det (o := ⟨some 99, Op.move (Operand.tmp 11), 3, "l04_values.go:141", #[], none⟩) rfl (by rfl) (by rfl) (fun w' hw' => ?_) ?_; rotate_left
                · go_simp <;> first | rfl | exact ⟨rfl, rfl⟩
                simp only [Act.put, List.setIfInBounds_toArray, List.set_cons_zero, List.set_cons_succ]
                refine' wpT_det (o := ⟨some 100, Op.binOp BinOp.add 3 (Operand.tmp 99) (Operand.const (Value.int IntKind.i64 1)) 3, 3, "l04_values.go:141", #[{ on := 10, ground := Ground.data }], none⟩) rfl (by rfl) (by rfl) (fun w' hw' => ?_) ?_; rotate_left
                · go_simp <;> first | rfl | exact ⟨rfl, rfl⟩
                simp only [Act.put, List.setIfInBounds_toArray, List.set_cons_zero, List.set_cons_succ]
                refine' wpT_det (o := ⟨some 101, Op.indexAddr 22 (Operand.tmp 98) (Operand.tmp 100), 0, "l04_values.go:141", #[{ on := 9, ground := Ground.data }, { on := 11, ground := Ground.data }], none⟩) rfl (by rfl) (by rfl) (fun w' hw' => ?_) ?_; rotate_left
                · go_simp <;> first | rfl | exact ⟨rfl, rfl⟩
                simp only [Act.put, List.setIfInBounds_toArray, List.set_cons_zero, List.set_cons_succ]
                refine' wpT_det (o := ⟨some 102, Op.load 39 (Operand.tmp 101), 39, "l04_values.go:141", #[{ on := 12, ground := Ground.data }], none⟩) rfl (by rfl) (by rfl) (fun w' hw' => ?_) ?_; rotate_left
                · have hg1_ := Ext.cell hw' hg1; have hg2_ := Ext.cell hw' hg2; have c1_ := Ext.cell hw' c1; have hcb_ := Ext.cell hw' hcb; go_simp <;> first | rfl | exact ⟨rfl, rfl⟩
                simp only [Act.put, List.setIfInBounds_toArray, List.set_cons_zero, List.set_cons_succ]
                refine wpT_nd (o := ⟨some 103, Op.call { callee := Callee.value (Operand.func 119), args := #[Operand.tmp 97, Operand.tmp 102], argTypes := #[39, 39] }, 39, "l04_values.go:141", #[{ on := 8, ground := Ground.data }, { on := 13, ground := Ground.data }], none⟩) rfl (by rfl) (by rfl) (fun w' hw' hF R__ hGo => ?_) (by obtain ⟨r, hr⟩ : ∃ r, c32 r = (fmul (entry ys i) (xF xs ys vs j (i + 1))) := ex_fop _ _ _; exact ⟨_, r, rfl, hr⟩) ?_
                · go_simp
                  refine gives_enter rfl ?_
                  refine (mul_any y t2 _).mono ?_
                  rintro e w2 ⟨r, rfl, hr, hx⟩
                  exact ⟨_, rfl, hGo _ _ hx ⟨r, rfl, (hr.trans (by rw [HY.out, HT2.out]))⟩ trivial⟩
                rintro _ ⟨f14, rfl, hf14⟩
                simp only [Act.put, List.setIfInBounds_toArray, List.set_cons_zero, List.set_cons_succ]
                refine wpT_nd (o := ⟨some 104, Op.binOp BinOp.sub 39 (Operand.tmp 92) (Operand.tmp 103) 39, 39, "l04_values.go:141", #[{ on := 3, ground := Ground.data }, { on := 14, ground := Ground.data }], none⟩) rfl (by rfl) (by rfl) (fun w' hw' hF R__ hGo => ?_) (by obtain ⟨r, hr⟩ := ex_d .sub ((by rw [HT1.out, hf14]) : fop .sub .f32 (c32 (t1)) (c32 (f14)) = (fsub (gF xs ys vs i) (fmul (entry ys i) (xF xs ys vs j (i + 1))))); exact ⟨_, r, rfl, hr⟩) ?_
                · exact gives_f .sub (.inr (.inl rfl)) _ _ _ _ rfl (t1) (f14) rfl rfl (fsub (gF xs ys vs i) (fmul (entry ys i) (xF xs ys vs j (i + 1)))) (by rw [HT1.out, hf14]) (fun r w2 hx hc => hGo _ _ hx ⟨r, rfl, hc⟩ trivial)
                rintro _ ⟨f15, rfl, hf15⟩
                simp only [Act.put, List.setIfInBounds_toArray, List.set_cons_zero, List.set_cons_succ]
                refine wpT_nil (fun w6 hw' hF => ?_)
                show wpList _ _ _ [(⟨some 105, Op.indexAddr 22 (Operand.tmp 89) (Operand.tmp 90), 0, "l04_values.go:141", #[{ on := 0, ground := Ground.data }, { on := 1, ground := Ground.data }, { on := 0, ground := Ground.phase }, { on := 1, ground := Ground.phase }, { on := 2, ground := Ground.phase }, { on := 3, ground := Ground.phase }, { on := 4, ground := Ground.phase }, { on := 5, ground := Ground.phase }, { on := 6, ground := Ground.phase }, { on := 7, ground := Ground.phase }, { on := 8, ground := Ground.phase }, { on := 9, ground := Ground.phase }, { on := 10, ground := Ground.phase }, { on := 11, ground := Ground.phase }, { on := 12, ground := Ground.phase }, { on := 13, ground := Ground.phase }, { on := 14, ground := Ground.phase }, { on := 15, ground := Ground.phase }], none⟩ : Oper), (⟨none, Op.store 39 (Operand.tmp 105) (Operand.tmp 104), 0, "l04_values.go:141", #[{ on := 16, ground := Ground.data }, { on := 15, ground := Ground.data }, { on := 14, ground := Ground.chain }, { on := 0, ground := Ground.phase }, { on := 1, ground := Ground.phase }, { on := 2, ground := Ground.phase }, { on := 3, ground := Ground.phase }, { on := 4, ground := Ground.phase }, { on := 5, ground := Ground.phase }, { on := 6, ground := Ground.phase }, { on := 7, ground := Ground.phase }, { on := 8, ground := Ground.phase }, { on := 9, ground := Ground.phase }, { on := 10, ground := Ground.phase }, { on := 11, ground := Ground.phase }, { on := 12, ground := Ground.phase }, { on := 13, ground := Ground.phase }, { on := 14, ground := Ground.phase }, { on := 15, ground := Ground.phase }], none⟩ : Oper)] _ _
                have hx5 := hw'.undrew
                replace o1 := o1.ext hx5
                replace o2 := o2.ext hx5
                replace ba := ba.ext hx5
                replace hx0 := hx0.trans hx5
                clear hg1 hg2 c1 hcb hF hw' hx5
                obtain ⟨hd1, hfr⟩ := o2.at_ i hi
                rw [flts_get (by have := o2.reads.flen; omega)] at hd1
                have hst := store_f32 Try.prog f15 hd1 hfr
                obtain ⟨u1, u2, u3⟩ := Own.putF (F' := upd1 (XT xs ys vs j (i + 1)) i (c32 f15)) hgs o2 i f15 (upd1_same _ _ _) (fun k _ hk => upd1_other _ hk)
                replace o1 := o1.other u3 ne1
                replace ba := ba.wr u3 o2 (by decide)
                replace hx0 := u3.ext hx0 o2
                go_upto_region 15 with (fail)
                obtain ⟨w7, hw7⟩ : ∃ v : World, v = w6.setCell ⟨g2, i, none⟩ (.float .f32 f15) := ⟨_, rfl⟩
                rw [← hw7] at u2 u3 o1 ba hx0 ⊢
                obtain ⟨gs', hgs'⟩ : ∃ gs', gs' = gs.set i f15 := ⟨_, rfl⟩
                rw [← hgs'] at u1 u2
                have hgl' : gs'.length = j := u2.reads.flen
                clear hw7 hst hd1 hfr o2 u3 hgs hgs' hgl
                obtain ⟨hg1, _⟩ := u2.at_ i hi
                obtain ⟨hd1, _⟩ := o1.at_ i hi
                rw [flts_get (by omega)] at hg1 hd1
                obtain ⟨s1, hs1⟩ : ∃ p, p = rdf gs' (i : Int) := ⟨_, rfl⟩
                obtain ⟨p1, hp1⟩ : ∃ p, p = rdf ds (i : Int) := ⟨_, rfl⟩
                rw [← hs1] at hg1
                rw [← hp1] at hd1
                have HS1 : Hid (c32 s1 = fsub (gF xs ys vs i) (fmul (entry ys i) (xF xs ys vs j (i + 1)))) := by show _ = _; rw [hs1, lst_at u1 hi, upd1_same, hf15]
                have HP1 : Hid (c32 p1 = dF xs ys i) := by show _ = _; rw [hp1, lst_at hds hi, DT_lo _ _ (by omega)]
                clear hs1 hp1 hdl hgl'
                refine wp_region_T (cs := []) [0, 1, 2, 3, 4, 5, 6, 7, 8] [9, 10] [8] [] (fun i__ v => match i__ with | 8 => ∃ r, v = .float .f32 r ∧ c32 r = (xF xs ys vs j i) | _ => False) (fun _ _ _ => True) (by kernel_rfl) (by kernel_rfl) (fun _ _ _ _ _ _ => trivial) ?_
                refine' wpT_det (o := ⟨some 106, Op.move (Operand.tmp 8), 22, "l04_values.go:143", #[], none⟩) rfl (by rfl) (by rfl) (fun w' hw' => ?_) ?_; rotate_left
                · go_simp <;> first | rfl | exact ⟨rfl, rfl⟩
                simp only [Act.put, List.setIfInBounds_toArray, List.set_cons_zero, List.set_cons_succ]
                refine' wpT_det (o := ⟨some 107, Op.move (Operand.tmp 11), 3, "l04_values.go:143", #[], none⟩) rfl (by rfl) (by rfl) (fun w' hw' => ?_) ?_; rotate_left
                · go_simp <;> first | rfl | exact ⟨rfl, rfl⟩
                simp only [Act.put, List.setIfInBounds_toArray, List.set_cons_zero, List.set_cons_succ]
                refine' wpT_det (o := ⟨some 108, Op.indexAddr 22 (Operand.tmp 106) (Operand.tmp 107), 0, "l04_values.go:143", #[{ on := 0, ground := Ground.data }, { on := 1, ground := Ground.data }], none⟩) rfl (by rfl) (by rfl) (fun w' hw' => ?_) ?_; rotate_left
                · go_simp <;> first | rfl | exact ⟨rfl, rfl⟩
                simp only [Act.put, List.setIfInBounds_toArray, List.set_cons_zero, List.set_cons_succ]
                refine' wpT_det (o := ⟨some 109, Op.load 39 (Operand.tmp 108), 39, "l04_values.go:143", #[{ on := 2, ground := Ground.data }], none⟩) rfl (by rfl) (by rfl) (fun w' hw' => ?_) ?_; rotate_left
                · have hg1_ := Ext.cell hw' hg1; have hd1_ := Ext.cell hw' hd1; go_simp <;> first | rfl | exact ⟨rfl, rfl⟩
                simp only [Act.put, List.setIfInBounds_toArray, List.set_cons_zero, List.set_cons_succ]
                refine' wpT_det (o := ⟨some 110, Op.move (Operand.tmp 7), 22, "l04_values.go:143", #[], none⟩) rfl (by rfl) (by rfl) (fun w' hw' => ?_) ?_; rotate_left
                · go_simp <;> first | rfl | exact ⟨rfl, rfl⟩
                simp only [Act.put, List.setIfInBounds_toArray, List.set_cons_zero, List.set_cons_succ]
                refine' wpT_det (o := ⟨some 111, Op.move (Operand.tmp 11), 3, "l04_values.go:143", #[], none⟩) rfl (by rfl) (by rfl) (fun w' hw' => ?_) ?_; rotate_left
                · go_simp <;> first | rfl | exact ⟨rfl, rfl⟩
                simp only [Act.put, List.setIfInBounds_toArray, List.set_cons_zero, List.set_cons_succ]
                refine' wpT_det (o := ⟨some 112, Op.indexAddr 22 (Operand.tmp 110) (Operand.tmp 111), 0, "l04_values.go:143", #[{ on := 4, ground := Ground.data }, { on := 5, ground := Ground.data }], none⟩) rfl (by rfl) (by rfl) (fun w' hw' => ?_) ?_; rotate_left
                · go_simp <;> first | rfl | exact ⟨rfl, rfl⟩
                simp only [Act.put, List.setIfInBounds_toArray, List.set_cons_zero, List.set_cons_succ]
                refine' wpT_det (o := ⟨some 113, Op.load 39 (Operand.tmp 112), 39, "l04_values.go:143", #[{ on := 6, ground := Ground.data }], none⟩) rfl (by rfl) (by rfl) (fun w' hw' => ?_) ?_; rotate_left
                · have hg1_ := Ext.cell hw' hg1; have hd1_ := Ext.cell hw' hd1; go_simp <;> first | rfl | exact ⟨rfl, rfl⟩
                simp only [Act.put, List.setIfInBounds_toArray, List.set_cons_zero, List.set_cons_succ]
                refine wpT_nd (o := ⟨some 114, Op.binOp BinOp.quo 39 (Operand.tmp 109) (Operand.tmp 113) 39, 39, "l04_values.go:143", #[{ on := 3, ground := Ground.data }, { on := 7, ground := Ground.data }], none⟩) rfl (by rfl) (by rfl) (fun w' hw' hF R__ hGo => ?_) (by obtain ⟨r, hr⟩ := ex_d .quo ((by rw [HS1.out, HP1.out, xF_step _ _ _ HIL.out]) : fop .quo .f32 (c32 (s1)) (c32 (p1)) = (xF xs ys vs j i)); exact ⟨_, r, rfl, hr⟩) ?_
                · exact gives_f .quo (.inr (.inr (.inr rfl))) _ _ _ _ rfl (s1) (p1) rfl rfl (xF xs ys vs j i) (by rw [HS1.out, HP1.out, xF_step _ _ _ HIL.out]) (fun r w2 hx hc => hGo _ _ hx ⟨r, rfl, hc⟩ trivial)
                rintro _ ⟨f8, rfl, hf8⟩
                simp only [Act.put, List.setIfInBounds_toArray, List.set_cons_zero, List.set_cons_succ]
                refine wpT_nil (fun w8 hw' hF => ?_)
                show wpList _ _ _ [(⟨some 115, Op.indexAddr 22 (Operand.tmp 106) (Operand.tmp 107), 0, "l04_values.go:143", #[{ on := 0, ground := Ground.data }, { on := 1, ground := Ground.data }, { on := 0, ground := Ground.phase }, { on := 1, ground := Ground.phase }, { on := 2, ground := Ground.phase }, { on := 3, ground := Ground.phase }, { on := 4, ground := Ground.phase }, { on := 5, ground := Ground.phase }, { on := 6, ground := Ground.phase }, { on := 7, ground := Ground.phase }, { on := 8, ground := Ground.phase }], none⟩ : Oper), (⟨none, Op.store 39 (Operand.tmp 115) (Operand.tmp 114), 0, "l04_values.go:143", #[{ on := 9, ground := Ground.data }, { on := 8, ground := Ground.data }, { on := 0, ground := Ground.phase }, { on := 1, ground := Ground.phase }, { on := 2, ground := Ground.phase }, { on := 3, ground := Ground.phase }, { on := 4, ground := Ground.phase }, { on := 5, ground := Ground.phase }, { on := 6, ground := Ground.phase }, { on := 7, ground := Ground.phase }, { on := 8, ground := Ground.phase }], none⟩ : Oper)] _ _
                have hx5 := hw'.undrew
                replace o1 := o1.ext hx5
                replace u2 := u2.ext hx5
                replace ba := ba.ext hx5
                replace hx0 := hx0.trans hx5
                clear hg1 hd1 hF hw' hx5
                obtain ⟨hd1, hfr⟩ := u2.at_ i hi
                rw [flts_get (by have := u2.reads.flen; omega)] at hd1
                have hst := store_f32 Try.prog f8 hd1 hfr
                go_wp2_with fail
                go_roundw
                case rel =>
                  obtain ⟨v1, v2, v3⟩ := Own.putF (F' := XT xs ys vs j i) u1 u2 i f8 (by rw [hf8, XT_lo _ _ _ (Nat.le_refl _)]) (fun k _ hk => by rw [upd1_other _ hk]; exact XT_next _ _ _ k hk)
                  exact ⟨i, by omega, by go_num, gs'.set i f8, v1, o1.other v3 ne1, v2, v3.ext hx0 u2, ba.wr v3 u2 (by decide)⟩
                case measure => simp [intOf]

end Go.Proofs.Ytgjfdfmbknmpaaa
