import Derived.Test.YtgjfdfmbknmpaaaM51
set_option linter.unusedVariables false
set_option linter.unusedSimpArgs false
namespace Go.Proofs.Ytgjfdfmbknmpaaa
open Go.RowKit

theorem rds_cells {w : World} {ad : Addr} {n : Nat} {vs : List Value} (h : Rds w (some ad) n vs) : ∀ j u, vs[j]? = some u → w.cell? (ad.add j) = some u := by
  intro j u hu
  have hj := (List.getElem?_eq_some_iff.1 hu).1
  obtain ⟨ad', he, hc⟩ := h.at' (by have := h.len; omega)
  obtain rfl := Option.some.inj he
  rw [hc j (by have := h.len; omega), hu]

set_option maxRecDepth 20000 in
set_option maxHeartbeats 16000000 in
theorem specSolveChain_any (A : Option Addr) (n cap : Nat) (B : Option Addr) (m cap' : Nat) (V : Option Addr) (q capv : Nat) (xs ys vs : List Nat) (w : World) (hr : Rds w A n (flts xs)) (hq : Rds w B m (flts ys)) (hv : Rds w V q (flts vs)) :
    Calls Try.prog 71 #[.agg #[.slice A n cap, .slice B m cap'], .slice V q capv] w (RetLD w (solD xs ys vs)) := by
  have HL := Lib.hid hr.flen
  have HL2 := Lib.hid hq.flen
  have HL3 := Lib.hid hv.flen
  have hs1 := hr.small
  have hs2 := hv.small
  cases hc : isCh xs ys with
  | false =>
    have hd := sol_bad (xs := xs) (ys := ys) (vs := vs) (by unfold solB; rw [hc]; rfl)
    go_enter Try.func71, Try.ntmps71
    go_upto_region 1 with (fail)
    obtain ⟨w0, hw0⟩ : ∃ w0, w0 = (w.alloc (.cells #[.slice A n cap, .slice B m cap'] 27)) := ⟨_, rfl⟩
    have hx0 : Ext w w0 := by subst hw0; exact (Ext.refl _).alloc _
    have ba : Blk w0 (w.heap.size) #[.slice A n cap, .slice B m cap'] 27 := by subst hw0; exact (Blk.new w _ _)
    rw [← hw0]
    clear hw0
    have a0 := ba.cell 0 rfl
    go_wp2_with fail
    refine (l04Is_any _ A n cap B m cap' xs ys _ (CAt.of ba (hr.below hx0) (hq.below hx0))).mono ?_
    rintro e w1 ⟨rfl, hx⟩
    rw [hc]
    replace hx0 := hx0.trans hx
    clear a0 hx
    go_wp2_with fail
    go_ret2
    exact RetLDb.bad hd hx0
  | true =>
    cases hvv : isVec vs with
    | false =>
      have hd := sol_bad (xs := xs) (ys := ys) (vs := vs) (by unfold solB; rw [hc, hvv]; rfl)
      go_enter Try.func71, Try.ntmps71
      go_upto_region 1 with (fail)
      obtain ⟨w0, hw0⟩ : ∃ w0, w0 = (w.alloc (.cells #[.slice A n cap, .slice B m cap'] 27)) := ⟨_, rfl⟩
      have hx0 : Ext w w0 := by subst hw0; exact (Ext.refl _).alloc _
      have ba : Blk w0 (w.heap.size) #[.slice A n cap, .slice B m cap'] 27 := by subst hw0; exact (Blk.new w _ _)
      rw [← hw0]
      clear hw0
      have a0 := ba.cell 0 rfl
      go_wp2_with fail
      refine (l04Is_any _ A n cap B m cap' xs ys _ (CAt.of ba (hr.below hx0) (hq.below hx0))).mono ?_
      rintro e w1 ⟨rfl, hx⟩
      rw [hc]
      replace hx0 := hx0.trans hx
      clear a0 hx
      go_wp2_with fail
      refine (l02Vector_any V q capv vs _ (hv.below hx0)).mono ?_
      rintro e w2 ⟨rfl, hx⟩
      rw [hvv]
      replace hx0 := hx0.trans hx
      clear  hx
      go_wp2_with fail
      go_ret2
      exact RetLDb.bad hd hx0
    | true =>
      by_cases hqn : q = n
      rotate_left
      · have hqn' : ((q : Int) != (n : Int)) = true := by simp; omega
        have hd := sol_bad (xs := xs) (ys := ys) (vs := vs) (by unfold solB; rw [hc, hvv, HL.out, HL3.out, decide_eq_false hqn]; rfl)
        go_enter Try.func71, Try.ntmps71
        go_upto_region 1 with (fail)
        obtain ⟨w0, hw0⟩ : ∃ w0, w0 = (w.alloc (.cells #[.slice A n cap, .slice B m cap'] 27)) := ⟨_, rfl⟩
        have hx0 : Ext w w0 := by subst hw0; exact (Ext.refl _).alloc _
        have ba : Blk w0 (w.heap.size) #[.slice A n cap, .slice B m cap'] 27 := by subst hw0; exact (Blk.new w _ _)
        rw [← hw0]
        clear hw0
        have a0 := ba.cell 0 rfl
        go_wp2_with fail
        refine (l04Is_any _ A n cap B m cap' xs ys _ (CAt.of ba (hr.below hx0) (hq.below hx0))).mono ?_
        rintro e w1 ⟨rfl, hx⟩
        rw [hc]
        replace hx0 := hx0.trans hx
        clear a0 hx
        go_wp2_with fail
        refine (l02Vector_any V q capv vs _ (hv.below hx0)).mono ?_
        rintro e w2 ⟨rfl, hx⟩
        rw [hvv]
        replace hx0 := hx0.trans hx
        clear  hx
        go_wp2_with fail
        go_ret2
        exact RetLDb.bad hd hx0
      obtain rfl := hqn
      have HG := Lib.hid (sol_good (xs := xs) (ys := ys) (vs := vs) (by unfold solB; rw [hc, hvv, HL.out, HL3.out]; simp) HL.out)
      have HD1 : Hid (cfs xs = lst q (DT xs ys 1)) := by show _ = _; rw [← DT_1 xs ys, HL.out]
      have HG1 : Hid (cfs vs = lst q (GT xs ys vs 1)) := by show _ = _; rw [← GT_1 xs ys vs, HL3.out]
      have HF1 := Lib.hid hr.len
      have HF2 := Lib.hid hv.len
      obtain ⟨hnm, hn1, hn12⟩ := ch_nat hc
      rw [HL.out] at hnm hn1 hn12
      rw [HL2.out] at hnm
      obtain ⟨d, hd⟩ : ∃ d, d = solD xs ys vs := ⟨_, rfl⟩
      rw [← hd] at HG ⊢
      clear hd
      have hqq : ((q : Int) != (q : Int)) = false := by simp
      go_enter Try.func71, Try.ntmps71
      go_upto_region 1 with (fail)
      obtain ⟨w0, hw0⟩ : ∃ w0, w0 = (w.alloc (.cells #[.slice A q cap, .slice B m cap'] 27)) := ⟨_, rfl⟩
      have hx0 : Ext w w0 := by subst hw0; exact (Ext.refl _).alloc _
      have ba : Blk w0 (w.heap.size) #[.slice A q cap, .slice B m cap'] 27 := by subst hw0; exact (Blk.new w _ _)
      rw [← hw0]
      clear hw0
      obtain ⟨ad, rfl, _⟩ := hr.fltN 0 (by omega)
      obtain ⟨av, rfl, _⟩ := hv.fltN 0 (by omega)
      have a0 := ba.cell 0 rfl
      go_wp2_with fail
      refine (l04Is_any _ _ q cap B m cap' xs ys _ (CAt.of ba (hr.below hx0) (hq.below hx0))).mono ?_
      rintro e w1 ⟨rfl, hx⟩
      rw [hc]
      replace ba := ba.ext hx
      replace hx0 := hx0.trans hx
      clear a0 hx
      go_wp2_with fail
      refine (l02Vector_any _ q capv vs _ (hv.below hx0)).mono ?_
      rintro e w2 ⟨rfl, hx⟩
      rw [hvv]
      replace ba := ba.ext hx
      replace hx0 := hx0.trans hx
      clear  hx
      have a0 := (ba.ext ((Ext.refl w2).alloc (.cells #[] 39))).cell 0 rfl
      have hm1 := Lib.hid (rds_cells ((hr.below hx0).below ((Ext.refl w2).alloc (.cells #[] 39))))
      have hb1 := hx0.size
      go_upto_region 5 with (at_builtin; go_loud (refine wpList_appN rfl _ _ _ rfl (w2.alloc (.cells #[] 39)) w2.heap.size 39 (.float .f32 0) 4 Try.underlying22 info_f32 rfl (by decide) (.slice (some ⟨w2.heap.size, 0, none⟩) 0 0) [] rfl ad q cap (flts xs) rfl HF1.out hm1.out (Own.empty w2 39) (flts_oneCell' _) (by simp; omega) (by simp) ?_); rw [List.nil_append, List.length_nil, Nat.zero_add]; intro A1 k1 w3 o1 h6 _)
      have hx : Ext w2 w3 := h6.ext ((Ext.refl w2).alloc _) (Own.empty w2 39)
      replace ba := ba.ext hx
      replace hx0 := hx0.trans hx
      obtain ⟨g1, rfl, _⟩ := o1.head (by omega)
      clear a0 hx h6 hm1
      have hm2 := Lib.hid (rds_cells ((hv.below hx0).below ((Ext.refl w3).alloc (.cells #[] 39))))
      go_wp2_with (at_builtin; go_loud (refine wpList_appN rfl _ _ _ rfl (w3.alloc (.cells #[] 39)) w3.heap.size 39 (.float .f32 0) 4 Try.underlying22 info_f32 rfl (by decide) (.slice (some ⟨w3.heap.size, 0, none⟩) 0 0) [] rfl av q capv (flts vs) rfl HF2.out hm2.out (Own.empty w3 39) (flts_oneCell' _) (by simp; omega) (by simp) ?_); rw [List.nil_append, List.length_nil, Nat.zero_add]; intro A2 k2 w4 o2 h6 _)
      have hx : Ext w3 w4 := h6.ext ((Ext.refl w3).alloc _) (Own.empty w3 39)
      obtain ⟨ne1, ne2⟩ := Own.ne o1 o2
      replace ba := ba.ext hx
      have o1' := (o1.ext hx).base hb1
      have o2' := o2.base hx0.size
      replace hx0 := hx0.trans hx
      obtain ⟨g2, rfl, _⟩ := o2.head (by omega)
      clear hx o1 o2 hb1 h6 hm2
      go_loopw [9] (fun u wr => ∃ j : Nat, 1 ≤ j ∧ j ≤ q ∧ u = .int .i64 j ∧ ∃ ds gs, cfs ds = lst q (DT xs ys j) ∧ cfs gs = lst q (GT xs ys vs j) ∧ Own wr w.heap.size 39 (.slice (some ⟨g1, 0, none⟩) q k1) (flts ds) ∧ Own wr w.heap.size 39 (.slice (some ⟨g2, 0, none⟩) q k2) (flts gs) ∧ Ext w wr ∧ Blk wr w.heap.size #[.slice (some ad) q cap, .slice B m cap'] 27) (fun u _ => q - (intOf u).toNat)
      case atStart => exact ⟨1, Nat.le_refl _, hn1, rfl, xs, vs, HD1.out, HG1.out, o1', o2', hx0, ba⟩
      case round =>
        clear o1' o2' hx0 ba
        obtain ⟨j, hj1, hj, rfl, ds, gs, hds, hgs, o1, o2, hx0, ba⟩ := hrel
        by_cases hlt : j < q
        · have c1 := ba.cell 1 rfl
          obtain ⟨ab, rfl, hcb⟩ := (hq.below hx0).fltN (j - 1) (by omega)
          obtain ⟨y, hy⟩ : ∃ y, y = rdf ys ((j - 1 : Nat) : Int) := ⟨_, rfl⟩
          rw [← hy] at hcb
          have HY : Hid (c32 y = entry ys (j - 1)) := by show _ = _; rw [hy]
          have hdl : ds.length = q := o1.reads.flen
          have hgl : gs.length = q := o2.reads.flen
          obtain ⟨hd0, _⟩ := o1.at_ (j - 1) (by omega)
          obtain ⟨hd1, _⟩ := o1.at_ j hlt
          rw [flts_get (by omega)] at hd0 hd1
          obtain ⟨p0, hp0⟩ : ∃ p, p = rdf ds ((j - 1 : Nat) : Int) := ⟨_, rfl⟩
          obtain ⟨p1, hp1⟩ : ∃ p, p = rdf ds (j : Int) := ⟨_, rfl⟩
          rw [← hp0] at hd0
          rw [← hp1] at hd1
          have HP0 : Hid (c32 p0 = dF xs ys (j - 1)) := by show _ = _; rw [hp0, lst_at hds (by omega), DT_lo _ _ (by omega)]
          have HP1 : Hid (c32 p1 = DT xs ys j j) := by show _ = _; rw [hp1, lst_at hds hlt]
          have e1 : IntKind.i64.wrap ((j : Int) - 1) = (j : Int) - 1 := IntWalk.i64_in _ (by omega)
          have e2 : (1 : Int) ≤ (j : Int) := by omega
          have e3 : (j : Int) - 1 < (m : Int) := by omega
          have e4 : (j : Int) - 1 < (q : Int) := by omega
          clear hy hp0 hp1 hdl
          go_upto_region 9 with (fail)
          refine wp_region_T (cs := []) [0, 1, 2, 3, 4, 5, 6, 7, 8, 9, 10, 11] [12] [11] [] (fun i__ v => match i__ with | 11 => ∃ r, v = .float .f32 r ∧ c32 r = (qF xs ys (j - 1)) | _ => False) (fun _ _ _ => True) (by kernel_rfl) (by kernel_rfl) (fun _ _ _ _ _ _ => trivial) ?_
          refine' wpT_det (o := ⟨some 42, Op.fieldAddr 27 (Operand.tmp 2) 1, 0, "l04_values.go:156", #[], none⟩) rfl (by rfl) (by rfl) (fun w' hw' => ?_) ?_; rotate_left
          · go_simp <;> first | rfl | exact ⟨rfl, rfl⟩
          simp only [Act.put, List.setIfInBounds_toArray, List.set_cons_zero, List.set_cons_succ]
          refine' wpT_det (o := ⟨some 43, Op.load 22 (Operand.tmp 42), 22, "l04_values.go:156", #[{ on := 0, ground := Ground.data }], none⟩) rfl (by rfl) (by rfl) (fun w' hw' => ?_) ?_; rotate_left
          · have c1_ := Ext.cell hw' c1; have hcb_ := Ext.cell hw' hcb; have hd0_ := Ext.cell hw' hd0; go_simp <;> first | rfl | exact ⟨rfl, rfl⟩
          simp only [Act.put, List.setIfInBounds_toArray, List.set_cons_zero, List.set_cons_succ]
          refine' wpT_det (o := ⟨some 44, Op.move (Operand.tmp 9), 3, "l04_values.go:156", #[], none⟩) rfl (by rfl) (by rfl) (fun w' hw' => ?_) ?_; rotate_left
          · go_simp <;> first | rfl | exact ⟨rfl, rfl⟩
          simp only [Act.put, List.setIfInBounds_toArray, List.set_cons_zero, List.set_cons_succ]
          refine' wpT_det (o := ⟨some 45, Op.binOp BinOp.sub 3 (Operand.tmp 44) (Operand.const (Value.int IntKind.i64 1)) 3, 3, "l04_values.go:156", #[{ on := 2, ground := Ground.data }], none⟩) rfl (by rfl) (by rfl) (fun w' hw' => ?_) ?_; rotate_left
          · go_simp <;> first | rfl | exact ⟨rfl, rfl⟩
          simp only [Act.put, List.setIfInBounds_toArray, List.set_cons_zero, List.set_cons_succ]
          refine' wpT_det (o := ⟨some 46, Op.indexAddr 22 (Operand.tmp 43) (Operand.tmp 45), 0, "l04_values.go:156", #[{ on := 1, ground := Ground.data }, { on := 3, ground := Ground.data }], none⟩) rfl (by rfl) (by rfl) (fun w' hw' => ?_) ?_; rotate_left
          · go_simp <;> first | rfl | exact ⟨rfl, rfl⟩
          simp only [Act.put, List.setIfInBounds_toArray, List.set_cons_zero, List.set_cons_succ]
          refine' wpT_det (o := ⟨some 47, Op.load 39 (Operand.tmp 46), 39, "l04_values.go:156", #[{ on := 4, ground := Ground.data }], none⟩) rfl (by rfl) (by rfl) (fun w' hw' => ?_) ?_; rotate_left
          · have c1_ := Ext.cell hw' c1; have hcb_ := Ext.cell hw' hcb; have hd0_ := Ext.cell hw' hd0; go_simp <;> first | rfl | exact ⟨rfl, rfl⟩
          simp only [Act.put, List.setIfInBounds_toArray, List.set_cons_zero, List.set_cons_succ]
          refine' wpT_det (o := ⟨some 48, Op.move (Operand.tmp 7), 22, "l04_values.go:156", #[], none⟩) rfl (by rfl) (by rfl) (fun w' hw' => ?_) ?_; rotate_left
          · go_simp <;> first | rfl | exact ⟨rfl, rfl⟩
          simp only [Act.put, List.setIfInBounds_toArray, List.set_cons_zero, List.set_cons_succ]
          refine' wpT_det (o := ⟨some 49, Op.move (Operand.tmp 9), 3, "l04_values.go:156", #[], none⟩) rfl (by rfl) (by rfl) (fun w' hw' => ?_) ?_; rotate_left
          · go_simp <;> first | rfl | exact ⟨rfl, rfl⟩
          simp only [Act.put, List.setIfInBounds_toArray, List.set_cons_zero, List.set_cons_succ]
          refine' wpT_det (o := ⟨some 50, Op.binOp BinOp.sub 3 (Operand.tmp 49) (Operand.const (Value.int IntKind.i64 1)) 3, 3, "l04_values.go:156", #[{ on := 7, ground := Ground.data }], none⟩) rfl (by rfl) (by rfl) (fun w' hw' => ?_) ?_; rotate_left
          · go_simp <;> first | rfl | exact ⟨rfl, rfl⟩
          simp only [Act.put, List.setIfInBounds_toArray, List.set_cons_zero, List.set_cons_succ]
          refine' wpT_det (o := ⟨some 51, Op.indexAddr 22 (Operand.tmp 48) (Operand.tmp 50), 0, "l04_values.go:156", #[{ on := 6, ground := Ground.data }, { on := 8, ground := Ground.data }], none⟩) rfl (by rfl) (by rfl) (fun w' hw' => ?_) ?_; rotate_left
          · go_simp <;> first | rfl | exact ⟨rfl, rfl⟩
          simp only [Act.put, List.setIfInBounds_toArray, List.set_cons_zero, List.set_cons_succ]
          refine' wpT_det (o := ⟨some 52, Op.load 39 (Operand.tmp 51), 39, "l04_values.go:156", #[{ on := 9, ground := Ground.data }], none⟩) rfl (by rfl) (by rfl) (fun w' hw' => ?_) ?_; rotate_left
          · have c1_ := Ext.cell hw' c1; have hcb_ := Ext.cell hw' hcb; have hd0_ := Ext.cell hw' hd0; go_simp <;> first | rfl | exact ⟨rfl, rfl⟩
          simp only [Act.put, List.setIfInBounds_toArray, List.set_cons_zero, List.set_cons_succ]
          refine wpT_nd (o := ⟨some 53, Op.binOp BinOp.quo 39 (Operand.tmp 47) (Operand.tmp 52) 39, 39, "l04_values.go:156", #[{ on := 5, ground := Ground.data }, { on := 10, ground := Ground.data }], none⟩) rfl (by rfl) (by rfl) (fun w' hw' hF R__ hGo => ?_) (by obtain ⟨r, hr⟩ := ex_d .quo ((by rw [HY.out, HP0.out]; rfl) : fop .quo .f32 (c32 (y)) (c32 (p0)) = (qF xs ys (j - 1))); exact ⟨_, r, rfl, hr⟩) ?_
          · exact gives_f .quo (.inr (.inr (.inr rfl))) _ _ _ _ rfl (y) (p0) rfl rfl (qF xs ys (j - 1)) (by rw [HY.out, HP0.out]; rfl) (fun r w2 hx hc => hGo _ _ hx ⟨r, rfl, hc⟩ trivial)
          rintro _ ⟨f11, rfl, hf11⟩
          simp only [Act.put, List.setIfInBounds_toArray, List.set_cons_zero, List.set_cons_succ]
          refine wpT_nil (fun w5 hw' hF => ?_)
          show wpList _ _ _ [(⟨some 10, Op.assign (Operand.tmp 53), 39, "l04_values.go:156", #[{ on := 11, ground := Ground.data }, { on := 0, ground := Ground.phase }, { on := 1, ground := Ground.phase }, { on := 2, ground := Ground.phase }, { on := 3, ground := Ground.phase }, { on := 4, ground := Ground.phase }, { on := 5, ground := Ground.phase }, { on := 6, ground := Ground.phase }, { on := 7, ground := Ground.phase }, { on := 8, ground := Ground.phase }, { on := 9, ground := Ground.phase }, { on := 10, ground := Ground.phase }, { on := 11, ground := Ground.phase }], none⟩ : Oper)] _ _
          have hx5 := hw'.undrew
          replace c1 := hx5.cell c1
          replace hcb := hx5.cell hcb
          replace hd1 := hx5.cell hd1
          replace o1 := o1.ext hx5
          replace o2 := o2.ext hx5
          replace ba := ba.ext hx5
          replace hx0 := hx0.trans hx5
          clear hd0 hF hw' hx5
          rename Nat => fq
          rename c32 fq = _ => hfq
          go_upto_region 10 with (fail)
          refine wp_region_T (cs := []) [0, 1, 2, 3, 4, 5, 6, 7, 8, 9, 10, 11, 12, 13, 14] [15, 16] [13, 14] [] (fun i__ v => match i__ with | 13 => ∃ r, v = .float .f32 r ∧ c32 r = (fmul (qF xs ys (j - 1)) (entry ys (j - 1))) | 14 => ∃ r, v = .float .f32 r ∧ c32 r = (DT xs ys (j + 1) j) | _ => False) (fun _ _ _ => True) (by kernel_rfl) (by kernel_rfl) (fun _ _ _ _ _ _ => trivial) ?_
          refine' wpT_det (o := ⟨some 54, Op.move (Operand.tmp 7), 22, "l04_values.go:157", #[], none⟩) rfl (by rfl) (by rfl) (fun w' hw' => ?_) ?_; rotate_left
          · go_simp <;> first | rfl | exact ⟨rfl, rfl⟩
          simp only [Act.put, List.setIfInBounds_toArray, List.set_cons_zero, List.set_cons_succ]
          refine' wpT_det (o := ⟨some 55, Op.move (Operand.tmp 9), 3, "l04_values.go:157", #[], none⟩) rfl (by rfl) (by rfl) (fun w' hw' => ?_) ?_; rotate_left
          · go_simp <;> first | rfl | exact ⟨rfl, rfl⟩
          simp only [Act.put, List.setIfInBounds_toArray, List.set_cons_zero, List.set_cons_succ]
          refine' wpT_det (o := ⟨some 56, Op.move (Operand.tmp 7), 22, "l04_values.go:157", #[], none⟩) rfl (by rfl) (by rfl) (fun w' hw' => ?_) ?_; rotate_left
          · go_simp <;> first | rfl | exact ⟨rfl, rfl⟩
          simp only [Act.put, List.setIfInBounds_toArray, List.set_cons_zero, List.set_cons_succ]
          refine' wpT_det (o := ⟨some 57, Op.move (Operand.tmp 9), 3, "l04_values.go:157", #[], none⟩) rfl (by rfl) (by rfl) (fun w' hw' => ?_) ?_; rotate_left
          · go_simp <;> first | rfl | exact ⟨rfl, rfl⟩
          simp only [Act.put, List.setIfInBounds_toArray, List.set_cons_zero, List.set_cons_succ]
          refine' wpT_det (o := ⟨some 58, Op.indexAddr 22 (Operand.tmp 56) (Operand.tmp 57), 0, "l04_values.go:157", #[{ on := 2, ground := Ground.data }, { on := 3, ground := Ground.data }], none⟩) rfl (by rfl) (by rfl) (fun w' hw' => ?_) ?_; rotate_left
          · go_simp <;> first | rfl | exact ⟨rfl, rfl⟩
          simp only [Act.put, List.setIfInBounds_toArray, List.set_cons_zero, List.set_cons_succ]
          refine' wpT_det (o := ⟨some 59, Op.load 39 (Operand.tmp 58), 39, "l04_values.go:157", #[{ on := 4, ground := Ground.data }], none⟩) rfl (by rfl) (by rfl) (fun w' hw' => ?_) ?_; rotate_left
          · have c1_ := Ext.cell hw' c1; have hcb_ := Ext.cell hw' hcb; have hd1_ := Ext.cell hw' hd1; go_simp <;> first | rfl | exact ⟨rfl, rfl⟩
          simp only [Act.put, List.setIfInBounds_toArray, List.set_cons_zero, List.set_cons_succ]
          refine' wpT_det (o := ⟨some 60, Op.move (Operand.tmp 10), 39, "l04_values.go:157", #[], none⟩) rfl (by rfl) (by rfl) (fun w' hw' => ?_) ?_; rotate_left
          · go_simp <;> first | rfl | exact ⟨rfl, rfl⟩
          simp only [Act.put, List.setIfInBounds_toArray, List.set_cons_zero, List.set_cons_succ]
          refine' wpT_det (o := ⟨some 61, Op.fieldAddr 27 (Operand.tmp 2) 1, 0, "l04_values.go:157", #[], none⟩) rfl (by rfl) (by rfl) (fun w' hw' => ?_) ?_; rotate_left
          · go_simp <;> first | rfl | exact ⟨rfl, rfl⟩
          simp only [Act.put, List.setIfInBounds_toArray, List.set_cons_zero, List.set_cons_succ]
          refine' wpT_det (o := ⟨some 62, Op.load 22 (Operand.tmp 61), 22, "l04_values.go:157", #[{ on := 7, ground := Ground.data }], none⟩) rfl (by rfl) (by rfl) (fun w' hw' => ?_) ?_; rotate_left
          · have c1_ := Ext.cell hw' c1; have hcb_ := Ext.cell hw' hcb; have hd1_ := Ext.cell hw' hd1; go_simp <;> first | rfl | exact ⟨rfl, rfl⟩
          simp only [Act.put, List.setIfInBounds_toArray, List.set_cons_zero, List.set_cons_succ]
          refine' wpT_det (o := ⟨some 63, Op.move (Operand.tmp 9), 3, "l04_values.go:157", #[], none⟩) rfl (by rfl) (by rfl) (fun w' hw' => ?_) ?_; rotate_left
          · go_simp <;> first | rfl | exact ⟨rfl, rfl⟩
          simp only [Act.put, List.setIfInBounds_toArray, List.set_cons_zero, List.set_cons_succ]
          refine' wpT_det (o := ⟨some 64, Op.binOp BinOp.sub 3 (Operand.tmp 63) (Operand.const (Value.int IntKind.i64 1)) 3, 3, "l04_values.go:157", #[{ on := 9, ground := Ground.data }], none⟩) rfl (by rfl) (by rfl) (fun w' hw' => ?_) ?_; rotate_left
          · go_simp <;> first | rfl | exact ⟨rfl, rfl⟩
          simp only [Act.put, List.setIfInBounds_toArray, List.set_cons_zero, List.set_cons_succ]
          refine' wpT_det (o := ⟨some 65, Op.indexAddr 22 (Operand.tmp 62) (Operand.tmp 64), 0, "l04_values.go:157", #[{ on := 8, ground := Ground.data }, { on := 10, ground := Ground.data }], none⟩) rfl (by rfl) (by rfl) (fun w' hw' => ?_) ?_; rotate_left
          · go_simp <;> first | rfl | exact ⟨rfl, rfl⟩
          simp only [Act.put, List.setIfInBounds_toArray, List.set_cons_zero, List.set_cons_succ]
          refine' wpT_det (o := ⟨some 66, Op.load 39 (Operand.tmp 65), 39, "l04_values.go:157", #[{ on := 11, ground := Ground.data }], none⟩) rfl (by rfl) (by rfl) (fun w' hw' => ?_) ?_; rotate_left
          · have c1_ := Ext.cell hw' c1; have hcb_ := Ext.cell hw' hcb; have hd1_ := Ext.cell hw' hd1; go_simp <;> first | rfl | exact ⟨rfl, rfl⟩
          simp only [Act.put, List.setIfInBounds_toArray, List.set_cons_zero, List.set_cons_succ]
          refine wpT_nd (o := ⟨some 67, Op.binOp BinOp.mul 39 (Operand.tmp 60) (Operand.tmp 66) 39, 39, "l04_values.go:157", #[{ on := 6, ground := Ground.data }, { on := 12, ground := Ground.data }], none⟩) rfl (by rfl) (by rfl) (fun w' hw' hF R__ hGo => ?_) (by obtain ⟨r, hr⟩ := ex_d .mul ((by rw [hfq, HY.out]) : fop .mul .f32 (c32 (fq)) (c32 (y)) = (fmul (qF xs ys (j - 1)) (entry ys (j - 1)))); exact ⟨_, r, rfl, hr⟩) ?_
          · exact gives_f .mul (.inr (.inr (.inl rfl))) _ _ _ _ rfl (fq) (y) rfl rfl (fmul (qF xs ys (j - 1)) (entry ys (j - 1))) (by rw [hfq, HY.out]) (fun r w2 hx hc => hGo _ _ hx ⟨r, rfl, hc⟩ trivial)
          rintro _ ⟨f13, rfl, hf13⟩
          simp only [Act.put, List.setIfInBounds_toArray, List.set_cons_zero, List.set_cons_succ]
          refine wpT_nd (o := ⟨some 68, Op.binOp BinOp.sub 39 (Operand.tmp 59) (Operand.tmp 67) 39, 39, "l04_values.go:157", #[{ on := 5, ground := Ground.data }, { on := 13, ground := Ground.data }], none⟩) rfl (by rfl) (by rfl) (fun w' hw' hF R__ hGo => ?_) (by obtain ⟨r, hr⟩ := ex_d .sub ((by rw [HP1.out, hf13, DT_set _ _ hj1]) : fop .sub .f32 (c32 (p1)) (c32 (f13)) = (DT xs ys (j + 1) j)); exact ⟨_, r, rfl, hr⟩) ?_
          · exact gives_f .sub (.inr (.inl rfl)) _ _ _ _ rfl (p1) (f13) rfl rfl (DT xs ys (j + 1) j) (by rw [HP1.out, hf13, DT_set _ _ hj1]) (fun r w2 hx hc => hGo _ _ hx ⟨r, rfl, hc⟩ trivial)
          rintro _ ⟨f14, rfl, hf14⟩
          simp only [Act.put, List.setIfInBounds_toArray, List.set_cons_zero, List.set_cons_succ]
          refine wpT_nil (fun w6 hw' hF => ?_)
          show wpList _ _ _ [(⟨some 69, Op.indexAddr 22 (Operand.tmp 54) (Operand.tmp 55), 0, "l04_values.go:157", #[{ on := 0, ground := Ground.data }, { on := 1, ground := Ground.data }, { on := 0, ground := Ground.phase }, { on := 1, ground := Ground.phase }, { on := 2, ground := Ground.phase }, { on := 3, ground := Ground.phase }, { on := 4, ground := Ground.phase }, { on := 5, ground := Ground.phase }, { on := 6, ground := Ground.phase }, { on := 7, ground := Ground.phase }, { on := 8, ground := Ground.phase }, { on := 9, ground := Ground.phase }, { on := 10, ground := Ground.phase }, { on := 11, ground := Ground.phase }, { on := 12, ground := Ground.phase }, { on := 13, ground := Ground.phase }, { on := 14, ground := Ground.phase }], none⟩ : Oper), (⟨none, Op.store 39 (Operand.tmp 69) (Operand.tmp 68), 0, "l04_values.go:157", #[{ on := 15, ground := Ground.data }, { on := 14, ground := Ground.data }, { on := 0, ground := Ground.phase }, { on := 1, ground := Ground.phase }, { on := 2, ground := Ground.phase }, { on := 3, ground := Ground.phase }, { on := 4, ground := Ground.phase }, { on := 5, ground := Ground.phase }, { on := 6, ground := Ground.phase }, { on := 7, ground := Ground.phase }, { on := 8, ground := Ground.phase }, { on := 9, ground := Ground.phase }, { on := 10, ground := Ground.phase }, { on := 11, ground := Ground.phase }, { on := 12, ground := Ground.phase }, { on := 13, ground := Ground.phase }, { on := 14, ground := Ground.phase }], none⟩ : Oper)] _ _
          have hx5 := hw'.undrew
          replace o1 := o1.ext hx5
          replace o2 := o2.ext hx5
          replace ba := ba.ext hx5
          replace hx0 := hx0.trans hx5
          clear c1 hcb hd1 hF hw' hx5
          obtain ⟨hd1, hfr⟩ := o1.at_ j hlt
          rw [flts_get (by have := o1.reads.flen; omega)] at hd1
          have hst := store_f32 Try.prog f14 hd1 hfr
          obtain ⟨p1', p2', p3'⟩ := Own.putF (F' := DT xs ys (j + 1)) hds o1 j f14 hf14.symm (fun i _ hi => DT_next _ _ i hi)
          replace o2 := o2.other p3' ne2
          replace ba := ba.wr p3' o1 (by decide)
          replace hx0 := p3'.ext hx0 o1
          go_upto_region 11 with (fail)
          obtain ⟨w7, hw7⟩ : ∃ v : World, v = w6.setCell ⟨g1, j, none⟩ (.float .f32 f14) := ⟨_, rfl⟩
          rw [← hw7] at p2' p3' o2 ba hx0 ⊢
          obtain ⟨ds', hds'⟩ : ∃ ds', ds' = ds.set j f14 := ⟨_, rfl⟩
          rw [← hds'] at p1' p2'
          clear hw7 hst hd1 hfr o1 p3' hds hds' hf14 hf13
          rename Own w7 _ _ (.slice (some ⟨g1, 0, none⟩) q k1) _ => o1
          obtain ⟨hg0, _⟩ := o2.at_ (j - 1) (by omega)
          obtain ⟨hg1, _⟩ := o2.at_ j hlt
          rw [flts_get (by omega)] at hg0 hg1
          obtain ⟨t0, ht0⟩ : ∃ p, p = rdf gs ((j - 1 : Nat) : Int) := ⟨_, rfl⟩
          obtain ⟨t1, ht1⟩ : ∃ p, p = rdf gs (j : Int) := ⟨_, rfl⟩
          rw [← ht0] at hg0
          rw [← ht1] at hg1
          have HT0 : Hid (c32 t0 = GT xs ys vs j (j - 1)) := by show _ = _; rw [ht0, lst_at hgs (by omega)]
          have HT1 : Hid (c32 t1 = GT xs ys vs j j) := by show _ = _; rw [ht1, lst_at hgs hlt]
          clear ht0 ht1 hgl
          refine wp_region_T (cs := []) [0, 1, 2, 3, 4, 5, 6, 7, 8, 9, 10, 11, 12, 13] [14, 15] [12, 13] [] (fun i__ v => match i__ with | 12 => ∃ r, v = .float .f32 r ∧ c32 r = (fmul (qF xs ys (j - 1)) (GT xs ys vs j (j - 1))) | 13 => ∃ r, v = .float .f32 r ∧ c32 r = (GT xs ys vs (j + 1) j) | _ => False) (fun _ _ _ => True) (by kernel_rfl) (by kernel_rfl) (fun _ _ _ _ _ _ => trivial) ?_
          refine' wpT_det (o := ⟨some 70, Op.move (Operand.tmp 8), 22, "l04_values.go:158", #[], none⟩) rfl (by rfl) (by rfl) (fun w' hw' => ?_) ?_; rotate_left
          · go_simp <;> first | rfl | exact ⟨rfl, rfl⟩
          simp only [Act.put, List.setIfInBounds_toArray, List.set_cons_zero, List.set_cons_succ]
          refine' wpT_det (o := ⟨some 71, Op.move (Operand.tmp 9), 3, "l04_values.go:158", #[], none⟩) rfl (by rfl) (by rfl) (fun w' hw' => ?_) ?_; rotate_left
          · go_simp <;> first | rfl | exact ⟨rfl, rfl⟩
          simp only [Act.put, List.setIfInBounds_toArray, List.set_cons_zero, List.set_cons_succ]
          refine' wpT_det (o := ⟨some 72, Op.move (Operand.tmp 8), 22, "l04_values.go:158", #[], none⟩) rfl (by rfl) (by rfl) (fun w' hw' => ?_) ?_; rotate_left
          · go_simp <;> first | rfl | exact ⟨rfl, rfl⟩
          simp only [Act.put, List.setIfInBounds_toArray, List.set_cons_zero, List.set_cons_succ]
          refine' wpT_det (o := ⟨some 73, Op.move (Operand.tmp 9), 3, "l04_values.go:158", #[], none⟩) rfl (by rfl) (by rfl) (fun w' hw' => ?_) ?_; rotate_left
          · go_simp <;> first | rfl | exact ⟨rfl, rfl⟩
          simp only [Act.put, List.setIfInBounds_toArray, List.set_cons_zero, List.set_cons_succ]
          refine' wpT_det (o := ⟨some 74, Op.indexAddr 22 (Operand.tmp 72) (Operand.tmp 73), 0, "l04_values.go:158", #[{ on := 2, ground := Ground.data }, { on := 3, ground := Ground.data }], none⟩) rfl (by rfl) (by rfl) (fun w' hw' => ?_) ?_; rotate_left
          · go_simp <;> first | rfl | exact ⟨rfl, rfl⟩
          simp only [Act.put, List.setIfInBounds_toArray, List.set_cons_zero, List.set_cons_succ]
          refine' wpT_det (o := ⟨some 75, Op.load 39 (Operand.tmp 74), 39, "l04_values.go:158", #[{ on := 4, ground := Ground.data }], none⟩) rfl (by rfl) (by rfl) (fun w' hw' => ?_) ?_; rotate_left
          · have hg0_ := Ext.cell hw' hg0; have hg1_ := Ext.cell hw' hg1; go_simp <;> first | rfl | exact ⟨rfl, rfl⟩
          simp only [Act.put, List.setIfInBounds_toArray, List.set_cons_zero, List.set_cons_succ]
          refine' wpT_det (o := ⟨some 76, Op.move (Operand.tmp 10), 39, "l04_values.go:158", #[], none⟩) rfl (by rfl) (by rfl) (fun w' hw' => ?_) ?_; rotate_left
          · go_simp <;> first | rfl | exact ⟨rfl, rfl⟩
          simp only [Act.put, List.setIfInBounds_toArray, List.set_cons_zero, List.set_cons_succ]
          refine' wpT_det (o := ⟨some 77, Op.move (Operand.tmp 8), 22, "l04_values.go:158", #[], none⟩) rfl (by rfl) (by rfl) (fun w' hw' => ?_) ?_; rotate_left
          · go_simp <;> first | rfl | exact ⟨rfl, rfl⟩
          simp only [Act.put, List.setIfInBounds_toArray, List.set_cons_zero, List.set_cons_succ]
          refine' wpT_det (o := ⟨some 78, Op.move (Operand.tmp 9), 3, "l04_values.go:158", #[], none⟩) rfl (by rfl) (by rfl) (fun w' hw' => ?_) ?_; rotate_left
          · go_simp <;> first | rfl | exact ⟨rfl, rfl⟩
          simp only [Act.put, List.setIfInBounds_toArray, List.set_cons_zero, List.set_cons_succ]
          refine' wpT_det (o := ⟨some 79, Op.binOp BinOp.sub 3 (Operand.tmp 78) (Operand.const (Value.int IntKind.i64 1)) 3, 3, "l04_values.go:158", #[{ on := 8, ground := Ground.data }], none⟩) rfl (by rfl) (by rfl) (fun w' hw' => ?_) ?_; rotate_left
          · go_simp <;> first | rfl | exact ⟨rfl, rfl⟩
          simp only [Act.put, List.setIfInBounds_toArray, List.set_cons_zero, List.set_cons_succ]
          refine' wpT_det (o := ⟨some 80, Op.indexAddr 22 (Operand.tmp 77) (Operand.tmp 79), 0, "l04_values.go:158", #[{ on := 7, ground := Ground.data }, { on := 9, ground := Ground.data }], none⟩) rfl (by rfl) (by rfl) (fun w' hw' => ?_) ?_; rotate_left
          · go_simp <;> first | rfl | exact ⟨rfl, rfl⟩
          simp only [Act.put, List.setIfInBounds_toArray, List.set_cons_zero, List.set_cons_succ]
          refine' wpT_det (o := ⟨some 81, Op.load 39 (Operand.tmp 80), 39, "l04_values.go:158", #[{ on := 10, ground := Ground.data }], none⟩) rfl (by rfl) (by rfl) (fun w' hw' => ?_) ?_; rotate_left
          · have hg0_ := Ext.cell hw' hg0; have hg1_ := Ext.cell hw' hg1; go_simp <;> first | rfl | exact ⟨rfl, rfl⟩
          simp only [Act.put, List.setIfInBounds_toArray, List.set_cons_zero, List.set_cons_succ]
          refine wpT_nd (o := ⟨some 82, Op.binOp BinOp.mul 39 (Operand.tmp 76) (Operand.tmp 81) 39, 39, "l04_values.go:158", #[{ on := 6, ground := Ground.data }, { on := 11, ground := Ground.data }], none⟩) rfl (by rfl) (by rfl) (fun w' hw' hF R__ hGo => ?_) (by obtain ⟨r, hr⟩ := ex_d .mul ((by rw [hfq, HT0.out]) : fop .mul .f32 (c32 (fq)) (c32 (t0)) = (fmul (qF xs ys (j - 1)) (GT xs ys vs j (j - 1)))); exact ⟨_, r, rfl, hr⟩) ?_
          · exact gives_f .mul (.inr (.inr (.inl rfl))) _ _ _ _ rfl (fq) (t0) rfl rfl (fmul (qF xs ys (j - 1)) (GT xs ys vs j (j - 1))) (by rw [hfq, HT0.out]) (fun r w2 hx hc => hGo _ _ hx ⟨r, rfl, hc⟩ trivial)
          rintro _ ⟨f12, rfl, hf12⟩
          simp only [Act.put, List.setIfInBounds_toArray, List.set_cons_zero, List.set_cons_succ]
          refine wpT_nd (o := ⟨some 83, Op.binOp BinOp.sub 39 (Operand.tmp 75) (Operand.tmp 82) 39, 39, "l04_values.go:158", #[{ on := 5, ground := Ground.data }, { on := 12, ground := Ground.data }], none⟩) rfl (by rfl) (by rfl) (fun w' hw' hF R__ hGo => ?_) (by obtain ⟨r, hr⟩ := ex_d .sub ((by rw [HT1.out, hf12, GT_set _ _ _ hj1]) : fop .sub .f32 (c32 (t1)) (c32 (f12)) = (GT xs ys vs (j + 1) j)); exact ⟨_, r, rfl, hr⟩) ?_
          · exact gives_f .sub (.inr (.inl rfl)) _ _ _ _ rfl (t1) (f12) rfl rfl (GT xs ys vs (j + 1) j) (by rw [HT1.out, hf12, GT_set _ _ _ hj1]) (fun r w2 hx hc => hGo _ _ hx ⟨r, rfl, hc⟩ trivial)
          rintro _ ⟨f13, rfl, hf13⟩
          simp only [Act.put, List.setIfInBounds_toArray, List.set_cons_zero, List.set_cons_succ]
          refine wpT_nil (fun w8 hw' hF => ?_)
          show wpList _ _ _ [(⟨some 84, Op.indexAddr 22 (Operand.tmp 70) (Operand.tmp 71), 0, "l04_values.go:158", #[{ on := 0, ground := Ground.data }, { on := 1, ground := Ground.data }, { on := 0, ground := Ground.phase }, { on := 1, ground := Ground.phase }, { on := 2, ground := Ground.phase }, { on := 3, ground := Ground.phase }, { on := 4, ground := Ground.phase }, { on := 5, ground := Ground.phase }, { on := 6, ground := Ground.phase }, { on := 7, ground := Ground.phase }, { on := 8, ground := Ground.phase }, { on := 9, ground := Ground.phase }, { on := 10, ground := Ground.phase }, { on := 11, ground := Ground.phase }, { on := 12, ground := Ground.phase }, { on := 13, ground := Ground.phase }], none⟩ : Oper), (⟨none, Op.store 39 (Operand.tmp 84) (Operand.tmp 83), 0, "l04_values.go:158", #[{ on := 14, ground := Ground.data }, { on := 13, ground := Ground.data }, { on := 0, ground := Ground.phase }, { on := 1, ground := Ground.phase }, { on := 2, ground := Ground.phase }, { on := 3, ground := Ground.phase }, { on := 4, ground := Ground.phase }, { on := 5, ground := Ground.phase }, { on := 6, ground := Ground.phase }, { on := 7, ground := Ground.phase }, { on := 8, ground := Ground.phase }, { on := 9, ground := Ground.phase }, { on := 10, ground := Ground.phase }, { on := 11, ground := Ground.phase }, { on := 12, ground := Ground.phase }, { on := 13, ground := Ground.phase }], none⟩ : Oper)] _ _
          have hx5 := hw'.undrew
          replace o1 := o1.ext hx5
          replace o2 := o2.ext hx5
          replace ba := ba.ext hx5
          replace hx0 := hx0.trans hx5
          clear hg0 hg1 hF hw' hx5
          obtain ⟨hd1, hfr⟩ := o2.at_ j hlt
          rw [flts_get (by have := o2.reads.flen; omega)] at hd1
          have hst := store_f32 Try.prog f13 hd1 hfr
          go_wp2_with fail
          go_roundw
          case rel =>
            obtain ⟨u1, u2, u3⟩ := Own.putF (F' := GT xs ys vs (j + 1)) hgs o2 j f13 hf13.symm (fun i _ hi => GT_next _ _ _ i hi)
            exact ⟨j + 1, by omega, by omega, by go_num, ds', gs.set j f13, p1', u1, o1.other u3 ne1, u2, u3.ext hx0 o2, ba.wr u3 o2 (by decide)⟩
          case measure => simp [intOf]; omega
        · obtain rfl : j = q := by omega
          have e1 : IntKind.i64.wrap ((j : Int) - 1) = (j : Int) - 1 := IntWalk.i64_in _ (by omega)
          have hmk := run_make_row' (P := Try.prog) 22 39 (.float .f32 0) 4 Try.underlying22 info_f32 rfl .i64 .i64 j (by omega) (by omega)
          have o3 := Own.made wr 39 (.float .f32 0) j rfl (by omega)
          obtain ⟨ne3, _⟩ := Own.ne o1 o3
          obtain ⟨ne4, _⟩ := Own.ne o2 o3
          have hz0 : flts (List.replicate j 0) = List.replicate j (.float .f32 0) := flts_replicate _ _
          rw [← hz0] at o3
          have hO0 : cfs (List.replicate j 0) = lst j (OT xs ys vs j j) := by
            have e : lst j (OT xs ys vs j j) = lst j (fun _ => some 0) := lst_congr (fun i hi => OT_hi _ _ _ hi)
            rw [e]
            simp [cfs, lst, c32_0, List.map_const']
          have hx5 : Ext wr (wr.alloc (.cells (madeCells #[.float .f32 0] j) 39)) := (Ext.refl _).alloc _
          have o3' := o3.base hx0.size
          obtain ⟨g3, hg3⟩ : ∃ g, g = wr.heap.size := ⟨_, rfl⟩
          have o1' := o1.ext hx5
          have o2' := o2.ext hx5
          have ba' := ba.ext hx5
          have hx0' := hx0.trans hx5
          rw [← hg3] at o3' ne3 ne4
          have Hg3 := Lib.hid hg3
          clear o1 o2 ba hx0 hx5 o3 hz0 hg3
          go_wp2_with fail
          rw [← Hg3.out]
          go_loopw [12] (fun u wr => ∃ c : Nat, c ≤ j ∧ u = .int .i64 ((c : Int) - 1) ∧ ∃ zs, cfs zs = lst j (OT xs ys vs j c) ∧ Own wr w.heap.size 39 (.slice (some ⟨g1, 0, none⟩) j k1) (flts ds) ∧ Own wr w.heap.size 39 (.slice (some ⟨g2, 0, none⟩) j k2) (flts gs) ∧ Own wr w.heap.size 39 (.slice (some ⟨g3, 0, none⟩) j j) (flts zs) ∧ Ext w wr ∧ Blk wr w.heap.size #[.slice (some ad) j cap, .slice B m cap'] 27) (fun u _ => (intOf u + 1).toNat)
          case atStart => exact ⟨j, Nat.le_refl _, rfl, _, hO0, o1', o2', o3', hx0', ba'⟩
          case round =>
            clear o1' o2' o3' hx0' ba' hO0 hmk
            obtain ⟨c, hc', rfl, zs, hzs, o1, o2, o3, hx0, ba⟩ := hrel
            cases c with
            | zero =>
              have hneg : ¬ ((0 : Nat) : Int) - 1 ≥ 0 := by omega
              have hfin : cfs zs = lst j (xF xs ys vs j) := by rw [hzs]; exact lst_congr (fun i hi => OT_lo _ _ _ (Nat.zero_le _))
              clear hzs
              go_wp2_with fail
              refine (l02List_any w.heap.size (some ⟨g3, 0, none⟩) j j zs _ o3 hx0.size).mono ?_
              rw [hfin, HG.out]
              rintro e w5 ⟨A3, k3, rfl, o4, hx⟩
              go_wp2_with fail
              go_ret2
              exact ⟨A3, k3, rfl, o4, hx0.trans hx⟩
            | succ i =>
              have ei : ((i + 1 : Nat) : Int) - 1 = (i : Int) := by omega
              rw [ei]
              clear ei
              have hi : i < j := by omega
              have hge : (i : Int) ≥ 0 := by omega
              have e2 : IntKind.i64.wrap ((i : Int) - 1) = (i : Int) - 1 := IntWalk.i64_in _ (by omega)
              have e3 : IntKind.i64.wrap ((i : Int) + 1) = (i : Int) + 1 := IntWalk.i64_in _ (by omega)
              have hgl : gs.length = j := o2.reads.flen
              have hdl : ds.length = j := o1.reads.flen
              have hzl : zs.length = j := o3.reads.flen
              obtain ⟨hg1, _⟩ := o2.at_ i hi
              obtain ⟨hd1, _⟩ := o1.at_ i hi
              rw [flts_get (by omega)] at hg1 hd1
              obtain ⟨t1, ht1⟩ : ∃ p, p = rdf gs (i : Int) := ⟨_, rfl⟩
              obtain ⟨p1, hp1⟩ : ∃ p, p = rdf ds (i : Int) := ⟨_, rfl⟩
              rw [← ht1] at hg1
              rw [← hp1] at hd1
              have HT1 : Hid (c32 t1 = gF xs ys vs i) := by show _ = _; rw [ht1, lst_at hgs hi, GT_lo _ _ _ hi]
              have HP1 : Hid (c32 p1 = dF xs ys i) := by show _ = _; rw [hp1, lst_at hds hi, DT_lo _ _ (by omega)]
              clear ht1 hp1
              by_cases hil : i + 1 = j
              · have hcm : ¬ (i : Int) + 1 < (j : Int) := by omega
                have HIL := Lib.hid hil
                obtain ⟨f, w6, hrr, hx5, hcf⟩ := run_fop (P := Try.prog) wr .quo (.inr (.inr (.inr rfl))) 39 .f32 t1 p1
                have hF : Hid (c32 f = xF xs ys vs j i) := by
                  show _ = _
                  rw [xF_last _ _ _ HIL.out, ← HT1.out, ← HP1.out]
                  exact hcf
                replace o1 := o1.ext hx5
                replace o2 := o2.ext hx5
                replace o3 := o3.ext hx5
                replace ba := ba.ext hx5
                replace hx0 := hx0.trans hx5
                obtain ⟨hz1, hfr⟩ := o3.at_ i hi
                rw [flts_get (by omega)] at hz1
                have hst := store_f32 Try.prog f hz1 hfr
                clear hil hgl hdl hzl hcf hx5
                go_wp2_with (simp only [hrr])
                go_roundw
                case rel =>
                  obtain ⟨u1, u2, u3⟩ := Own.putF (F' := OT xs ys vs j i) hzs o3 i f (by rw [hF.out, OT_lo _ _ _ (Nat.le_refl _)]) (fun k _ hk => OT_next _ _ _ k hk)
                  exact ⟨i, by omega, by go_num, zs.set i f, u1, o1.other u3 ne3, o2.other u3 ne4, u2, u3.ext hx0 o3, ba.wr u3 o3 (by decide)⟩
                case measure => simp [intOf]
              · have hcm : (i : Int) + 1 < (j : Int) := by omega
                have c1 := ba.cell 1 rfl
                obtain ⟨ab, rfl, hcb⟩ := (hq.below hx0).fltN i (by omega)
                have him : (i : Int) < (m : Int) := by omega
                obtain ⟨y, hy⟩ : ∃ y, y = rdf ys (i : Int) := ⟨_, rfl⟩
                rw [← hy] at hcb
                have HY : Hid (c32 y = entry ys i) := by show _ = _; rw [hy]
                obtain ⟨hz2, _⟩ := o3.at_ (i + 1) (by omega)
                rw [flts_get (by omega)] at hz2
                obtain ⟨t2, ht2⟩ : ∃ p, p = rdf zs ((i + 1 : Nat) : Int) := ⟨_, rfl⟩
                rw [← ht2] at hz2
                have HT2 : Hid (c32 t2 = xF xs ys vs j (i + 1)) := by show _ = _; rw [ht2, lst_at hzs (by omega), OT_lo _ _ _ (Nat.le_refl _)]
                have HIL : Hid (i + 1 < j) := by show _ < _; omega
                clear ht2 hy hil
                go_upto_region 18 with (fail)
                refine wp_region_T (cs := []) [0, 1, 2, 3, 4, 5, 6, 7, 8, 9, 10, 11, 12] [13] [11, 12] [] (fun i__ v => match i__ with | 11 => ∃ r, v = .float .f32 r ∧ c32 r = (fmul (entry ys i) (xF xs ys vs j (i + 1))) | 12 => ∃ r, v = .float .f32 r ∧ c32 r = (fsub (gF xs ys vs i) (fmul (entry ys i) (xF xs ys vs j (i + 1)))) | _ => False) (fun _ _ _ => True) (by kernel_rfl) (by kernel_rfl) (fun _ _ _ _ _ _ => trivial) ?_
                refine' wpT_det (o := ⟨some 101, Op.move (Operand.tmp 13), 39, "l04_values.go:164", #[], none⟩) rfl (by rfl) (by rfl) (fun w' hw' => ?_) ?_; rotate_left
                · go_simp <;> first | rfl | exact ⟨rfl, rfl⟩
                simp only [Act.put, List.setIfInBounds_toArray, List.set_cons_zero, List.set_cons_succ]
                refine' wpT_det (o := ⟨some 102, Op.fieldAddr 27 (Operand.tmp 2) 1, 0, "l04_values.go:164", #[], none⟩) rfl (by rfl) (by rfl) (fun w' hw' => ?_) ?_; rotate_left
                · go_simp <;> first | rfl | exact ⟨rfl, rfl⟩
                simp only [Act.put, List.setIfInBounds_toArray, List.set_cons_zero, List.set_cons_succ]
                refine' wpT_det (o := ⟨some 103, Op.load 22 (Operand.tmp 102), 22, "l04_values.go:164", #[{ on := 1, ground := Ground.data }], none⟩) rfl (by rfl) (by rfl) (fun w' hw' => ?_) ?_; rotate_left
                · have c1_ := Ext.cell hw' c1; have hcb_ := Ext.cell hw' hcb; have hz2_ := Ext.cell hw' hz2; go_simp <;> first | rfl | exact ⟨rfl, rfl⟩
                simp only [Act.put, List.setIfInBounds_toArray, List.set_cons_zero, List.set_cons_succ]
                refine' wpT_det (o := ⟨some 104, Op.move (Operand.tmp 12), 3, "l04_values.go:164", #[], none⟩) rfl (by rfl) (by rfl) (fun w' hw' => ?_) ?_; rotate_left
                · go_simp <;> first | rfl | exact ⟨rfl, rfl⟩
                simp only [Act.put, List.setIfInBounds_toArray, List.set_cons_zero, List.set_cons_succ]
                refine' wpT_det (o := ⟨some 105, Op.indexAddr 22 (Operand.tmp 103) (Operand.tmp 104), 0, "l04_values.go:164", #[{ on := 2, ground := Ground.data }, { on := 3, ground := Ground.data }], none⟩) rfl (by rfl) (by rfl) (fun w' hw' => ?_) ?_; rotate_left
                · go_simp <;> first | rfl | exact ⟨rfl, rfl⟩
                simp only [Act.put, List.setIfInBounds_toArray, List.set_cons_zero, List.set_cons_succ]
                refine' wpT_det (o := ⟨some 106, Op.load 39 (Operand.tmp 105), 39, "l04_values.go:164", #[{ on := 4, ground := Ground.data }], none⟩) rfl (by rfl) (by rfl) (fun w' hw' => ?_) ?_; rotate_left
                · have c1_ := Ext.cell hw' c1; have hcb_ := Ext.cell hw' hcb; have hz2_ := Ext.cell hw' hz2; go_simp <;> first | rfl | exact ⟨rfl, rfl⟩
                simp only [Act.put, List.setIfInBounds_toArray, List.set_cons_zero, List.set_cons_succ]
                refine' wpT_det (o := ⟨some 107, Op.move (Operand.tmp 11), 22, "l04_values.go:164", #[], none⟩) rfl (by rfl) (by rfl) (fun w' hw' => ?_) ?_; rotate_left
                · go_simp <;> first | rfl | exact ⟨rfl, rfl⟩
                simp only [Act.put, List.setIfInBounds_toArray, List.set_cons_zero, List.set_cons_succ]
                refine' wpT_det (o := ⟨some 108, Op.move (Operand.tmp 12), 3, "l04_values.go:164", #[], none⟩) rfl (by rfl) (by rfl) (fun w' hw' => ?_) ?_; rotate_left
                · go_simp <;> first | rfl | exact ⟨rfl, rfl⟩
                simp only [Act.put, List.setIfInBounds_toArray, List.set_cons_zero, List.set_cons_succ]
                refine' wpT_det (o := ⟨some 109, Op.binOp BinOp.add 3 (Operand.tmp 108) (Operand.const (Value.int IntKind.i64 1)) 3, 3, "l04_values.go:164", #[{ on := 7, ground := Ground.data }], none⟩) rfl (by rfl) (by rfl) (fun w' hw' => ?_) ?_; rotate_left
                · go_simp <;> first | rfl | exact ⟨rfl, rfl⟩
                simp only [Act.put, List.setIfInBounds_toArray, List.set_cons_zero, List.set_cons_succ]
                refine' wpT_det (o := ⟨some 110, Op.indexAddr 22 (Operand.tmp 107) (Operand.tmp 109), 0, "l04_values.go:164", #[{ on := 6, ground := Ground.data }, { on := 8, ground := Ground.data }], none⟩) rfl (by rfl) (by rfl) (fun w' hw' => ?_) ?_; rotate_left
                · go_simp <;> first | rfl | exact ⟨rfl, rfl⟩
                simp only [Act.put, List.setIfInBounds_toArray, List.set_cons_zero, List.set_cons_succ]
                refine' wpT_det (o := ⟨some 111, Op.load 39 (Operand.tmp 110), 39, "l04_values.go:164", #[{ on := 9, ground := Ground.data }], none⟩) rfl (by rfl) (by rfl) (fun w' hw' => ?_) ?_; rotate_left
                · have c1_ := Ext.cell hw' c1; have hcb_ := Ext.cell hw' hcb; have hz2_ := Ext.cell hw' hz2; go_simp <;> first | rfl | exact ⟨rfl, rfl⟩
                simp only [Act.put, List.setIfInBounds_toArray, List.set_cons_zero, List.set_cons_succ]
                refine wpT_nd (o := ⟨some 112, Op.binOp BinOp.mul 39 (Operand.tmp 106) (Operand.tmp 111) 39, 39, "l04_values.go:164", #[{ on := 5, ground := Ground.data }, { on := 10, ground := Ground.data }], none⟩) rfl (by rfl) (by rfl) (fun w' hw' hF R__ hGo => ?_) (by obtain ⟨r, hr⟩ := ex_d .mul ((by rw [HY.out, HT2.out]) : fop .mul .f32 (c32 (y)) (c32 (t2)) = (fmul (entry ys i) (xF xs ys vs j (i + 1)))); exact ⟨_, r, rfl, hr⟩) ?_
                · exact gives_f .mul (.inr (.inr (.inl rfl))) _ _ _ _ rfl (y) (t2) rfl rfl (fmul (entry ys i) (xF xs ys vs j (i + 1))) (by rw [HY.out, HT2.out]) (fun r w2 hx hc => hGo _ _ hx ⟨r, rfl, hc⟩ trivial)
                rintro _ ⟨f11, rfl, hf11⟩
                simp only [Act.put, List.setIfInBounds_toArray, List.set_cons_zero, List.set_cons_succ]
                refine wpT_nd (o := ⟨some 113, Op.binOp BinOp.sub 39 (Operand.tmp 101) (Operand.tmp 112) 39, 39, "l04_values.go:164", #[{ on := 0, ground := Ground.data }, { on := 11, ground := Ground.data }], none⟩) rfl (by rfl) (by rfl) (fun w' hw' hF R__ hGo => ?_) (by obtain ⟨r, hr⟩ := ex_d .sub ((by rw [HT1.out, hf11]) : fop .sub .f32 (c32 (t1)) (c32 (f11)) = (fsub (gF xs ys vs i) (fmul (entry ys i) (xF xs ys vs j (i + 1))))); exact ⟨_, r, rfl, hr⟩) ?_
                · exact gives_f .sub (.inr (.inl rfl)) _ _ _ _ rfl (t1) (f11) rfl rfl (fsub (gF xs ys vs i) (fmul (entry ys i) (xF xs ys vs j (i + 1)))) (by rw [HT1.out, hf11]) (fun r w2 hx hc => hGo _ _ hx ⟨r, rfl, hc⟩ trivial)
                rintro _ ⟨f12, rfl, hf12⟩
                simp only [Act.put, List.setIfInBounds_toArray, List.set_cons_zero, List.set_cons_succ]
                refine wpT_nil (fun w5 hw' hF => ?_)
                show wpList _ _ _ [(⟨some 13, Op.assign (Operand.tmp 113), 39, "l04_values.go:164", #[{ on := 12, ground := Ground.data }, { on := 0, ground := Ground.phase }, { on := 1, ground := Ground.phase }, { on := 2, ground := Ground.phase }, { on := 3, ground := Ground.phase }, { on := 4, ground := Ground.phase }, { on := 5, ground := Ground.phase }, { on := 6, ground := Ground.phase }, { on := 7, ground := Ground.phase }, { on := 8, ground := Ground.phase }, { on := 9, ground := Ground.phase }, { on := 10, ground := Ground.phase }, { on := 11, ground := Ground.phase }, { on := 12, ground := Ground.phase }], none⟩ : Oper)] _ _
                have hx5 := hw'.undrew
                replace hd1 := hx5.cell hd1
                obtain ⟨f, w6, hrr, hx6, hcf⟩ := run_fop (P := Try.prog) w5 .quo (.inr (.inr (.inr rfl))) 39 .f32 f12 p1
                have hFF : Hid (c32 f = xF xs ys vs j i) := by
                  show _ = _
                  rw [xF_step _ _ _ HIL.out, ← hf12, ← HP1.out]
                  exact hcf
                replace o1 := (o1.ext hx5).ext hx6
                replace o2 := (o2.ext hx5).ext hx6
                replace o3 := (o3.ext hx5).ext hx6
                replace ba := (ba.ext hx5).ext hx6
                replace hx0 := (hx0.trans hx5).trans hx6
                obtain ⟨hz1, hfr⟩ := o3.at_ i hi
                rw [flts_get (by omega)] at hz1
                have hst := store_f32 Try.prog f hz1 hfr
                clear hgl hdl hzl hcf hx5 hx6 c1 hcb hz2 hg1 hF hw' hf11 hf12
                go_wp2_with (simp only [hrr])
                go_roundw
                case rel =>
                  obtain ⟨u1, u2, u3⟩ := Own.putF (F' := OT xs ys vs j i) hzs o3 i f (by rw [hFF.out, OT_lo _ _ _ (Nat.le_refl _)]) (fun k _ hk => OT_next _ _ _ k hk)
                  exact ⟨i, by omega, by go_num, zs.set i f, u1, o1.other u3 ne3, o2.other u3 ne4, u2, u3.ext hx0 o3, ba.wr u3 o3 (by decide)⟩
                case measure => simp [intOf]

end Go.Proofs.Ytgjfdfmbknmpaaa
