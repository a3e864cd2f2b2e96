
/- EntriesOf, the reference. -/

import Derived.Test.YtkifpligpobiaaaEN3

import Derived.Test.YtkifpligpobiaaaV4
set_option linter.unusedVariables false
set_option linter.unusedSimpArgs false

namespace Go.Proofs.Ytkifpligpobiaaa

open Go.RowKit


def OneE (w : World) (v : Value) (y : Ent) : Prop := ∀ g, v = .slice (some ⟨g, 0, none⟩) 1 1 → Blk w g #[.int .i64 y.1, .int .i64 y.2.1, .float .f32 y.2.2] 113
theorem OneE.ext {w w' : World} {v : Value} {y : Ent} (h : OneE w v y) (hx : Ext w w') : OneE w' v y := fun g hg => (h g hg).ext hx
theorem OneE.new (w : World) (y : Ent) : OneE (w.alloc (.cells #[.int .i64 y.1, .int .i64 y.2.1, .float .f32 y.2.2] 113)) (.slice (some ⟨w.heap.size, 0, none⟩) 1 1) y := by
  intro g hg
  simp at hg
  subst hg
  exact Blk.new _ _ _

set_option maxRecDepth 20000 in
set_option maxHeartbeats 8000000 in
theorem specEntriesOf_any (sd : Int) (A : Option Addr) (n ca : Nat) (B : Option Addr) (m cb : Nat) (V : Option Addr) (p cv : Nat) (st co : List Int) (va : List Nat) (w : World) (hr : Rds w A n (ints st)) (hq : Rds w B m (ints co)) (hv : Rds w V p (flts va)) :
    Calls Try.prog 44 #[.agg #[.int .i64 sd, .slice A n ca, .slice B m cb, .slice V p cv]] w (RetEB w (entD sd st co va)) := by
  have HM := Lib.hid hq.ilen
  cases hs : isSp sd st co va with
  | false =>
    have hd : entD sd st co va = ([], false) := by unfold entD; rw [hs]; rfl
    rw [hd]
    clear hd
    go_enter Try.func44, Try.ntmps44
    go_upto_region 1 with (fail)
    obtain ⟨w0, hw0⟩ : ∃ w0, w0 = (w.alloc (.cells #[.int .i64 sd, .slice A n ca, .slice B m cb, .slice V p cv] 27)) := ⟨_, rfl⟩
    have hx0 : Ext w w0 := by subst hw0; exact (Ext.refl _).alloc _
    have ba : Blk w0 (w.heap.size) #[.int .i64 sd, .slice A n ca, .slice B m cb, .slice V p cv] 27 := by subst hw0; exact (Blk.new w _ _)
    rw [← hw0]
    clear hw0
    go_wp2_with fail
    refine (l05Is_any _ sd A n ca B m cb V p cv st co va _ (SAt.of ba (hr.below hx0) (hq.below hx0) (hv.below hx0))).mono ?_
    rintro e w1 ⟨rfl, hx⟩
    rw [hs]
    replace ba := ba.ext hx
    replace hx0 := hx0.trans hx
    clear hx
    go_wp2_with fail
    refine bodyPost_ret (v := .tuple #[.slice none 0 0, .bool false]) (by simp only [results, Try.results44]; simp [go_sem]) rfl ⟨none, 0, rfl, ownE_nil _ _, hx0⟩
  | true =>
    have hsp := isSp_iff.1 hs
    obtain ⟨N, rfl⟩ : ∃ N : Nat, sd = N := ⟨sd.toNat, by have := hsp.s1; omega⟩
    have hn32 : N ≤ 32 := by have := hsp.s1; omega
    have hN1 : 1 ≤ N := by have := hsp.s1; omega
    have hd : entD N st co va = (enA st co va N, true) := by unfold entD; rw [hs]; rfl
    rw [hd]
    clear hd
    have hn : N + 1 ≤ n := by have := hsp.s2; rw [hr.ilen] at this; omega
    have hn' : n ≤ N + 1 := by have := hsp.s2; rw [hr.ilen] at this; omega
    have hpm : p = m := by have := hsp.s4; rw [hv.flen, hq.ilen] at this; exact this
    have hm512 : m ≤ 512 := by have := hsp.s3; rw [hq.ilen] at this; exact this
    have HSP := Lib.hid hsp
    have HPM := Lib.hid hpm
    clear hsp hpm
    go_enter Try.func44, Try.ntmps44
    go_upto_region 1 with (fail)
    obtain ⟨w0, hw0⟩ : ∃ w0, w0 = (w.alloc (.cells #[.int .i64 N, .slice A n ca, .slice B m cb, .slice V p cv] 27)) := ⟨_, rfl⟩
    have hx0 : Ext w w0 := by subst hw0; exact (Ext.refl _).alloc _
    have ba : Blk w0 (w.heap.size) #[.int .i64 N, .slice A n ca, .slice B m cb, .slice V p cv] 27 := by subst hw0; exact (Blk.new w _ _)
    rw [← hw0]
    clear hw0
    go_wp2_with fail
    refine (l05Is_any _ N A n ca B m cb V p cv st co va _ (SAt.of ba (hr.below hx0) (hq.below hx0) (hv.below hx0))).mono ?_
    rintro e w1 ⟨rfl, hx⟩
    rw [hs]
    replace ba := ba.ext hx
    replace hx0 := hx0.trans hx
    clear hx
    have A1_ := ba.cell 1 rfl
    have A2_ := ba.cell 2 rfl
    have A3_ := ba.cell 3 rfl
    have A0_ := ba.cell 0 rfl
    have HBA := Lib.hid ba
    clear ba
    go_upto_region 4 with (fail)
    obtain ⟨w2, hw2⟩ : ∃ w2 : World, w2 = w1.alloc (.cells #[] 113) := ⟨_, rfl⟩
    have hxx : Ext w1 w2 := by rw [hw2]; exact (Ext.refl _).alloc _
    have hst : ∃ Y1 c1, (Value.slice (some ⟨w1.heap.size, 0, none⟩) 0 0) = .slice Y1 (enA st co va 0).length c1 ∧ OwnE w2 w1.heap.size (.slice Y1 (enA st co va 0).length c1) (enA st co va 0) ∧ Ext w1 w2 := by
      rw [hw2]
      exact ⟨_, _, rfl, ⟨World.ownsRow_made w1 #[] 0 (Nat.le_refl _) (by unfold maxLen; omega) rfl, by simp [enA]⟩, (Ext.refl _).alloc _⟩
    rw [← hw2]
    clear hw2
    go_wp2_with fail
    go_loopw [4, 5] (fun u u2 wr => ∃ (i : Nat), i ≤ N ∧ u2 = .int .i64 i ∧ ∃ Y1 c1, u = .slice Y1 (enA st co va i).length c1 ∧ OwnE wr w1.heap.size (.slice Y1 (enA st co va i).length c1) (enA st co va i) ∧ Ext w1 wr) (fun _ u2 _ => N - (intOf u2).toNat)
    case atStart => exact ⟨0, Nat.zero_le _, rfl, hst⟩
    case round =>
      rename World => wA
      clear hst hxx
      obtain ⟨i, hi, rfl, Y1, c1, rfl, oo, yA⟩ := hrel
      have c0_ := yA.cell A0_
      have c1_ := yA.cell A1_
      by_cases hlt : i < N
      · have g1 : IntKind.i64.wrap ((i : Int) + 1) = (i : Int) + 1 := IntWalk.i64_in _ (by omega)
        have r0 := HSP.out.range (i := i) (by omega)
        have r1 := HSP.out.range (i := i + 1) (by omega)
        have e1 : ((i + 1 : Nat) : Int) = (i : Int) + 1 := by omega
        rw [HM.out] at r0 r1
        rw [e1] at r1
        have hup : rd st i ≤ rd st ((i : Int) + 1) := HSP.out.s8 i (by omega)
        have hln := enA_length HSP.out i (by omega)
        obtain ⟨s0, hs0⟩ : ∃ s0 : Nat, rd st i = s0 := ⟨(rd st i).toNat, by omega⟩
        obtain ⟨s1, hs1⟩ : ∃ s1 : Nat, rd st ((i : Int) + 1) = s1 := ⟨(rd st ((i : Int) + 1)).toNat, by omega⟩
        have HEA : Hid (enA st co va (i + 1) = enA st co va i ++ enR co va i s0 s1) := by
          show _ = _
          show enA st co va i ++ enR co va i (rd st i).toNat (rd st ((i : Int) + 1)).toNat = _
          rw [hs0, hs1, Int.toNat_natCast, Int.toNat_natCast]
        rw [hs0] at r0 hup hln
        rw [hs1] at r1 hup
        have HLN : Hid (∀ k, s0 ≤ k → (enA st co va i ++ enR co va i s0 k).length = k) := fun k hk => by rw [List.length_append, enR_length]; omega
        have HS0 := Lib.hid hs0
        have HS1 := Lib.hid hs1
        clear hs0 hs1 e1

        obtain ⟨ad, rfl, hc⟩ := (hr.below (hx0.trans yA)).int i (by omega) (by omega)
        rw [HS0.out, Int.toNat_natCast] at hc
        have f2 : (i : Int) < n := by omega
        have f3 : (i : Int) + 1 < n := by omega
        have f1 : (i : Int) < N := by omega
        have hst : ∃ Z1 d1, (Value.slice Y1 (enA st co va i).length c1) = .slice Z1 (enA st co va i ++ enR co va i s0 s0).length d1 ∧ OwnE wA w1.heap.size (.slice Z1 (enA st co va i ++ enR co va i s0 s0).length d1) (enA st co va i ++ enR co va i s0 s0) ∧ Ext w1 wA := by
          rw [enR_self, List.append_nil]
          exact ⟨_, _, rfl, oo, yA⟩
        clear hln oo
        go_wp2_with fail
        go_loopw [4, 6] (fun u u2 wr => ∃ (k : Nat), s0 ≤ k ∧ k ≤ s1 ∧ u2 = .int .i64 k ∧ ∃ Z1 d1, u = .slice Z1 (enA st co va i ++ enR co va i s0 k).length d1 ∧ OwnE wr w1.heap.size (.slice Z1 (enA st co va i ++ enR co va i s0 k).length d1) (enA st co va i ++ enR co va i s0 k) ∧ Ext w1 wr) (fun _ u2 _ => s1 - (intOf u2).toNat)
        case atStart => exact ⟨s0, Nat.le_refl _, by omega, rfl, hst⟩
        case round =>
          rename World => wB
          clear hst hc c0_ c1_ yA
          obtain ⟨k, hk0, hk1, rfl, Z1, d1, rfl, oo, yB⟩ := hrel
          have c1_ := yB.cell A1_
          have c2_ := yB.cell A2_
          have c3_ := yB.cell A3_
          obtain ⟨ad', had, hc1⟩ := (hr.below (hx0.trans yB)).int ((i : Int) + 1) (by omega) (by omega)
          obtain rfl := Option.some.inj had
          clear had
          rw [HS1.out, show ((i : Int) + 1).toNat = i + 1 by omega, Addr.add_succ'] at hc1
          by_cases hlk : k < s1
          · have hlk' : (k : Int) < s1 := by omega
            have hkm : k < m := by omega
            have hkm' : (k : Int) < m := by omega
            have hkp : k < p := by rw [HPM.out]; exact hkm
            have hkp' : (k : Int) < p := by omega
            obtain ⟨adc, rfl, hd⟩ := (hq.below (hx0.trans yB)).intN k hkm
            obtain ⟨adv, rfl, he⟩ := (hv.below (hx0.trans yB)).fltN k hkp
            have g4 : IntKind.i64.wrap ((k : Int) + 1) = (k : Int) + 1 := IntWalk.i64_in _ (by omega)
            obtain ⟨cc, hcc⟩ : ∃ cc, cc = rd co k := ⟨_, rfl⟩
            obtain ⟨xx, hxx⟩ : ∃ xx, xx = rdf va k := ⟨_, rfl⟩
            have hlk_ := HLN.out k hk0
            have HLK := Lib.hid hlk_
            have HE : Hid (enA st co va i ++ enR co va i s0 (k + 1) = (enA st co va i ++ enR co va i s0 k) ++ [((i : Int), cc, xx)]) := by show _ = _; rw [enR_next hk0, List.append_assoc, hcc, hxx]
            rw [← hcc] at hd
            rw [← hxx] at he
            clear hcc hxx hlk_
            obtain ⟨es, hes⟩ : ∃ es, es = enA st co va i ++ enR co va i s0 k := ⟨_, rfl⟩
            rw [← hes] at oo HE HLK
            rw [← hes]
            clear hes
            go_wp2_with fail
            refine wp_region_T (cs := []) [0, 1, 2, 3, 4, 5, 6, 7, 8, 9, 10, 11, 12, 13] [14, 15] [13] [] (fun i__ v => match i__ with | 13 => ∃ g, v = .slice (some ⟨g, 0, none⟩) 1 1 | _ => False) (fun i__ v w' => match i__ with | 13 => OneE w' v ((i : Int), cc, xx) | _ => True) (by kernel_rfl) (by kernel_rfl) (by intro i v w' w2 h hx; revert h; (try dsimp only); split <;> intro h <;> first | trivial | exact OneE.ext h hx) ?_
            refine' wpT_det (o := ⟨some 31, Op.move (Operand.tmp 4), 51, "l05_sparse.go:99", #[], none⟩) rfl (by rfl) (by rfl) (fun w' hw' => ?_) ?_; rotate_left
            · go_simp <;> first | rfl | exact ⟨rfl, rfl⟩
            simp only [Act.put, List.setIfInBounds_toArray, List.set_cons_zero, List.set_cons_succ]
            refine' wpT_det (o := ⟨some 32, Op.move (Operand.tmp 5), 2, "l05_sparse.go:99", #[], none⟩) rfl (by rfl) (by rfl) (fun w' hw' => ?_) ?_; rotate_left
            · go_simp <;> first | rfl | exact ⟨rfl, rfl⟩
            simp only [Act.put, List.setIfInBounds_toArray, List.set_cons_zero, List.set_cons_succ]
            refine' wpT_det (o := ⟨some 33, Op.fieldAddr 27 (Operand.tmp 1) 2, 0, "l05_sparse.go:99", #[], none⟩) rfl (by rfl) (by rfl) (fun w' hw' => ?_) ?_; rotate_left
            · go_simp <;> first | rfl | exact ⟨rfl, rfl⟩
            simp only [Act.put, List.setIfInBounds_toArray, List.set_cons_zero, List.set_cons_succ]
            refine' wpT_det (o := ⟨some 34, Op.load 22 (Operand.tmp 33), 22, "l05_sparse.go:99", #[{ on := 2, ground := Ground.data }], none⟩) rfl (by rfl) (by rfl) (fun w' hw' => ?_) ?_; rotate_left
            · have c2__ := Ext.cell hw' c2_; have c3__ := Ext.cell hw' c3_; have hd_ := Ext.cell hw' hd; have he_ := Ext.cell hw' he; go_simp <;> first | rfl | exact ⟨rfl, rfl⟩
            simp only [Act.put, List.setIfInBounds_toArray, List.set_cons_zero, List.set_cons_succ]
            refine' wpT_det (o := ⟨some 35, Op.move (Operand.tmp 6), 2, "l05_sparse.go:99", #[], none⟩) rfl (by rfl) (by rfl) (fun w' hw' => ?_) ?_; rotate_left
            · go_simp <;> first | rfl | exact ⟨rfl, rfl⟩
            simp only [Act.put, List.setIfInBounds_toArray, List.set_cons_zero, List.set_cons_succ]
            refine' wpT_det (o := ⟨some 36, Op.indexAddr 22 (Operand.tmp 34) (Operand.tmp 35), 0, "l05_sparse.go:99", #[{ on := 3, ground := Ground.data }, { on := 4, ground := Ground.data }], none⟩) rfl (by rfl) (by rfl) (fun w' hw' => ?_) ?_; rotate_left
            · go_simp <;> first | rfl | exact ⟨rfl, rfl⟩
            simp only [Act.put, List.setIfInBounds_toArray, List.set_cons_zero, List.set_cons_succ]
            refine' wpT_det (o := ⟨some 37, Op.load 2 (Operand.tmp 36), 2, "l05_sparse.go:99", #[{ on := 5, ground := Ground.data }], none⟩) rfl (by rfl) (by rfl) (fun w' hw' => ?_) ?_; rotate_left
            · have c2__ := Ext.cell hw' c2_; have c3__ := Ext.cell hw' c3_; have hd_ := Ext.cell hw' hd; have he_ := Ext.cell hw' he; go_simp <;> first | rfl | exact ⟨rfl, rfl⟩
            simp only [Act.put, List.setIfInBounds_toArray, List.set_cons_zero, List.set_cons_succ]
            refine' wpT_det (o := ⟨some 38, Op.fieldAddr 27 (Operand.tmp 1) 3, 0, "l05_sparse.go:99", #[], none⟩) rfl (by rfl) (by rfl) (fun w' hw' => ?_) ?_; rotate_left
            · go_simp <;> first | rfl | exact ⟨rfl, rfl⟩
            simp only [Act.put, List.setIfInBounds_toArray, List.set_cons_zero, List.set_cons_succ]
            refine' wpT_det (o := ⟨some 39, Op.load 23 (Operand.tmp 38), 23, "l05_sparse.go:99", #[{ on := 7, ground := Ground.data }], none⟩) rfl (by rfl) (by rfl) (fun w' hw' => ?_) ?_; rotate_left
            · have c2__ := Ext.cell hw' c2_; have c3__ := Ext.cell hw' c3_; have hd_ := Ext.cell hw' hd; have he_ := Ext.cell hw' he; go_simp <;> first | rfl | exact ⟨rfl, rfl⟩
            simp only [Act.put, List.setIfInBounds_toArray, List.set_cons_zero, List.set_cons_succ]
            refine' wpT_det (o := ⟨some 40, Op.move (Operand.tmp 6), 2, "l05_sparse.go:99", #[], none⟩) rfl (by rfl) (by rfl) (fun w' hw' => ?_) ?_; rotate_left
            · go_simp <;> first | rfl | exact ⟨rfl, rfl⟩
            simp only [Act.put, List.setIfInBounds_toArray, List.set_cons_zero, List.set_cons_succ]
            refine' wpT_det (o := ⟨some 41, Op.indexAddr 23 (Operand.tmp 39) (Operand.tmp 40), 0, "l05_sparse.go:99", #[{ on := 8, ground := Ground.data }, { on := 9, ground := Ground.data }], none⟩) rfl (by rfl) (by rfl) (fun w' hw' => ?_) ?_; rotate_left
            · go_simp <;> first | rfl | exact ⟨rfl, rfl⟩
            simp only [Act.put, List.setIfInBounds_toArray, List.set_cons_zero, List.set_cons_succ]
            refine' wpT_det (o := ⟨some 42, Op.load 43 (Operand.tmp 41), 43, "l05_sparse.go:99", #[{ on := 10, ground := Ground.data }], none⟩) rfl (by rfl) (by rfl) (fun w' hw' => ?_) ?_; rotate_left
            · have c2__ := Ext.cell hw' c2_; have c3__ := Ext.cell hw' c3_; have hd_ := Ext.cell hw' hd; have he_ := Ext.cell hw' he; go_simp <;> first | rfl | exact ⟨rfl, rfl⟩
            simp only [Act.put, List.setIfInBounds_toArray, List.set_cons_zero, List.set_cons_succ]
            refine' wpT_det (o := ⟨some 43, Op.build 113 #[(0, Operand.tmp 32), (1, Operand.tmp 37), (2, Operand.tmp 42)], 113, "l05_sparse.go:99", #[{ on := 1, ground := Ground.data }, { on := 6, ground := Ground.data }, { on := 11, ground := Ground.data }], none⟩) rfl (by rfl) (by rfl) (fun w' hw' => ?_) ?_; rotate_left
            · go_simp <;> first | rfl | exact ⟨rfl, rfl⟩
            simp only [Act.put, List.setIfInBounds_toArray, List.set_cons_zero, List.set_cons_succ]
            refine wpT_nd (o := ⟨some 44, Op.buildSlice 51 1 #[(0, Operand.tmp 43)], 51, "l05_sparse.go:99", #[{ on := 12, ground := Ground.data }], none⟩) rfl (by rfl) (by rfl) (fun w' hw' hF R__ hGo => ?_) ⟨_, 0, rfl⟩ ?_
            · go_simp; exact gives_value rfl (hGo _ _ ((Ext.refl _).alloc _) ⟨_, rfl⟩ (OneE.new w' ((i : Int), cc, xx)))
            rintro _ ⟨g13, rfl⟩
            simp only [Act.put, List.setIfInBounds_toArray, List.set_cons_zero, List.set_cons_succ]
            refine wpT_nil (fun w6 hw' hF => ?_)
            show wpList _ _ _ [(⟨some 45, Op.call { callee := Callee.builtin Builtin.append, args := #[Operand.tmp 31, Operand.tmp 44], argTypes := #[51, 51] }, 51, "l05_sparse.go:99", #[{ on := 0, ground := Ground.data }, { on := 13, ground := Ground.data }], none⟩ : Oper), (⟨some 4, Op.assign (Operand.tmp 45), 51, "l05_sparse.go:99", #[{ on := 14, ground := Ground.data }, { on := 14, ground := Ground.chain }, { on := 0, ground := Ground.phase }, { on := 1, ground := Ground.phase }, { on := 2, ground := Ground.phase }, { on := 3, ground := Ground.phase }, { on := 4, ground := Ground.phase }, { on := 5, ground := Ground.phase }, { on := 6, ground := Ground.phase }, { on := 7, ground := Ground.phase }, { on := 8, ground := Ground.phase }, { on := 9, ground := Ground.phase }, { on := 10, ground := Ground.phase }, { on := 11, ground := Ground.phase }, { on := 12, ground := Ground.phase }, { on := 13, ground := Ground.phase }, { on := 14, ground := Ground.phase }], none⟩ : Oper)] _ _
            have hg : OneE w6 (.slice (some ⟨g13, 0, none⟩) 1 1) ((i : Int), cc, xx) := hF 13 _ rfl
            have hg' := hg g13 rfl
            have hx := hw'.undrew
            clear hF hw' c1_ c2_ c3_ hc1 hd he hg
            have oo' := oo.ext hx
            have yC := yB.trans hx
            have hsz := yC.size
            have HLE : Hid (es.length ≤ 1000) := by rw [HLK.out]; show _ ≤ _; omega
            clear oo hx
            go_wp2_with (at_builtin; go_loud (refine wpList_appE rfl _ _ rfl w6 w1.heap.size (.slice Z1 es.length d1) es rfl g13 ((i : Int), cc, xx) rfl hg' oo' (by have := HLE.out; omega) hsz ?_); intro A' c' w7 h1 h2 h3)
            go_roundw
            case rel =>
              refine ⟨k + 1, by omega, by omega, by go_num, A', c', ?_, ?_, h2.extE yC oo'⟩
              · rw [HE.out, List.length_append]; rfl
              · rw [HE.out, List.length_append]; exact h1
            case measure => simp [intOf]; omega
          · obtain rfl : k = s1 := by omega
            rw [← HEA.out] at oo
            go_wp2_with fail
            go_roundw
            case rel => exact ⟨i + 1, by omega, by go_num, Z1, d1, by rw [HEA.out], oo, yB⟩
            case measure => simp [intOf]; omega
      · obtain rfl : i = N := by omega
        go_wp2_with fail
        refine bodyPost_ret (v := .tuple #[.slice Y1 (enA st co va i).length c1, .bool true]) (by simp only [results, Try.results44]; simp [go_sem]) rfl ⟨Y1, c1, rfl, oo.base hx0.size, hx0.trans yA⟩

end Go.Proofs.Ytkifpligpobiaaa
