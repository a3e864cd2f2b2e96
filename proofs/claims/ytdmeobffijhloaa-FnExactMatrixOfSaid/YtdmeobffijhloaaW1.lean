
import Derived.Test.YtdmeobffijhloaaE2

import Derived.Test.YtdmeobffijhloaaB3M
set_option linter.unusedVariables false
set_option linter.unusedSimpArgs false

namespace Go.Proofs.Ytdmeobffijhloaa

open Go.RowKit


/-- A Whole in floats. -/
abbrev toF (x : Int) : Nat := floatOfInt .f32 x
def mfD (r c : Int) (xs : List Int) : MD := if isWholeB r c xs 1000000 then ⟨r, c, xs.map toF, true⟩ else MD.bad
theorem mf_bad {r c : Int} {xs : List Int} (h : isWholeB r c xs 1000000 = false) : mfD r c xs = MD.bad := by simp [mfD, h]
theorem mf_good {r c : Int} {xs : List Int} (h : isWholeB r c xs 1000000 = true) : mfD r c xs = ⟨r, c, xs.map toF, true⟩ := by simp [mfD, h]
theorem mf_nat {r c : Int} {xs : List Int} {most : Int} (h : isWholeB r c xs most = true) : ∃ R C : Nat, r = R ∧ c = C ∧ 1 ≤ R ∧ R ≤ 6 ∧ 1 ≤ C ∧ C ≤ 6 ∧ xs.length = R * C := by
  unfold isWholeB at h
  simp only [Bool.and_eq_true, decide_eq_true_eq] at h
  obtain ⟨⟨⟨h1, h2⟩, h3⟩, _⟩ := h
  have h1 := inR_iff.1 h1
  have h2 := inR_iff.1 h2
  refine ⟨r.toNat, c.toNat, by omega, by omega, by omega, by omega, by omega, by omega, ?_⟩
  have e1 : r = (r.toNat : Int) := by omega
  have e2 : c = (c.toNat : Int) := by omega
  rw [e1, e2] at h3
  have : ((r.toNat : Int) * (c.toNat : Int)) = ((r.toNat * c.toNat : Nat) : Int) := by simp
  omega
theorem c32_toF (x : Int) : c32 (toF x) = some (toF x) := by
  unfold c32 cf
  rw [floatOfInt_nan x]
  rfl
theorem cfs_some {ys L : List Nat} (h : cfs ys = L.map some) : ys = L := by
  have hl : ys.length = L.length := by rw [← cfs_length, h, List.length_map]
  apply List.ext_getElem hl
  intro j h1 h2
  have e : (cfs ys)[j]? = (L.map some)[j]? := by rw [h]
  unfold cfs at e
  rw [List.getElem?_map, List.getElem?_map, List.getElem?_eq_getElem h1, List.getElem?_eq_getElem h2] at e
  exact (cf_some (Option.some.inj e)).1
theorem mf_tab {R C : Nat} {xs : List Int} (hl : xs.length = R * C) : tab C (fun i k => c32 (toF (atI xs C i k))) (R * C) = (xs.map toF).map some := by
  apply List.ext_getElem
  · rw [tab_length, List.length_map, List.length_map, hl]
  intro j h1 h2
  rw [tab_length] at h1
  have hC : 0 < C := by
    rcases Nat.eq_zero_or_pos C with h0 | h0
    · subst h0; omega
    · exact h0
  have hd := Nat.div_add_mod j C
  have e : ((j / C : Nat) : Int) * C + ((j % C : Nat) : Int) = (j : Int) := by
    have : ((j / C : Nat) : Int) * C = ((C * (j / C) : Nat) : Int) := by rw [Nat.mul_comm]; simp
    omega
  simp only [tab, List.getElem_map, List.getElem_range]
  rw [c32_toF]
  unfold atI
  rw [e, rd_get (by omega)]

set_option maxRecDepth 20000 in
set_option maxHeartbeats 1000000 in
theorem mat1_any (b R C i k n cap : Nat) (A : Option Addr) (xs : List Int) (w : World) (hi : i < R) (hk : k < C) (hR : R ≤ 6) (hC : C ≤ 6) (hn : n = R * C) (ha : WAt w b R C A n cap xs) :
    Calls Try.prog 25 #[.int .i64 i, .int .i64 k, .pointer (some ⟨b, 0, none⟩)] w (RetF w (c32 (toF (atI xs C i k)))) := by
  obtain ⟨c0, c1, c2, hr⟩ := ha
  have Hn := Lib.hid hn
  clear hn
  go_enter Try.func25, Try.ntmps25
  go_upto_region 1 with (fail)
  go_wp2_with fail
  refine (at_any R C i k n cap A xs w hi hk hR hC Hn.out hr).mono ?_
  rintro e w1 ⟨rfl, hx⟩
  go_wp2_with fail
  go_ret
  exact ⟨_, rfl, rfl, hx⟩

set_option maxRecDepth 20000 in
set_option maxHeartbeats 4000000 in
theorem implMatrixOf_any (r c : Int) (A : Option Addr) (n cap : Nat) (xs : List Int) (w : World) (hr : Rds w A n (ints xs)) :
    Calls Try.prog 8 #[.agg #[.int .i64 r, .int .i64 c, .slice A n cap]] w (RetMD w (mfD r c xs)) := by
  have HL := Lib.hid hr.ilen
  have hx0 : Ext w ((w.alloc (.cells #[.int .i64 r, .int .i64 c, .slice A n cap] 31)).alloc (.cells #[.int .i64 0, .int .i64 0, .slice none 0 0] 28)) := ((Ext.refl _).alloc _).alloc _
  have ha0 := (WAt.new (r := r) (c := c) (cap := cap) hr 31).ext ((Ext.refl _).alloc (.cells #[.int .i64 0, .int .i64 0, .slice none 0 0] 28))
  cases hv : isWholeB r c xs 1000000 with
  | false =>
    have hd := mf_bad hv
    go_enter Try.func8, Try.ntmps8
    go_upto_region 1 with (fail)
    go_wp2_with fail
    refine (implValidWhole_any r c A n cap xs _ ha0.rds).mono ?_
    rintro e w1 ⟨rfl, hx⟩
    rw [hv]
    have b0 : Blk w1 (w.heap.size + 1) #[.int .i64 0, .int .i64 0, .slice none 0 0] 28 := Blk.ext (by simpa using Blk.new (w.alloc (.cells #[.int .i64 r, .int .i64 c, .slice A n cap] 31)) #[.int .i64 0, .int .i64 0, .slice none 0 0] 28) hx
    clear ha0
    have y0 : w1.cell? ⟨w.heap.size + 1, 0, none⟩ = some (.int .i64 0) := b0.cell 0 rfl
    have y1 : w1.cell? ⟨w.heap.size + 1, 1, none⟩ = some (.int .i64 0) := b0.cell 1 rfl
    have y2 : w1.cell? ⟨w.heap.size + 1, 2, none⟩ = some (.slice none 0 0) := b0.cell 2 rfl
    have q0 := b0.free 0
    have q1 := b0.free 1
    have q2 := b0.free 2
    have hq := b0.lt
    go_wp2_with fail
    obtain ⟨k1, k2, k3⟩ := Own.resM (w := w) (u := .int .i64 0) (v := .int .i64 0) (x := .slice none 0 0) b0 (own_nil _ w.heap.size _) (hx0.trans hx) (by omega)
    exact bodyPost_ret (resMB (x := .bool false) rfl rfl rfl k3) rfl (RetMD.bad hd k2)
  | true =>
    obtain ⟨R, C, rfl, rfl, p1, p2, p3, p4, p5⟩ := mf_nat hv
    have Hn : Hid (n = R * C) := by have := HL.out; show n = _; omega
    have HT := Lib.hid (mf_tab p5)
    have Hd := Lib.hid (mf_good hv)
    have Hlen : Hid ((xs.map toF).length = R * C) := by show _ = _; rw [List.length_map]; exact p5
    clear p5
    go_enter Try.func8, Try.ntmps8
    go_upto_region 1 with (fail)
    go_wp2_with fail
    refine (implValidWhole_any R C A n cap xs _ ha0.rds).mono ?_
    rintro e w1 ⟨rfl, hx⟩
    rw [hv]
    have b0 : Blk w1 (w.heap.size + 1) #[.int .i64 0, .int .i64 0, .slice none 0 0] 28 := Blk.ext (by simpa using Blk.new (w.alloc (.cells #[.int .i64 R, .int .i64 C, .slice A n cap] 31)) #[.int .i64 0, .int .i64 0, .slice none 0 0] 28) hx
    have ha1 := ha0.ext hx
    have hx1 := hx0.trans hx
    obtain ⟨c0, c1, c2, _⟩ := ha0.ext hx
    clear ha0 hx hx0
    go_wp2_with fail
    refine (made_any 25 _ (enters_of Try.func25 (by kernel_rfl) rfl) R C (by omega) (by omega) (fun i k => c32 (toF (atI xs C i k))) _ (fun i k W hi hk hW => ?_) (fun i k _ _ => ⟨_, rfl⟩)).mono ?_
    · exact mat1_any _ R C i k n cap A xs W hi hk p2 p4 Hn.out (ha1.ext hW)
    rintro e w2 ⟨A', c', zs, hz, rfl, ho, hx⟩
    rw [HT.out] at hz
    obtain rfl := cfs_some hz
    replace b0 := b0.ext hx
    clear c0 c1 c2 ha1 hz
    have y0 : w2.cell? ⟨w.heap.size + 1, 0, none⟩ = some (.int .i64 0) := b0.cell 0 rfl
    have y1 : w2.cell? ⟨w.heap.size + 1, 1, none⟩ = some (.int .i64 0) := b0.cell 1 rfl
    have y2 : w2.cell? ⟨w.heap.size + 1, 2, none⟩ = some (.slice none 0 0) := b0.cell 2 rfl
    have q0 := b0.free 0
    have q1 := b0.free 1
    have q2 := b0.free 2
    have hq := b0.lt
    go_wp2_with fail
    obtain ⟨k1, k2, k3⟩ := Own.resM (w := w) (u := .int .i64 R) (v := .int .i64 C) (x := .slice A' (R * C) c') b0 (ho.base hx1.size) (hx1.trans hx) (by omega)
    refine bodyPost_ret (resMB rfl rfl rfl k3) rfl ?_
    rw [Hd.out]
    exact ⟨A', c', by rw [Hlen.out]; rfl, by rw [Hlen.out]; exact k1, k2⟩

set_option maxRecDepth 20000 in
set_option maxHeartbeats 4000000 in
theorem specMatrixOf_any (r c : Int) (A : Option Addr) (n cap : Nat) (xs : List Int) (w : World) (hr : Rds w A n (ints xs)) :
    Calls Try.prog 6 #[.agg #[.int .i64 r, .int .i64 c, .slice A n cap]] w (RetMD w (mfD r c xs)) := by
  have HL := Lib.hid hr.ilen
  have hsm := hr.small
  have hx0 : Ext w ((w.alloc (.cells #[.int .i64 r, .int .i64 c, .slice A n cap] 31)).alloc (.cells #[.int .i64 0, .int .i64 0, .slice none 0 0] 28)) := ((Ext.refl _).alloc _).alloc _
  have ha0 := (WAt.new (r := r) (c := c) (cap := cap) hr 31).ext ((Ext.refl _).alloc (.cells #[.int .i64 0, .int .i64 0, .slice none 0 0] 28))
  cases hv : isWholeB r c xs 1000000 with
  | false =>
    have hd := mf_bad hv
    go_enter Try.func6, Try.ntmps6
    go_upto_region 1 with (fail)
    go_wp2_with fail
    refine (l06Is_any _ r c _ A n cap xs _ ha0.c0 ha0.c1 ha0.c2 ha0.rds (by omega)).mono ?_
    rintro e w1 ⟨rfl, hx⟩
    rw [hv]
    have b0 : Blk w1 (w.heap.size + 1) #[.int .i64 0, .int .i64 0, .slice none 0 0] 28 := Blk.ext (by simpa using Blk.new (w.alloc (.cells #[.int .i64 r, .int .i64 c, .slice A n cap] 31)) #[.int .i64 0, .int .i64 0, .slice none 0 0] 28) hx
    clear ha0
    have y0 : w1.cell? ⟨w.heap.size + 1, 0, none⟩ = some (.int .i64 0) := b0.cell 0 rfl
    have y1 : w1.cell? ⟨w.heap.size + 1, 1, none⟩ = some (.int .i64 0) := b0.cell 1 rfl
    have y2 : w1.cell? ⟨w.heap.size + 1, 2, none⟩ = some (.slice none 0 0) := b0.cell 2 rfl
    have q0 := b0.free 0
    have q1 := b0.free 1
    have q2 := b0.free 2
    have hq := b0.lt
    go_wp2_with fail
    obtain ⟨k1, k2, k3⟩ := Own.resM (w := w) (u := .int .i64 0) (v := .int .i64 0) (x := .slice none 0 0) b0 (own_nil _ w.heap.size _) (hx0.trans hx) (by omega)
    exact bodyPost_ret (resMB (x := .bool false) rfl rfl rfl k3) rfl (RetMD.bad hd k2)
  | true =>
    obtain ⟨R, C, rfl, rfl, p1, p2, p3, p4, p5⟩ := mf_nat hv
    have h36 : R * C ≤ 36 := Nat.mul_le_mul p2 p4
    have Hn : Hid (n = R * C) := by have := HL.out; show n = _; omega
    have hn36 : n ≤ 36 := by have := Hn.out; omega
    have Hd := Lib.hid (mf_good hv)
    have Hlen : Hid ((xs.map toF).length = n) := by show _ = _; rw [List.length_map]; exact HL.out
    clear p5 h36
    go_enter Try.func6, Try.ntmps6
    go_upto_region 1 with (fail)
    go_wp2_with fail
    refine (l06Is_any _ R C _ A n cap xs _ ha0.c0 ha0.c1 ha0.c2 ha0.rds (by omega)).mono ?_
    rintro e w1 ⟨rfl, hx⟩
    rw [hv]
    have b0 : Blk w1 (w.heap.size + 1) #[.int .i64 0, .int .i64 0, .slice none 0 0] 28 := Blk.ext (by simpa using Blk.new (w.alloc (.cells #[.int .i64 R, .int .i64 C, .slice A n cap] 31)) #[.int .i64 0, .int .i64 0, .slice none 0 0] 28) hx
    have ha1 := ha0.ext hx
    have hx1 := hx0.trans hx
    obtain ⟨c0, c1, c2, _⟩ := ha0.ext hx
    clear ha0 hx hx0
    go_wp2_with fail
    refine (l02Blank_any R C _).mono ?_
    rintro e w2 ⟨A1, k1, ys, hy, rfl, ho, hx⟩
    have hbb : w.heap.size + 1 < w1.heap.size := b0.lt
    have hsz12 : w1.heap.size ≤ w2.heap.size := hx.size
    have hst : MO w1 w2.heap.size (w.heap.size + 1) R C 0 ((xs.take 0).map fun x => some (toF x)) (w2.alloc (.cells #[.int .i64 R, .int .i64 C, .slice A1 0 k1] 28)) :=
      ⟨A1, k1, ys, hy, Blk.new _ _ _, (b0.ext hx).ext ((Ext.refl _).alloc _), ho.ext ((Ext.refl _).alloc _), hx.alloc _⟩
    have c0' := hx.cell c0
    clear c0 c1 c2 b0 ho hy hx
    go_wp2_with fail
    go_loopw [5] (fun u wr => ∃ i : Nat, i ≤ n ∧ u = .int .i64 i ∧ MO w1 w2.heap.size (w.heap.size + 1) R C i ((xs.take i).map fun x => some (toF x)) wr) (fun u _ => n - (intOf u).toNat)
    case atStart => exact ⟨0, Nat.zero_le _, rfl, hst⟩
    case round =>
      clear hst c0'
      obtain ⟨i, hi, rfl, A2, k2, ys, hy, h1, h2, h3, h4⟩ := hrel
      obtain ⟨c0, c1, c2, hr0⟩ := ha1.ext h4
      by_cases hlt : i < n
      · obtain ⟨ad, rfl, hca⟩ := hr0.intN i hlt
        have HE : Hid (xs.take (i + 1) = xs.take i ++ [rd xs i]) := by
          show _ = _
          have hlx : i < xs.length := by rw [HL.out]; exact hlt
          rw [List.take_add_one, List.getElem?_eq_getElem hlx, rd_get hlx]
          rfl
        obtain ⟨x, hx'⟩ : ∃ x, x = rd xs i := ⟨_, rfl⟩
        rw [← hx'] at hca HE
        have z2 : wr.cell? ⟨w2.heap.size, 2, none⟩ = some (.slice A2 i k2) := h1.cell 2 rfl
        clear hx' c0 c1
        go_upto_region 7 with (fail)
        refine wp_region_T (cs := []) [0, 1, 2, 3, 4, 5, 6, 7, 8] [9, 10, 11] [8] [] (fun i__ v => match i__ with | 8 => ∃ g, v = .slice (some ⟨g, 0, none⟩) 1 1 | _ => False) (fun i__ v w' => match i__ with | 8 => One w' v (.float .f32 (toF x)) 46 | _ => True) (by kernel_rfl) (by kernel_rfl) (by intro i v w' w2 h hx; revert h; (try dsimp only); split <;> intro h <;> first | trivial | exact One.ext h hx) ?_
        refine' wpT_det (o := ⟨some 21, Op.fieldAddr 28 (Operand.tmp 4) 2, 0, "l06_integers.go:139", #[], none⟩) rfl (by rfl) (by rfl) (fun w' hw' => ?_) ?_; rotate_left
        · go_simp <;> first | rfl | exact ⟨rfl, rfl⟩
        simp only [Act.put, List.setIfInBounds_toArray, List.set_cons_zero, List.set_cons_succ]
        refine' wpT_det (o := ⟨some 22, Op.load 26 (Operand.tmp 21), 26, "l06_integers.go:139", #[{ on := 0, ground := Ground.data }], none⟩) rfl (by rfl) (by rfl) (fun w' hw' => ?_) ?_; rotate_left
        · have c2_ := Ext.cell hw' c2; have z2_ := Ext.cell hw' z2; have hca_ := Ext.cell hw' hca; go_simp <;> first | rfl | exact ⟨rfl, rfl⟩
        simp only [Act.put, List.setIfInBounds_toArray, List.set_cons_zero, List.set_cons_succ]
        refine' wpT_det (o := ⟨some 23, Op.fieldAddr 31 (Operand.tmp 1) 2, 0, "l06_integers.go:139", #[], none⟩) rfl (by rfl) (by rfl) (fun w' hw' => ?_) ?_; rotate_left
        · go_simp <;> first | rfl | exact ⟨rfl, rfl⟩
        simp only [Act.put, List.setIfInBounds_toArray, List.set_cons_zero, List.set_cons_succ]
        refine' wpT_det (o := ⟨some 24, Op.load 22 (Operand.tmp 23), 22, "l06_integers.go:139", #[{ on := 2, ground := Ground.data }], none⟩) rfl (by rfl) (by rfl) (fun w' hw' => ?_) ?_; rotate_left
        · have c2_ := Ext.cell hw' c2; have z2_ := Ext.cell hw' z2; have hca_ := Ext.cell hw' hca; go_simp <;> first | rfl | exact ⟨rfl, rfl⟩
        simp only [Act.put, List.setIfInBounds_toArray, List.set_cons_zero, List.set_cons_succ]
        refine' wpT_det (o := ⟨some 25, Op.move (Operand.tmp 5), 3, "l06_integers.go:139", #[], none⟩) rfl (by rfl) (by rfl) (fun w' hw' => ?_) ?_; rotate_left
        · go_simp <;> first | rfl | exact ⟨rfl, rfl⟩
        simp only [Act.put, List.setIfInBounds_toArray, List.set_cons_zero, List.set_cons_succ]
        refine' wpT_det (o := ⟨some 26, Op.indexAddr 22 (Operand.tmp 24) (Operand.tmp 25), 0, "l06_integers.go:139", #[{ on := 3, ground := Ground.data }, { on := 4, ground := Ground.data }], none⟩) rfl (by rfl) (by rfl) (fun w' hw' => ?_) ?_; rotate_left
        · go_simp <;> first | rfl | exact ⟨rfl, rfl⟩
        simp only [Act.put, List.setIfInBounds_toArray, List.set_cons_zero, List.set_cons_succ]
        refine' wpT_det (o := ⟨some 27, Op.load 2 (Operand.tmp 26), 2, "l06_integers.go:139", #[{ on := 5, ground := Ground.data }], none⟩) rfl (by rfl) (by rfl) (fun w' hw' => ?_) ?_; rotate_left
        · have c2_ := Ext.cell hw' c2; have z2_ := Ext.cell hw' z2; have hca_ := Ext.cell hw' hca; go_simp <;> first | rfl | exact ⟨rfl, rfl⟩
        simp only [Act.put, List.setIfInBounds_toArray, List.set_cons_zero, List.set_cons_succ]
        refine' wpT_det (o := ⟨some 28, Op.convert 2 46 (Operand.tmp 27), 46, "l06_integers.go:139", #[{ on := 6, ground := Ground.data }], none⟩) rfl (by rfl) (by rfl) (fun w' hw' => ?_) ?_; rotate_left
        · go_simp <;> first | rfl | exact ⟨rfl, rfl⟩
        simp only [Act.put, List.setIfInBounds_toArray, List.set_cons_zero, List.set_cons_succ]
        refine wpT_nd (o := ⟨some 29, Op.buildSlice 26 1 #[(0, Operand.tmp 28)], 26, "l06_integers.go:139", #[{ on := 7, ground := Ground.data }], none⟩) rfl (by rfl) (by rfl) (fun w' hw' hF R__ hGo => ?_) ⟨_, 0, rfl⟩ ?_
        · go_simp; exact gives_value rfl (hGo _ _ ((Ext.refl _).alloc _) ⟨_, rfl⟩ (One.new _ _ _))
        rintro _ ⟨g1', rfl⟩
        simp only [Act.put, List.setIfInBounds_toArray, List.set_cons_zero, List.set_cons_succ]
        refine wpT_nil (fun w5 hw' hF => ?_)
        show wpList _ _ _ [(⟨some 30, Op.call { callee := Callee.builtin Builtin.append, args := #[Operand.tmp 22, Operand.tmp 29], argTypes := #[26, 26] }, 26, "l06_integers.go:139", #[{ on := 1, ground := Ground.data }, { on := 8, ground := Ground.data }], none⟩ : Oper), (⟨some 31, Op.fieldAddr 28 (Operand.tmp 4) 2, 0, "l06_integers.go:139", #[{ on := 0, ground := Ground.phase }, { on := 1, ground := Ground.phase }, { on := 2, ground := Ground.phase }, { on := 3, ground := Ground.phase }, { on := 4, ground := Ground.phase }, { on := 5, ground := Ground.phase }, { on := 6, ground := Ground.phase }, { on := 7, ground := Ground.phase }, { on := 8, ground := Ground.phase }, { on := 9, ground := Ground.phase }], none⟩ : Oper), (⟨none, Op.store 26 (Operand.tmp 31) (Operand.tmp 30), 0, "l06_integers.go:139", #[{ on := 10, ground := Ground.data }, { on := 9, ground := Ground.data }, { on := 9, ground := Ground.chain }, { on := 0, ground := Ground.phase }, { on := 1, ground := Ground.phase }, { on := 2, ground := Ground.phase }, { on := 3, ground := Ground.phase }, { on := 4, ground := Ground.phase }, { on := 5, ground := Ground.phase }, { on := 6, ground := Ground.phase }, { on := 7, ground := Ground.phase }, { on := 8, ground := Ground.phase }, { on := 9, ground := Ground.phase }], none⟩ : Oper)] _ _
        have hg : One w5 (.slice (some ⟨g1', 0, none⟩) 1 1) (.float .f32 (toF x)) 46 := hF 8 _ rfl
        have hx := hw'.undrew
        clear hF hw' z2 c2 hr0 hca
        replace h1 := h1.ext hx
        replace h2 := h2.ext hx
        replace h3 := h3.ext hx
        replace h4 := h4.trans hx
        clear hx
        have hsz := h4.size
        have hl0 := h3.len
        have hlc : (flts ys).length = i := hl0
        have hf := h1.free 2
        have hc := h1.cell 2 rfl
        go_wp2_with (at_builtin; go_loud (refine wpList_app1 rfl _ _ _ rfl w5 w1.heap.size 46 (.float .f32 0) 4 Try.underlying26 info_f32 rfl (by decide) (.slice A2 i k2) (flts ys) rfl g1' (.float .f32 (toF x)) rfl hg h3 rfl (by omega) hsz ?_); rw [hl0]; intro A' c' w6 h5 h6 h7; clear hf hc; have b1 := h1.wr h6 h3 (by decide); have hf := b1.free 2; have hq := b1.lt; have hc := b1.cell 2 rfl)
        go_roundw
        case rel =>
          refine ⟨i + 1, by omega, by go_num, ?_⟩
          have := MO.app (by have := h1.lt; omega) (by omega) hy h1 h2 h3 h4 h5 h6
          rw [HE.out, List.map_append]
          rw [c32_toF] at this
          exact this
        case measure => simp [intOf]; omega
      · obtain rfl : i = n := by omega
        have z0 : wr.cell? ⟨w2.heap.size, 0, none⟩ = some (.int .i64 R) := h1.cell 0 rfl
        have z1 : wr.cell? ⟨w2.heap.size, 1, none⟩ = some (.int .i64 C) := h1.cell 1 rfl
        have z2 : wr.cell? ⟨w2.heap.size, 2, none⟩ = some (.slice A2 i k2) := h1.cell 2 rfl
        have hall : cfs ys = (xs.map toF).map some := by
          rw [hy, List.take_of_length_le (by rw [HL.out]; exact Nat.le_refl _), List.map_map]
          rfl
        obtain rfl := cfs_some hall
        clear hall hy hr0
        have y0 : wr.cell? ⟨w.heap.size + 1, 0, none⟩ = some (.int .i64 0) := h2.cell 0 rfl
        have y1 : wr.cell? ⟨w.heap.size + 1, 1, none⟩ = some (.int .i64 0) := h2.cell 1 rfl
        have y2 : wr.cell? ⟨w.heap.size + 1, 2, none⟩ = some (.slice none 0 0) := h2.cell 2 rfl
        have q0 := h2.free 0
        have q1 := h2.free 1
        have q2 := h2.free 2
        have hq := h2.lt
        go_wp2_with fail
        obtain ⟨j1, j2, j3⟩ := Own.resM (w := w) (u := .int .i64 R) (v := .int .i64 C) (x := .slice A2 i k2) h2 (h3.base hx1.size) (hx1.trans h4) (by omega)
        refine bodyPost_ret (resMB rfl rfl rfl j3) rfl ?_
        rw [Hd.out]
        exact ⟨A2, k2, by rw [Hlen.out]; rfl, by rw [Hlen.out]; exact j1, j2⟩

end Go.Proofs.Ytdmeobffijhloaa
