import Derived.Test.YtgjfdfmbknmpaaaM13
set_option linter.unusedVariables false
set_option linter.unusedSimpArgs false
namespace Go.Proofs.Ytgjfdfmbknmpaaa
open Go.RowKit

theorem pD_a {r c row col rs cs : Int} {xs : List Nat} (h : isMat r c xs = false) : partD r c row col rs cs xs = MD.bad := by simp [partD, h]
theorem pD_b {r c row col rs cs : Int} {xs : List Nat} (h : inPart r c row col rs cs = false) : partD r c row col rs cs xs = MD.bad := by simp [partD, h]
theorem mat_sides {r c : Int} {xs : List Nat} (h : isMat r c xs = true) : inR 1 r 12 = true ∧ inR 1 c 12 = true := by
  unfold isMat at h
  simp only [Bool.and_eq_true] at h
  exact ⟨h.1.1.1, h.1.1.2⟩
theorem add_nat {P a : Nat} (h : P + a ≤ 1000) : IntKind.i64.wrap ((P : Int) + a) = ((P + a : Nat) : Int) := by rw [IntWalk.i64_in _ (by omega)]; rfl

set_option maxRecDepth 20000 in
set_option maxHeartbeats 4000000 in
theorem implPartOfMatrix_any (r c : Int) (A : Option Addr) (n cap : Nat) (row col rs cs : Int) (xs : List Nat) (w : World) (hr : Rds w A n (flts xs)) :
    Calls Try.prog 61 #[.agg #[.int .i64 r, .int .i64 c, .slice A n cap], .int .i64 row, .int .i64 col, .int .i64 rs, .int .i64 cs] w (RetMD w (partD r c row col rs cs xs)) := by
  have HL := Lib.hid hr.flen
  cases hv : isMat r c xs with
  | false =>
    have hd := pD_a (row := row) (col := col) (rs := rs) (cs := cs) hv
    go_enter Try.func61, Try.ntmps61
    go_upto_region 1 with (fail)
    obtain ⟨w0, hw0⟩ : ∃ w0, w0 = ((((w.alloc (.cells #[.int .i64 r, .int .i64 c, .slice A n cap] 35)).alloc (.cells #[.int .i64 row] 2)).alloc (.cells #[.int .i64 col] 2)).alloc (.cells #[.int .i64 0, .int .i64 0, .slice none 0 0] 35)) := ⟨_, rfl⟩
    have hx0 : Ext w w0 := by subst hw0; exact ((((Ext.refl _).alloc _).alloc _).alloc _).alloc _
    have ba : Blk w0 (w.heap.size) #[.int .i64 r, .int .i64 c, .slice A n cap] 35 := by subst hw0; exact (Blk.new w _ _).ext ((((Ext.refl _).alloc _).alloc _).alloc _)
    have bp : Blk w0 (w.heap.size + 1) #[.int .i64 row] 2 := by subst hw0; simpa using (Blk.new (w.alloc (.cells #[.int .i64 r, .int .i64 c, .slice A n cap] 35)) _ _).ext (((Ext.refl _).alloc _).alloc _)
    have bq : Blk w0 (w.heap.size + 1 + 1) #[.int .i64 col] 2 := by subst hw0; simpa using (Blk.new ((w.alloc (.cells #[.int .i64 r, .int .i64 c, .slice A n cap] 35)).alloc (.cells #[.int .i64 row] 2)) _ _).ext ((Ext.refl _).alloc _)
    have b0 : Blk w0 (w.heap.size + 1 + 1 + 1) #[.int .i64 0, .int .i64 0, .slice none 0 0] 35 := by subst hw0; simpa using (Blk.new (((w.alloc (.cells #[.int .i64 r, .int .i64 c, .slice A n cap] 35)).alloc (.cells #[.int .i64 row] 2)).alloc (.cells #[.int .i64 col] 2)) _ _)
    rw [← hw0]
    clear hw0
    obtain ⟨c0, c1, c2, hr1⟩ := MAt.blk ba (hr.below hx0)
    go_wp2_with fail
    refine (ValidMatrix_any r c A n cap xs _ hr1).mono ?_
    rintro e w1 ⟨rfl, hx⟩
    rw [hv]
    replace b0 := b0.ext hx
    replace hx0 := hx0.trans hx
    clear c0 c1 c2 bp bq hx
    have y0 : w1.cell? ⟨w.heap.size + 1 + 1 + 1, 0, none⟩ = some (.int .i64 0) := b0.cell 0 rfl
    have y1 : w1.cell? ⟨w.heap.size + 1 + 1 + 1, 1, none⟩ = some (.int .i64 0) := b0.cell 1 rfl
    have y2 : w1.cell? ⟨w.heap.size + 1 + 1 + 1, 2, none⟩ = some (.slice none 0 0) := b0.cell 2 rfl
    have q0 := b0.free 0
    have q1 := b0.free 1
    have q2 := b0.free 2
    have hq := b0.lt
    go_wp2_with fail
    obtain ⟨k1, k2, k3⟩ := Own.resM (w := w) (u := .int .i64 0) (v := .int .i64 0) (x := .slice none 0 0) b0 (own_nil _ w.heap.size _) hx0 (by omega)
    exact bodyPost_ret (resMB (x := .bool false) rfl rfl rfl k3) rfl (RetMD.bad hd k2)
  | true =>
    obtain ⟨s1, s2⟩ := mat_sides hv
    cases hp : inPart r c row col rs cs with
    | false =>
      have hd := pD_b (xs := xs) hp
      go_enter Try.func61, Try.ntmps61
      go_upto_region 1 with (fail)
      obtain ⟨w0, hw0⟩ : ∃ w0, w0 = ((((w.alloc (.cells #[.int .i64 r, .int .i64 c, .slice A n cap] 35)).alloc (.cells #[.int .i64 row] 2)).alloc (.cells #[.int .i64 col] 2)).alloc (.cells #[.int .i64 0, .int .i64 0, .slice none 0 0] 35)) := ⟨_, rfl⟩
      have hx0 : Ext w w0 := by subst hw0; exact ((((Ext.refl _).alloc _).alloc _).alloc _).alloc _
      have ba : Blk w0 (w.heap.size) #[.int .i64 r, .int .i64 c, .slice A n cap] 35 := by subst hw0; exact (Blk.new w _ _).ext ((((Ext.refl _).alloc _).alloc _).alloc _)
      have bp : Blk w0 (w.heap.size + 1) #[.int .i64 row] 2 := by subst hw0; simpa using (Blk.new (w.alloc (.cells #[.int .i64 r, .int .i64 c, .slice A n cap] 35)) _ _).ext (((Ext.refl _).alloc _).alloc _)
      have bq : Blk w0 (w.heap.size + 1 + 1) #[.int .i64 col] 2 := by subst hw0; simpa using (Blk.new ((w.alloc (.cells #[.int .i64 r, .int .i64 c, .slice A n cap] 35)).alloc (.cells #[.int .i64 row] 2)) _ _).ext ((Ext.refl _).alloc _)
      have b0 : Blk w0 (w.heap.size + 1 + 1 + 1) #[.int .i64 0, .int .i64 0, .slice none 0 0] 35 := by subst hw0; simpa using (Blk.new (((w.alloc (.cells #[.int .i64 r, .int .i64 c, .slice A n cap] 35)).alloc (.cells #[.int .i64 row] 2)).alloc (.cells #[.int .i64 col] 2)) _ _)
      rw [← hw0]
      clear hw0
      obtain ⟨c0, c1, c2, hr1⟩ := MAt.blk ba (hr.below hx0)
      go_wp2_with fail
      refine (ValidMatrix_any r c A n cap xs _ hr1).mono ?_
      rintro e w1 ⟨rfl, hx⟩
      rw [hv]
      replace b0 := b0.ext hx
      replace ba := ba.ext hx
      replace bp := bp.ext hx
      replace bq := bq.ext hx
      replace hx0 := hx0.trans hx
      clear c0 c1 c2 hx
      obtain ⟨c0, c1, c2, hr1⟩ := MAt.blk ba (hr.below hx0)
      have p0 := bp.cell 0 rfl
      have q0 := bq.cell 0 rfl
      go_wp2_with fail
      refine (liesIn_any r c row col rs cs A n cap _ s1 s2).mono ?_
      rintro e w2 ⟨rfl, hx⟩
      rw [hp]
      replace b0 := b0.ext hx
      replace hx0 := hx0.trans hx
      clear c0 c1 c2 p0 q0 bp bq hx
      have y0 : w2.cell? ⟨w.heap.size + 1 + 1 + 1, 0, none⟩ = some (.int .i64 0) := b0.cell 0 rfl
      have y1 : w2.cell? ⟨w.heap.size + 1 + 1 + 1, 1, none⟩ = some (.int .i64 0) := b0.cell 1 rfl
      have y2 : w2.cell? ⟨w.heap.size + 1 + 1 + 1, 2, none⟩ = some (.slice none 0 0) := b0.cell 2 rfl
      have q0 := b0.free 0
      have q1 := b0.free 1
      have q2 := b0.free 2
      have hq := b0.lt
      go_wp2_with fail
      obtain ⟨k1, k2, k3⟩ := Own.resM (w := w) (u := .int .i64 0) (v := .int .i64 0) (x := .slice none 0 0) b0 (own_nil _ w.heap.size _) hx0 (by omega)
      exact bodyPost_ret (resMB (x := .bool false) rfl rfl rfl k3) rfl (RetMD.bad hd k2)
    | true =>
      have hfin := mat_fin hv
      obtain ⟨R, C, rfl, rfl, u1, u2, u3, u4, u5⟩ := mat_nat hv
      obtain ⟨P, Q, S, T, rfl, rfl, rfl, rfl, v1, v2, v3, v4, v5, v6⟩ := part_nat hp
      have Hn : Hid (n = R * C) := by have := HL.out; show n = _; omega
      have hd : partD R C P Q S T xs = ⟨S, T, wordsL (tab T (partF xs C P Q) (S * T)), true⟩ := by simp [partD, hv, hp]
      have Hall : Hid ((tab T (partF xs C P Q) (S * T)).all finO = true) := tab_all (fun a b ha hb => finO_c32 (at_fin hfin rfl (by omega) (by omega) u2 u4 u5))
      have Hl : Hid ((wordsL (tab T (partF xs C P Q) (S * T))).length = S * T) := by show _ = _; unfold wordsL; rw [List.length_map, tab_length]
      have Hd := Lib.hid hd
      clear hd u5 hfin
      go_enter Try.func61, Try.ntmps61
      go_upto_region 1 with (fail)
      obtain ⟨w0, hw0⟩ : ∃ w0, w0 = ((((w.alloc (.cells #[.int .i64 R, .int .i64 C, .slice A n cap] 35)).alloc (.cells #[.int .i64 P] 2)).alloc (.cells #[.int .i64 Q] 2)).alloc (.cells #[.int .i64 0, .int .i64 0, .slice none 0 0] 35)) := ⟨_, rfl⟩
      have hx0 : Ext w w0 := by subst hw0; exact ((((Ext.refl _).alloc _).alloc _).alloc _).alloc _
      have ba : Blk w0 (w.heap.size) #[.int .i64 R, .int .i64 C, .slice A n cap] 35 := by subst hw0; exact (Blk.new w _ _).ext ((((Ext.refl _).alloc _).alloc _).alloc _)
      have bp : Blk w0 (w.heap.size + 1) #[.int .i64 P] 2 := by subst hw0; simpa using (Blk.new (w.alloc (.cells #[.int .i64 R, .int .i64 C, .slice A n cap] 35)) _ _).ext (((Ext.refl _).alloc _).alloc _)
      have bq : Blk w0 (w.heap.size + 1 + 1) #[.int .i64 Q] 2 := by subst hw0; simpa using (Blk.new ((w.alloc (.cells #[.int .i64 R, .int .i64 C, .slice A n cap] 35)).alloc (.cells #[.int .i64 P] 2)) _ _).ext ((Ext.refl _).alloc _)
      have b0 : Blk w0 (w.heap.size + 1 + 1 + 1) #[.int .i64 0, .int .i64 0, .slice none 0 0] 35 := by subst hw0; simpa using (Blk.new (((w.alloc (.cells #[.int .i64 R, .int .i64 C, .slice A n cap] 35)).alloc (.cells #[.int .i64 P] 2)).alloc (.cells #[.int .i64 Q] 2)) _ _)
      rw [← hw0]
      clear hw0
      obtain ⟨c0, c1, c2, hr1⟩ := MAt.blk ba (hr.below hx0)
      go_wp2_with fail
      refine (ValidMatrix_any _ _ A n cap xs _ hr1).mono ?_
      rintro e w1 ⟨rfl, hx⟩
      rw [hv]
      replace b0 := b0.ext hx
      replace ba := ba.ext hx
      replace bp := bp.ext hx
      replace bq := bq.ext hx
      replace hx0 := hx0.trans hx
      clear c0 c1 c2 hr1 hx
      obtain ⟨c0, c1, c2, hr1⟩ := MAt.blk ba (hr.below hx0)
      have p0 := bp.cell 0 rfl
      have q0 := bq.cell 0 rfl
      go_wp2_with fail
      refine (liesIn_any R C P Q S T A n cap _ s1 s2).mono ?_
      rintro e w2 ⟨rfl, hx⟩
      rw [hp]
      replace b0 := b0.ext hx
      replace ba := ba.ext hx
      replace bp := bp.ext hx
      replace bq := bq.ext hx
      replace hx0 := hx0.trans hx
      clear c0 c1 c2 p0 q0 hr1 hx
      go_wp2_with fail
      refine (made_any 139 _ (enters_of Try.func139 (by kernel_rfl) rfl) S T v2 v4 (partF xs C P Q) _ (fun i k W hi hk hW => ?_) (fun i k _ _ => ⟨_, rfl⟩)).mono ?_
      · exact part1_any _ _ _ R C P Q i k n cap A xs W (by omega) (by omega) u2 u4 Hn.out ((MAt.blk ba (hr.below hx0)).ext hW) (hW.cell (bp.cell 0 rfl)) (hW.cell (bq.cell 0 rfl))
      rintro e w3 ⟨A', c', ys, hy, rfl, ho, hx⟩
      obtain rfl := cfs_all hy Hall.out
      replace b0 := b0.ext hx
      have ho' := ho.base hx0.size
      replace hx0 := hx0.trans hx
      clear ho hx
      have y0 : w3.cell? ⟨w.heap.size + 1 + 1 + 1, 0, none⟩ = some (.int .i64 0) := b0.cell 0 rfl
      have y1 : w3.cell? ⟨w.heap.size + 1 + 1 + 1, 1, none⟩ = some (.int .i64 0) := b0.cell 1 rfl
      have y2 : w3.cell? ⟨w.heap.size + 1 + 1 + 1, 2, none⟩ = some (.slice none 0 0) := b0.cell 2 rfl
      have q0 := b0.free 0
      have q1 := b0.free 1
      have q2 := b0.free 2
      have hq := b0.lt
      go_wp2_with fail
      obtain ⟨k1, k2, k3⟩ := Own.resM (w := w) (u := .int .i64 S) (v := .int .i64 T) (x := .slice A' (S * T) c') b0 ho' hx0 (by omega)
      refine bodyPost_ret (resMB rfl rfl rfl k3) rfl ?_
      rw [Hd.out]
      exact ⟨A', c', by rw [Hl.out]; rfl, by rw [Hl.out]; exact k1, k2⟩

set_option maxRecDepth 20000 in
set_option maxHeartbeats 4000000 in
theorem l02Part_any (b R C P Q S T n cap : Nat) (A : Option Addr) (xs : List Nat) (w : World) (hR : R ≤ 12) (hC : C ≤ 12) (hS : S ≤ 12) (hT : T ≤ 12) (v5 : P + S ≤ R) (v6 : Q + T ≤ C) (hn : n = R * C) (ha : MAt w b R C A n cap xs) :
    Calls Try.prog 137 #[.pointer (some ⟨b, 0, none⟩), .int .i64 P, .int .i64 Q, .int .i64 S, .int .i64 T] w (RetMat w S T (S * T) (tab T (partF xs C P Q) (S * T))) := by
  have Hn := Lib.hid hn
  clear hn
  obtain ⟨m, hm⟩ : ∃ m, m = S * T := ⟨_, rfl⟩
  obtain ⟨hw3, hm144⟩ := mul_nat S T hS hT
  rw [← hm] at hw3 hm144
  have Hm := Lib.hid hm
  rw [← hm]
  clear hm
  go_enter Try.func137, Try.ntmps137
  go_upto_region 1 with (fail)
  obtain ⟨w0, hw0⟩ : ∃ w0, w0 = (w.alloc (.cells #[.int .i64 0, .int .i64 0, .slice none 0 0] 35)) := ⟨_, rfl⟩
  have hx0 : Ext w w0 := by subst hw0; exact (Ext.refl _).alloc _
  have b0 : Blk w0 (w.heap.size) #[.int .i64 0, .int .i64 0, .slice none 0 0] 35 := by subst hw0; exact (Blk.new w _ _)
  rw [← hw0]
  clear hw0
  go_wp2_with fail
  refine (l02Blank_any S T _).mono ?_
  rintro e w5 ⟨A1, k1, zs, hz, rfl, o1, hx⟩
  obtain rfl : zs = [] := List.length_eq_zero_iff.1 (by rw [MO.len hz]; rfl)
  have hne : w.heap.size ≠ w5.heap.size := by have := b0.lt; have := hx.size; omega
  have hle : w0.heap.size ≤ w5.heap.size := hx.size
  have hsz4 : w.heap.size ≤ w0.heap.size := hx0.size
  go_wp2_with fail
  have hst : MO w0 w5.heap.size w.heap.size S T 0 (tab T (partF xs C P Q) 0) (w5.alloc (.cells #[.int .i64 S, .int .i64 T, .slice A1 0 k1] 35)) :=
    ⟨A1, k1, [], rfl, Blk.new _ _ _, (b0.ext hx).ext ((Ext.refl _).alloc _), o1.ext ((Ext.refl _).alloc _), hx.alloc _⟩
  clear o1 hx hz
  go_loopw [12] (fun u wr => ∃ i : Nat, i ≤ m ∧ u = .int .i64 i ∧ MO w0 w5.heap.size w.heap.size S T i (tab T (partF xs C P Q) i) wr) (fun u _ => m - (intOf u).toNat)
  case atStart => exact ⟨0, Nat.zero_le _, rfl, hst⟩
  case round =>
    clear hst
    obtain ⟨i, hi, rfl, A2, k2, zs, hz, h1, h2, h3, h4⟩ := hrel
    by_cases hlt : i < m
    · obtain ⟨p, q, g1, g2, Hp, Hq, d1, d2, d3, d4, d5⟩ := rc_facts Hm.out hlt hm144
      have z2 : wr.cell? ⟨w5.heap.size, 2, none⟩ = some (.slice A2 i k2) := h1.cell 2 rfl
      have e1 := add_nat (P := P) (a := p) (by omega)
      have e2 := add_nat (P := Q) (a := q) (by omega)
      obtain ⟨p', hp'⟩ : ∃ p', p' = P + p := ⟨_, rfl⟩
      obtain ⟨q', hq'⟩ : ∃ q', q' = Q + q := ⟨_, rfl⟩
      rw [← hp'] at e1
      rw [← hq'] at e2
      have Hp' : Hid (p' = P + p) := hp'
      have Hq' : Hid (q' = Q + q) := hq'
      have gp : p' < R := by omega
      have gq : q' < C := by omega
      clear hp' hq'
      go_wp2_with fail
      refine wp_region_T (cs := []) [0, 1, 2, 3, 4, 5, 6, 7, 8, 9, 10, 11, 12, 13, 14] [15, 16, 17] [13, 14] [] (fun i__ v => match i__ with | 13 => v = (.float .f32 (at_ xs C p' q')) | 14 => ∃ g, v = .slice (some ⟨g, 0, none⟩) 1 1 | _ => False) (fun i__ v w' => match i__ with | 14 => OneF w' v (c32 (at_ xs C p' q')) 39 | _ => True) (by kernel_rfl) (by kernel_rfl) (by intro i v w' w2 h hx; revert h; (try dsimp only); split <;> intro h <;> first | trivial | exact OneF.ext h hx) ?_
      refine' wpT_det (o := ⟨some 23, Op.fieldAddr 35 (Operand.tmp 11) 2, 0, "l02_matrices.go:307", #[], none⟩) rfl (by rfl) (by rfl) (fun w' hw' => ?_) ?_; rotate_left
      · go_simp <;> first | rfl | exact ⟨rfl, rfl⟩
      simp only [Act.put, List.setIfInBounds_toArray, List.set_cons_zero, List.set_cons_succ]
      refine' wpT_det (o := ⟨some 24, Op.load 22 (Operand.tmp 23), 22, "l02_matrices.go:307", #[{ on := 0, ground := Ground.data }], none⟩) rfl (by rfl) (by rfl) (fun w' hw' => ?_) ?_; rotate_left
      · have z2_ := Ext.cell hw' z2; go_simp <;> first | rfl | exact ⟨rfl, rfl⟩
      simp only [Act.put, List.setIfInBounds_toArray, List.set_cons_zero, List.set_cons_succ]
      refine' wpT_det (o := ⟨some 25, Op.move (Operand.tmp 0), 85, "l02_matrices.go:307", #[], none⟩) rfl (by rfl) (by rfl) (fun w' hw' => ?_) ?_; rotate_left
      · go_simp <;> first | rfl | exact ⟨rfl, rfl⟩
      simp only [Act.put, List.setIfInBounds_toArray, List.set_cons_zero, List.set_cons_succ]
      refine' wpT_det (o := ⟨some 26, Op.move (Operand.tmp 1), 2, "l02_matrices.go:307", #[], none⟩) rfl (by rfl) (by rfl) (fun w' hw' => ?_) ?_; rotate_left
      · go_simp <;> first | rfl | exact ⟨rfl, rfl⟩
      simp only [Act.put, List.setIfInBounds_toArray, List.set_cons_zero, List.set_cons_succ]
      refine' wpT_det (o := ⟨some 27, Op.move (Operand.tmp 12), 2, "l02_matrices.go:307", #[], none⟩) rfl (by rfl) (by rfl) (fun w' hw' => ?_) ?_; rotate_left
      · go_simp <;> first | rfl | exact ⟨rfl, rfl⟩
      simp only [Act.put, List.setIfInBounds_toArray, List.set_cons_zero, List.set_cons_succ]
      refine' wpT_det (o := ⟨some 28, Op.move (Operand.tmp 4), 2, "l02_matrices.go:307", #[], none⟩) rfl (by rfl) (by rfl) (fun w' hw' => ?_) ?_; rotate_left
      · go_simp <;> first | rfl | exact ⟨rfl, rfl⟩
      simp only [Act.put, List.setIfInBounds_toArray, List.set_cons_zero, List.set_cons_succ]
      refine' wpT_det (o := ⟨some 29, Op.binOp BinOp.quo 2 (Operand.tmp 27) (Operand.tmp 28) 2, 2, "l02_matrices.go:307", #[{ on := 4, ground := Ground.data }, { on := 5, ground := Ground.data }], none⟩) rfl (by rfl) (by rfl) (fun w' hw' => ?_) ?_; rotate_left
      · go_simp <;> first | rfl | exact ⟨rfl, rfl⟩
      simp only [Act.put, List.setIfInBounds_toArray, List.set_cons_zero, List.set_cons_succ]
      refine' wpT_det (o := ⟨some 30, Op.binOp BinOp.add 2 (Operand.tmp 26) (Operand.tmp 29) 2, 2, "l02_matrices.go:307", #[{ on := 3, ground := Ground.data }, { on := 6, ground := Ground.data }], none⟩) rfl (by rfl) (by rfl) (fun w' hw' => ?_) ?_; rotate_left
      · go_simp <;> first | rfl | exact ⟨rfl, rfl⟩
      simp only [Act.put, List.setIfInBounds_toArray, List.set_cons_zero, List.set_cons_succ]
      refine' wpT_det (o := ⟨some 31, Op.move (Operand.tmp 2), 2, "l02_matrices.go:307", #[], none⟩) rfl (by rfl) (by rfl) (fun w' hw' => ?_) ?_; rotate_left
      · go_simp <;> first | rfl | exact ⟨rfl, rfl⟩
      simp only [Act.put, List.setIfInBounds_toArray, List.set_cons_zero, List.set_cons_succ]
      refine' wpT_det (o := ⟨some 32, Op.move (Operand.tmp 12), 2, "l02_matrices.go:307", #[], none⟩) rfl (by rfl) (by rfl) (fun w' hw' => ?_) ?_; rotate_left
      · go_simp <;> first | rfl | exact ⟨rfl, rfl⟩
      simp only [Act.put, List.setIfInBounds_toArray, List.set_cons_zero, List.set_cons_succ]
      refine' wpT_det (o := ⟨some 33, Op.move (Operand.tmp 4), 2, "l02_matrices.go:307", #[], none⟩) rfl (by rfl) (by rfl) (fun w' hw' => ?_) ?_; rotate_left
      · go_simp <;> first | rfl | exact ⟨rfl, rfl⟩
      simp only [Act.put, List.setIfInBounds_toArray, List.set_cons_zero, List.set_cons_succ]
      refine' wpT_det (o := ⟨some 34, Op.binOp BinOp.rem 2 (Operand.tmp 32) (Operand.tmp 33) 2, 2, "l02_matrices.go:307", #[{ on := 9, ground := Ground.data }, { on := 10, ground := Ground.data }], none⟩) rfl (by rfl) (by rfl) (fun w' hw' => ?_) ?_; rotate_left
      · go_simp <;> first | rfl | exact ⟨rfl, rfl⟩
      simp only [Act.put, List.setIfInBounds_toArray, List.set_cons_zero, List.set_cons_succ]
      refine' wpT_det (o := ⟨some 35, Op.binOp BinOp.add 2 (Operand.tmp 31) (Operand.tmp 34) 2, 2, "l02_matrices.go:307", #[{ on := 8, ground := Ground.data }, { on := 11, ground := Ground.data }], none⟩) rfl (by rfl) (by rfl) (fun w' hw' => ?_) ?_; rotate_left
      · go_simp <;> first | rfl | exact ⟨rfl, rfl⟩
      simp only [Act.put, List.setIfInBounds_toArray, List.set_cons_zero, List.set_cons_succ]
      refine wpT_nd (o := ⟨some 36, Op.call { callee := Callee.value (Operand.func 107), args := #[Operand.tmp 25, Operand.tmp 30, Operand.tmp 35], argTypes := #[85, 2, 2] }, 39, "l02_matrices.go:307", #[{ on := 2, ground := Ground.data }, { on := 7, ground := Ground.data }, { on := 12, ground := Ground.data }], none⟩) rfl (by rfl) (by rfl) (fun w' hw' hF R__ hGo => ?_) ⟨_, rfl⟩ ?_
      · go_simp
        refine gives_enter rfl ?_
        refine (l02At_any b R C p' q' n cap A xs _ gp gq hR hC Hn.out (ha.ext ((hx0.trans h4).trans hw'.undrew))).mono ?_
        rintro e w2 ⟨rfl, hx⟩
        exact ⟨_, rfl, hGo _ _ hx rfl trivial⟩
      intro v hv
      obtain rfl : v = (.float .f32 (at_ xs C p' q')) := hv
      simp only [Act.put, List.setIfInBounds_toArray, List.set_cons_zero, List.set_cons_succ]
      refine wpT_nd (o := ⟨some 37, Op.buildSlice 22 1 #[(0, Operand.tmp 36)], 22, "l02_matrices.go:307", #[{ on := 13, ground := Ground.data }], none⟩) rfl (by rfl) (by rfl) (fun w' hw' hF R__ hGo => ?_) ⟨_, 0, rfl⟩ ?_
      · go_simp; exact gives_value rfl (hGo _ _ ((Ext.refl _).alloc _) ⟨_, rfl⟩ ⟨at_ xs C p' q', rfl, One.new _ _ _⟩)
      rintro _ ⟨g1', rfl⟩
      simp only [Act.put, List.setIfInBounds_toArray, List.set_cons_zero, List.set_cons_succ]
      refine wpT_nil (fun w6 hw' hF => ?_)
      show wpList _ _ _ [(⟨some 38, Op.call { callee := Callee.builtin Builtin.append, args := #[Operand.tmp 24, Operand.tmp 37], argTypes := #[22, 22] }, 22, "l02_matrices.go:307", #[{ on := 1, ground := Ground.data }, { on := 14, ground := Ground.data }, { on := 13, ground := Ground.chain }], none⟩ : Oper), (⟨some 39, Op.fieldAddr 35 (Operand.tmp 11) 2, 0, "l02_matrices.go:307", #[{ on := 0, ground := Ground.phase }, { on := 1, ground := Ground.phase }, { on := 2, ground := Ground.phase }, { on := 3, ground := Ground.phase }, { on := 4, ground := Ground.phase }, { on := 5, ground := Ground.phase }, { on := 6, ground := Ground.phase }, { on := 7, ground := Ground.phase }, { on := 8, ground := Ground.phase }, { on := 9, ground := Ground.phase }, { on := 10, ground := Ground.phase }, { on := 11, ground := Ground.phase }, { on := 12, ground := Ground.phase }, { on := 13, ground := Ground.phase }, { on := 14, ground := Ground.phase }, { on := 15, ground := Ground.phase }], none⟩ : Oper), (⟨none, Op.store 22 (Operand.tmp 39) (Operand.tmp 38), 0, "l02_matrices.go:307", #[{ on := 16, ground := Ground.data }, { on := 15, ground := Ground.data }, { on := 15, ground := Ground.chain }, { on := 0, ground := Ground.phase }, { on := 1, ground := Ground.phase }, { on := 2, ground := Ground.phase }, { on := 3, ground := Ground.phase }, { on := 4, ground := Ground.phase }, { on := 5, ground := Ground.phase }, { on := 6, ground := Ground.phase }, { on := 7, ground := Ground.phase }, { on := 8, ground := Ground.phase }, { on := 9, ground := Ground.phase }, { on := 10, ground := Ground.phase }, { on := 11, ground := Ground.phase }, { on := 12, ground := Ground.phase }, { on := 13, ground := Ground.phase }, { on := 14, ground := Ground.phase }, { on := 15, ground := Ground.phase }], none⟩ : Oper)] _ _
      obtain ⟨r, hr', hg⟩ : OneF w6 (.slice (some ⟨g1', 0, none⟩) 1 1) (c32 (at_ xs C p' q')) 39 := hF 14 _ rfl
      have hx := hw'.undrew
      clear hF hw' z2
      replace h1 := h1.ext hx
      replace h2 := h2.ext hx
      replace h3 := h3.ext hx
      replace h4 := h4.trans hx
      clear hx
      have hsz := h4.size
      have hl0 := h3.len
      have hlc : (flts zs).length = i := hl0
      have hf := h1.free 2
      have hc := h1.cell 2 rfl
      go_wp2_with (at_builtin; go_loud (refine wpList_app1 rfl _ _ _ rfl w6 w0.heap.size 39 (.float .f32 0) 4 Try.underlying22 info_f32 rfl (by decide) (.slice A2 i k2) (flts zs) rfl g1' (.float .f32 r) rfl hg h3 rfl (by omega) hsz ?_); rw [hl0]; intro A' c' w7 h5 h6 h7; clear hf hc; have b1 := h1.wr h6 h3 (by decide); have hf := b1.free 2; have hq := b1.lt; have hc := b1.cell 2 rfl)
      go_roundw
      case rel =>
        refine ⟨i + 1, by omega, by go_num, ?_⟩
        have := MO.app hle hne hz h1 h2 h3 h4 h5 h6
        have hval : c32 r = partF xs C P Q (i / T) (i % T) := by rw [hr', Hp.out, Hq.out, Hp'.out, Hq'.out]; rfl
        rwa [hval, tab_next (partF xs C P Q) i] at this
      case measure => simp [intOf]; omega
    · obtain rfl : i = m := by omega
      have z0 : wr.cell? ⟨w5.heap.size, 0, none⟩ = some (.int .i64 S) := h1.cell 0 rfl
      have z1 : wr.cell? ⟨w5.heap.size, 1, none⟩ = some (.int .i64 T) := h1.cell 1 rfl
      have z2 : wr.cell? ⟨w5.heap.size, 2, none⟩ = some (.slice A2 i k2) := h1.cell 2 rfl
      have y0 : wr.cell? ⟨w.heap.size, 0, none⟩ = some (.int .i64 0) := h2.cell 0 rfl
      have y1 : wr.cell? ⟨w.heap.size, 1, none⟩ = some (.int .i64 0) := h2.cell 1 rfl
      have y2 : wr.cell? ⟨w.heap.size, 2, none⟩ = some (.slice none 0 0) := h2.cell 2 rfl
      have q0 := h2.free 0
      have q1 := h2.free 1
      have q2 := h2.free 2
      have hq := h2.lt
      go_wp2_with fail
      obtain ⟨j1, j2, j3⟩ := Own.resM (w := w) (u := .int .i64 S) (v := .int .i64 T) (x := .slice A2 i k2) h2 (h3.base hsz4) (hx0.trans h4) (Nat.le_refl _)
      exact bodyPost_ret (resM rfl rfl j3) rfl ⟨A2, k2, zs, hz, rfl, j1, j2⟩

set_option maxRecDepth 20000 in
set_option maxHeartbeats 4000000 in
theorem specPartOfMatrix_any (r c : Int) (A : Option Addr) (n cap : Nat) (row col rs cs : Int) (xs : List Nat) (w : World) (hr : Rds w A n (flts xs)) :
    Calls Try.prog 60 #[.agg #[.int .i64 r, .int .i64 c, .slice A n cap], .int .i64 row, .int .i64 col, .int .i64 rs, .int .i64 cs] w (RetMD w (partD r c row col rs cs xs)) := by
  have HL := Lib.hid hr.flen
  cases hv : isMat r c xs with
  | false =>
    have hd := pD_a (row := row) (col := col) (rs := rs) (cs := cs) hv
    go_enter Try.func60, Try.ntmps60
    go_upto_region 1 with (fail)
    obtain ⟨w0, hw0⟩ : ∃ w0, w0 = ((w.alloc (.cells #[.int .i64 r, .int .i64 c, .slice A n cap] 35)).alloc (.cells #[.int .i64 0, .int .i64 0, .slice none 0 0] 35)) := ⟨_, rfl⟩
    have hx0 : Ext w w0 := by subst hw0; exact ((Ext.refl _).alloc _).alloc _
    have ba : Blk w0 (w.heap.size) #[.int .i64 r, .int .i64 c, .slice A n cap] 35 := by subst hw0; exact (Blk.new w _ _).ext ((Ext.refl _).alloc _)
    have b0 : Blk w0 (w.heap.size + 1) #[.int .i64 0, .int .i64 0, .slice none 0 0] 35 := by subst hw0; simpa using (Blk.new (w.alloc (.cells #[.int .i64 r, .int .i64 c, .slice A n cap] 35)) _ _)
    rw [← hw0]
    clear hw0
    go_wp2_with fail
    refine (l02Is_any _ r c A n cap xs _ (MAt.blk ba (hr.below hx0))).mono ?_
    rintro e w1 ⟨rfl, hx⟩
    rw [hv]
    replace b0 := b0.ext hx
    replace hx0 := hx0.trans hx
    clear  hx
    have y0 : w1.cell? ⟨w.heap.size + 1, 0, none⟩ = some (.int .i64 0) := b0.cell 0 rfl
    have y1 : w1.cell? ⟨w.heap.size + 1, 1, none⟩ = some (.int .i64 0) := b0.cell 1 rfl
    have y2 : w1.cell? ⟨w.heap.size + 1, 2, none⟩ = some (.slice none 0 0) := b0.cell 2 rfl
    have q0 := b0.free 0
    have q1 := b0.free 1
    have q2 := b0.free 2
    have hq := b0.lt
    go_wp2_with fail
    obtain ⟨k1, k2, k3⟩ := Own.resM (w := w) (u := .int .i64 0) (v := .int .i64 0) (x := .slice none 0 0) b0 (own_nil _ w.heap.size _) hx0 (by omega)
    exact bodyPost_ret (resMB (x := .bool false) rfl rfl rfl k3) rfl (RetMD.bad hd k2)
  | true =>
    obtain ⟨s1, s2⟩ := mat_sides hv
    cases hp : inPart r c row col rs cs with
    | false =>
      have hd := pD_b (xs := xs) hp
      go_enter Try.func60, Try.ntmps60
      go_upto_region 1 with (fail)
      obtain ⟨w0, hw0⟩ : ∃ w0, w0 = ((w.alloc (.cells #[.int .i64 r, .int .i64 c, .slice A n cap] 35)).alloc (.cells #[.int .i64 0, .int .i64 0, .slice none 0 0] 35)) := ⟨_, rfl⟩
      have hx0 : Ext w w0 := by subst hw0; exact ((Ext.refl _).alloc _).alloc _
      have ba : Blk w0 (w.heap.size) #[.int .i64 r, .int .i64 c, .slice A n cap] 35 := by subst hw0; exact (Blk.new w _ _).ext ((Ext.refl _).alloc _)
      have b0 : Blk w0 (w.heap.size + 1) #[.int .i64 0, .int .i64 0, .slice none 0 0] 35 := by subst hw0; simpa using (Blk.new (w.alloc (.cells #[.int .i64 r, .int .i64 c, .slice A n cap] 35)) _ _)
      rw [← hw0]
      clear hw0
      go_wp2_with fail
      refine (l02Is_any _ r c A n cap xs _ (MAt.blk ba (hr.below hx0))).mono ?_
      rintro e w1 ⟨rfl, hx⟩
      rw [hv]
      replace b0 := b0.ext hx
      replace ba := ba.ext hx
      replace hx0 := hx0.trans hx
      clear  hx
      go_wp2_with fail
      refine (l02In_any _ r c row col rs cs _ (ba.cell 0 rfl) (ba.cell 1 rfl) s1 s2).mono ?_
      rintro e w2 ⟨rfl, hx⟩
      rw [hp]
      replace b0 := b0.ext hx
      replace hx0 := hx0.trans hx
      clear  hx
      have y0 : w2.cell? ⟨w.heap.size + 1, 0, none⟩ = some (.int .i64 0) := b0.cell 0 rfl
      have y1 : w2.cell? ⟨w.heap.size + 1, 1, none⟩ = some (.int .i64 0) := b0.cell 1 rfl
      have y2 : w2.cell? ⟨w.heap.size + 1, 2, none⟩ = some (.slice none 0 0) := b0.cell 2 rfl
      have q0 := b0.free 0
      have q1 := b0.free 1
      have q2 := b0.free 2
      have hq := b0.lt
      go_wp2_with fail
      obtain ⟨k1, k2, k3⟩ := Own.resM (w := w) (u := .int .i64 0) (v := .int .i64 0) (x := .slice none 0 0) b0 (own_nil _ w.heap.size _) hx0 (by omega)
      exact bodyPost_ret (resMB (x := .bool false) rfl rfl rfl k3) rfl (RetMD.bad hd k2)
    | true =>
      have hfin := mat_fin hv
      obtain ⟨R, C, rfl, rfl, u1, u2, u3, u4, u5⟩ := mat_nat hv
      obtain ⟨P, Q, S, T, rfl, rfl, rfl, rfl, v1, v2, v3, v4, v5, v6⟩ := part_nat hp
      have Hn : Hid (n = R * C) := by have := HL.out; show n = _; omega
      have hd : partD R C P Q S T xs = ⟨S, T, wordsL (tab T (partF xs C P Q) (S * T)), true⟩ := by simp [partD, hv, hp]
      have Hall : Hid ((tab T (partF xs C P Q) (S * T)).all finO = true) := tab_all (fun a b ha hb => finO_c32 (at_fin hfin rfl (by omega) (by omega) u2 u4 u5))
      have Hl : Hid ((wordsL (tab T (partF xs C P Q) (S * T))).length = S * T) := by show _ = _; unfold wordsL; rw [List.length_map, tab_length]
      have Hd := Lib.hid hd
      clear hd u5 hfin
      go_enter Try.func60, Try.ntmps60
      go_upto_region 1 with (fail)
      obtain ⟨w0, hw0⟩ : ∃ w0, w0 = ((w.alloc (.cells #[.int .i64 R, .int .i64 C, .slice A n cap] 35)).alloc (.cells #[.int .i64 0, .int .i64 0, .slice none 0 0] 35)) := ⟨_, rfl⟩
      have hx0 : Ext w w0 := by subst hw0; exact ((Ext.refl _).alloc _).alloc _
      have ba : Blk w0 (w.heap.size) #[.int .i64 R, .int .i64 C, .slice A n cap] 35 := by subst hw0; exact (Blk.new w _ _).ext ((Ext.refl _).alloc _)
      have b0 : Blk w0 (w.heap.size + 1) #[.int .i64 0, .int .i64 0, .slice none 0 0] 35 := by subst hw0; simpa using (Blk.new (w.alloc (.cells #[.int .i64 R, .int .i64 C, .slice A n cap] 35)) _ _)
      rw [← hw0]
      clear hw0
      go_wp2_with fail
      refine (l02Is_any _ _ _ A n cap xs _ (MAt.blk ba (hr.below hx0))).mono ?_
      rintro e w1 ⟨rfl, hx⟩
      rw [hv]
      replace b0 := b0.ext hx
      replace ba := ba.ext hx
      replace hx0 := hx0.trans hx
      clear  hx
      go_wp2_with fail
      refine (l02In_any _ R C P Q S T _ (ba.cell 0 rfl) (ba.cell 1 rfl) s1 s2).mono ?_
      rintro e w2 ⟨rfl, hx⟩
      rw [hp]
      replace b0 := b0.ext hx
      replace ba := ba.ext hx
      replace hx0 := hx0.trans hx
      clear  hx
      go_wp2_with fail
      refine (l02Part_any _ R C P Q S T n cap A xs _ u2 u4 v2 v4 v5 v6 Hn.out (MAt.blk ba (hr.below hx0))).mono ?_
      rintro e w3 ⟨A', c', ys, hy, rfl, ho, hx⟩
      obtain rfl := cfs_all hy Hall.out
      replace b0 := b0.ext hx
      have ho' := ho.base hx0.size
      replace hx0 := hx0.trans hx
      clear ho hx
      have y0 : w3.cell? ⟨w.heap.size + 1, 0, none⟩ = some (.int .i64 0) := b0.cell 0 rfl
      have y1 : w3.cell? ⟨w.heap.size + 1, 1, none⟩ = some (.int .i64 0) := b0.cell 1 rfl
      have y2 : w3.cell? ⟨w.heap.size + 1, 2, none⟩ = some (.slice none 0 0) := b0.cell 2 rfl
      have q0 := b0.free 0
      have q1 := b0.free 1
      have q2 := b0.free 2
      have hq := b0.lt
      go_wp2_with fail
      obtain ⟨k1, k2, k3⟩ := Own.resM (w := w) (u := .int .i64 S) (v := .int .i64 T) (x := .slice A' (S * T) c') b0 ho' hx0 (by omega)
      refine bodyPost_ret (resMB rfl rfl rfl k3) rfl ?_
      rw [Hd.out]
      exact ⟨A', c', by rw [Hl.out]; rfl, by rw [Hl.out]; exact k1, k2⟩

end Go.Proofs.Ytgjfdfmbknmpaaa
