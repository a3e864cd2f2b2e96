import Derived.Test.YtgjfdfmbknmpaaaM16
import Derived.Test.YtgjfdfmbknmpaaaM47
set_option linter.unusedVariables false
set_option linter.unusedSimpArgs false
namespace Go.Proofs.Ytgjfdfmbknmpaaa
open Go.RowKit

/-- The numbers in the middle. -/
def midL (xs : List Nat) (n m : Nat) : List Nat := (List.range m).map fun i => at_ xs n i i
theorem midL_succ (xs : List Nat) (n m : Nat) : midL xs n (m + 1) = midL xs n m ++ [at_ xs n m m] := by
  unfold midL
  rw [List.range_succ, List.map_append]
  rfl
theorem midL_any {xs : List Nat} {n m : Nat} {p : Nat → Bool} : (midL xs n m).any p = false ↔ ∀ i, i < m → p (at_ xs n i i) = false := by
  unfold midL
  rw [List.any_map, List.any_eq_false]
  constructor
  · intro h i hi
    have := h i (by simpa using hi)
    simpa using this
  · intro h i hi
    have := h i (by simpa using hi)
    simp [this]
/-- A list that grows, of words. -/
def LW (w : World) (L : Nat → List Nat) (j : Nat) (u : Value) (wr : World) : Prop := ∃ A c zs, u = .slice A j c ∧ Own wr w.heap.size 39 (.slice A j c) (flts zs) ∧ Hid (zs = L j) ∧ Ext w wr
theorem LW.start (w : World) (L : Nat → List Nat) (h : L 0 = []) : LW w L 0 (.slice (some ⟨w.heap.size, 0, none⟩) 0 0) (w.alloc (.cells #[] 39)) := ⟨_, _, [], rfl, Own.empty _ _, h.symm, (Ext.refl _).alloc _⟩

set_option maxRecDepth 20000 in
set_option maxHeartbeats 4000000 in
theorem middle_any (n N cap : Nat) (A : Option Addr) (xs : List Nat) (w : World) (hn12 : n ≤ 12) (hN : N = n * n) (hr : Rds w A N (flts xs)) :
    Calls Try.prog 158 #[.agg #[.int .i64 n, .int .i64 n, .slice A N cap]] w fun e w' => ∃ A' k, e = .returned (.slice A' n k) ∧ Own w' w.heap.size 39 (.slice A' n k) (flts (midL xs n n)) ∧ Ext w w' := by
  have Hn := Lib.hid hN
  clear hN
  go_enter Try.func158, Try.ntmps158
  go_upto_region 1 with (fail)
  obtain ⟨w0, hw0⟩ : ∃ w0, w0 = (w.alloc (.cells #[.int .i64 n, .int .i64 n, .slice A N cap] 35)) := ⟨_, rfl⟩
  have hx0 : Ext w w0 := by subst hw0; exact (Ext.refl _).alloc _
  have ba : Blk w0 (w.heap.size) #[.int .i64 n, .int .i64 n, .slice A N cap] 35 := by subst hw0; exact (Blk.new w _ _)
  rw [← hw0]
  clear hw0
  have b1 := ba.ext ((Ext.refl w0).alloc (.cells #[] 39))
  have a0 := b1.cell 0 rfl
  have a1 := b1.cell 1 rfl
  have hnn : ¬ (n : Int) < n := by omega
  go_wp2_with fail
  go_loopw [3, 11] (fun u v wr => ∃ j : Nat, j ≤ n ∧ v = .int .i64 j ∧ LW w0 (midL xs n) j u wr) (fun _ v _ => n - (intOf v).toNat)
  case atStart => exact ⟨0, Nat.zero_le _, rfl, LW.start w0 _ rfl⟩
  case round =>
    clear a0 a1 b1
    obtain ⟨j, hj, rfl, A', c, zs, rfl, ho, HZ, hx⟩ := hrel
    obtain ⟨c0, c1, c2, hr1⟩ := (MAt.blk ba (hr.below hx0)).ext hx
    by_cases hlt : j < n
    · go_wp2_with fail
      refine (at_any n n j j N cap A xs _ hlt hlt hn12 hn12 Hn.out hr1).mono ?_
      obtain ⟨v, hv⟩ : ∃ v, v = at_ xs n j j := ⟨_, rfl⟩
      rw [← hv]
      have HV := Lib.hid hv
      rintro e w2 ⟨rfl, hx2⟩
      replace ho := ho.ext hx2
      replace hx := hx.trans hx2
      clear hx2 c0 c1 c2 hr1 hv
      have ho' := ho.ext ((Ext.refl w2).alloc (.cells #[.float .f32 (v)] 39))
      have hsz := hx.size
      have hl := ho.len
      go_wp2_with (first | fail | (at_builtin; go_loud (refine wpList_app1 rfl _ _ _ rfl (w2.alloc (.cells #[.float .f32 (v)] 39)) w0.heap.size 39 (.float .f32 0) 4 Try.underlying22 info_f32 rfl (by decide) (.slice A' j c) (flts zs) rfl w2.heap.size (.float .f32 (v)) rfl (One.new _ _ _) ho' rfl (by omega) (by simp; omega) ?_); rw [hl]; intro A' c' w4 h5 h6 h7))
      go_roundw
      case rel => exact ⟨j + 1, by omega, by go_num, _, _, zs ++ [v], rfl, by rw [flts_append]; exact h5, by show _ = _; rw [midL_succ, HZ.out, HV.out], h6.ext (hx.alloc _) ho'⟩
      case measure => simp [intOf]; omega
    · obtain rfl : j = n := by omega
      clear c0 c1 c2
      go_wp2_with fail
      go_ret
      exact ⟨A', c, rfl, by rw [← HZ.out]; exact ho.base hx0.size, hx0.trans hx⟩

/-- Whether a number is zero, asked from the other side. -/
def is0 (x : Nat) : Bool := FloatKind.f32.format.order 0 x == some .eq
theorem datum_swap (a b : Ieee.Datum) : a.order b = (b.order a).map Ordering.swap := by
  cases a with
  | number s m e =>
    cases b with
    | number s' m' e' =>
      simp only [Ieee.Datum.order, Option.map_some]
      rw [Int.min_comm, Int.compare_swap]
    | infinity s' => cases s' <;> rfl
    | nan s' t' => rfl
  | infinity s =>
    cases b with
    | number s' m' e' => cases s <;> rfl
    | infinity s' => cases s <;> cases s' <;> rfl
    | nan s' t' => rfl
  | nan s t => cases b <;> rfl
theorem is0_eq (x : Nat) : is0 x = (FloatKind.f32.format.order x 0 == some .eq) := by
  unfold is0 Ieee.Format.order
  rw [datum_swap]
  cases (FloatKind.f32.format.read x).order (FloatKind.f32.format.read 0) with
  | none => rfl
  | some o => cases o <;> rfl

set_option maxRecDepth 20000 in
set_option maxHeartbeats 1000000 in
theorem index0_any (A : Option Addr) (n cap : Nat) (xs : List Nat) (w : World) (hr : Rds w A n (flts xs)) :
    Calls Try.prog 185 #[.slice A n cap, .float .f32 0] w fun e w' => e = .returned (.int .i64 (idxF is0 xs)) ∧ Ext w w' := by
  have hs := hr.small
  go_enter Try.func185, Try.ntmps185
  go_upto_region 1 with (fail)
  go_wp2_with fail
  go_loopw [8] (fun i wr => ∃ k : Nat, k ≤ n ∧ i = .int .i64 k ∧ Hid (∀ j, j < k → is0 (rdf xs j) = false) ∧ Ext w wr) (fun i _ => n - (intOf i).toNat)
  case atStart => exact ⟨0, Nat.zero_le _, rfl, fun j hj => by omega, Ext.refl _⟩
  case round =>
    obtain ⟨k, hk, rfl, hno, hb⟩ := hrel
    by_cases hlt : k < n
    · obtain ⟨ad, rfl, hc⟩ := (hr.below hb).fltN k hlt
      cases hpk : is0 (rdf xs k) with
      | true =>
        have hpk' : (FloatKind.f32.format.order 0 (rdf xs k) == some .eq) = true := hpk
        go_wp2_with fail
        go_ret
        exact ⟨ret_int (idxF_hit (by rw [hr.flen]; exact hlt) hno.out hpk).symm, hb⟩
      | false =>
        have hpk' : (FloatKind.f32.format.order 0 (rdf xs k) == some .eq) = false := hpk
        go_wp2_with fail
        go_roundw
        case rel => exact ⟨k + 1, by omega, by go_num, fun j hj => if e : j = k then by subst e; exact hpk else hno.out j (by omega), hb⟩
        case measure => simp [intOf]; omega
    · go_wp2_with fail
      go_ret
      exact ⟨ret_int (idxF_none fun j hj => hno.out j (by rw [hr.flen] at hj; omega)).symm, hb⟩
set_option maxRecDepth 20000 in
set_option maxHeartbeats 1000000 in
theorem contains0_any (A : Option Addr) (n cap : Nat) (xs : List Nat) (w : World) (hr : Rds w A n (flts xs)) :
    Calls Try.prog 157 #[.slice A n cap, .float .f32 0] w fun e w' => e = .returned (.bool (xs.any is0)) ∧ Ext w w' := by
  go_enter Try.func157, Try.ntmps157
  go_upto_region 1 with (fail)
  go_wp2_with fail
  refine (index0_any A n cap xs w hr).mono ?_
  rintro e w1 ⟨rfl, hb1⟩
  go_wp2_with fail
  go_ret
  exact ⟨ret_bool (idxF_any is0 xs), hb1⟩

/-! ### From the last row up -/
def UX (a : Nat → Nat → Option Nat) (b : Nat → Option Nat) (n : Nat) : Nat → Nat → Option Nat
  | 0 => b
  | t + 1 => upd1 (UX a b n t) (n - 1 - t) (fdiv (lessF (a (n - 1 - t)) (UX a b n t) (UX a b n t (n - 1 - t)) (n - t) t) (a (n - 1 - t) (n - 1 - t)))
theorem UX_step (a : Nat → Nat → Option Nat) (b : Nat → Option Nat) {n i : Nat} (h : i < n) : UX a b n (n - i) = upd1 (UX a b n (n - (i + 1))) i (fdiv (lessF (a i) (UX a b n (n - (i + 1))) (UX a b n (n - (i + 1)) i) (i + 1) (n - (i + 1))) (a i i)) := by
  have e : n - i = (n - (i + 1)) + 1 := by omega
  have e1 : n - 1 - (n - (i + 1)) = i := by omega
  have e2 : n - (n - (i + 1)) = i + 1 := by omega
  rw [e, UX, e1, e2]
theorem UX_undone (a : Nat → Nat → Option Nat) (b : Nat → Option Nat) {n : Nat} : ∀ {t i : Nat}, i + t < n → UX a b n t i = b i
  | 0, _, _ => rfl
  | t + 1, i, h => by
    have hne : i ≠ n - 1 - t := by omega
    show upd1 _ _ _ i = _
    unfold upd1
    rw [if_neg hne]
    exact UX_undone a b (by omega)
theorem upd1_same (F : Nat → Option Nat) (i : Nat) (v : Option Nat) : upd1 F i v i = v := by unfold upd1; rw [if_pos rfl]
theorem upd1_other {F : Nat → Option Nat} {i j : Nat} (v : Option Nat) (h : j ≠ i) : upd1 F i v j = F j := by unfold upd1; rw [if_neg h]
abbrev coef (xs : List Nat) (n : Nat) : Nat → Nat → Option Nat := fun i k => c32 (at_ xs n i k)
abbrev entry (vs : List Nat) : Nat → Option Nat := fun i => c32 (rdf vs i)

set_option maxRecDepth 20000 in
set_option maxHeartbeats 4000000 in
theorem upperSolve_any (n N cap cap' : Nat) (A B : Option Addr) (xs vs : List Nat) (w : World) (hn1 : 1 ≤ n) (hn12 : n ≤ 12) (hN : N = n * n) (hr : Rds w A N (flts xs)) (hq : Rds w B n (flts vs)) :
    Calls Try.prog 159 #[.agg #[.int .i64 n, .int .i64 n, .slice A N cap], .slice B n cap'] w (RetFs w n (lst n (UX (coef xs n) (entry vs) n n))) := by
  have Hn := Lib.hid hN
  clear hN
  obtain ⟨U, hU⟩ : ∃ U, U = UX (coef xs n) (entry vs) n := ⟨_, rfl⟩
  rw [← hU]
  have HU := Lib.hid hU
  have HL := Lib.hid hq.flen
  obtain ⟨ad, rfl, _⟩ := hq.fltN 0 (by omega)
  clear hU
  go_enter Try.func159, Try.ntmps159
  go_upto_region 1 with (fail)
  obtain ⟨w0, hw0⟩ : ∃ w0, w0 = (w.alloc (.cells #[.int .i64 n, .int .i64 n, .slice A N cap] 35)) := ⟨_, rfl⟩
  have hx0 : Ext w w0 := by subst hw0; exact (Ext.refl _).alloc _
  have ba : Blk w0 (w.heap.size) #[.int .i64 n, .int .i64 n, .slice A N cap] 35 := by subst hw0; exact (Blk.new w _ _)
  rw [← hw0]
  clear hw0
  go_wp2_with fail
  refine (clone_any ad n cap' vs _ (hq.below hx0) (by omega)).mono ?_
  rintro e w2 ⟨A1, k1, rfl, ho, hx⟩
  have ho1 := ho.base hx0.size
  replace ba := ba.ext hx
  replace hx0 := hx0.trans hx
  obtain ⟨g, rfl, _⟩ := ho1.head (by omega)
  have a0 := ba.cell 0 rfl
  have h00 : cfs vs = lst n (U 0) := by rw [HU.out, cfs_lst, HL.out]; rfl
  have g0 : IntKind.i64.wrap ((n : Int) - 1) = (n : Int) - 1 := IntWalk.i64_in _ (by omega)
  clear ho hx
  go_wp2_with fail
  go_loopw [6] (fun v wr => ∃ c : Nat, c ≤ n ∧ v = .int .i64 ((c : Int) - 1) ∧ ∃ ys, cfs ys = lst n (U (n - c)) ∧ Own wr w.heap.size 39 (.slice (some ⟨g, 0, none⟩) n k1) (flts ys) ∧ Ext w wr ∧ Blk wr w.heap.size #[.int .i64 n, .int .i64 n, .slice A N cap] 35) (fun v _ => (intOf v + 1).toNat)
  case atStart => exact ⟨n, Nat.le_refl _, rfl, vs, by rw [Nat.sub_self]; exact h00, ho1, hx0, ba⟩
  case round =>
    clear a0 ho1 h00 hx0 ba g0
    obtain ⟨c, hc, rfl, ys, hy, ho, hx0, ba⟩ := hrel
    obtain ⟨c0, c1, c2, hr1⟩ := MAt.blk ba (hr.below hx0)
    cases c with
    | zero =>
      have hneg : ¬ ((0 : Nat) : Int) - 1 ≥ 0 := by omega
      clear c0 c1 c2
      go_wp2_with fail
      go_ret
      exact ⟨_, _, ys, hy, rfl, ho, hx0⟩
    | succ i =>
      have ei : ((i + 1 : Nat) : Int) - 1 = (i : Int) := by omega
      rw [ei]
      clear ei
      have hi : i < n := by omega
      have hge : (i : Int) ≥ 0 := by omega
      have g1 : IntKind.i64.wrap ((i : Int) + 1) = (i : Int) + 1 := IntWalk.i64_in _ (by omega)
      have g2 : IntKind.i64.wrap ((i : Int) - 1) = (i : Int) - 1 := IntWalk.i64_in _ (by omega)
      have hyi : c32 (rdf ys i) = U (n - (i + 1)) i := lst_at hy hi
      have hless : Hid (lessF (fun k => c32 (at_ xs n i k)) (fun k => c32 (rdf ys k)) (c32 (rdf ys i)) (i + 1) (n - (i + 1)) = lessF (coef xs n i) (U (n - (i + 1))) (U (n - (i + 1)) i) (i + 1) (n - (i + 1))) := by
        show _ = _
        rw [hyi]
        exact lessF_congr (fun k h1 h2 => ⟨rfl, lst_at hy (by omega)⟩)
      obtain ⟨hcell, hfree⟩ := ho.at_ i hi
      have hyl : ys.length = n := ho.reads.flen
      rw [flts_get (by omega)] at hcell
      clear hyi
      go_wp2_with fail
      refine wp_region_T (cs := []) [0, 1, 2, 3, 4, 5, 6, 7, 8, 9, 10, 11, 12, 13, 14, 15, 16, 17, 18] [19, 20] [13, 17, 18] [] (fun i__ v => match i__ with | 13 => ∃ r, v = .float .f32 r ∧ c32 r = (lessF (fun k => c32 (at_ xs n i k)) (fun k => c32 (rdf ys k)) (c32 (rdf ys i)) (i + 1) (n - (i + 1))) | 17 => v = (.float .f32 (at_ xs n i i)) | 18 => ∃ r, v = .float .f32 r ∧ c32 r = (fdiv (lessF (fun k => c32 (at_ xs n i k)) (fun k => c32 (rdf ys k)) (c32 (rdf ys i)) (i + 1) (n - (i + 1))) (c32 (at_ xs n i i))) | _ => False) (fun _ _ _ => True) (by kernel_rfl) (by kernel_rfl) (fun _ _ _ _ _ _ => trivial) ?_
      refine' wpT_det (o := ⟨some 16, Op.move (Operand.tmp 5), 22, "l03_factors.go:158", #[], none⟩) rfl (by rfl) (by rfl) (fun w' hw' => ?_) ?_; rotate_left
      · go_simp <;> first | rfl | exact ⟨rfl, rfl⟩
      simp only [Act.put, List.setIfInBounds_toArray, List.set_cons_zero, List.set_cons_succ]
      refine' wpT_det (o := ⟨some 17, Op.move (Operand.tmp 6), 2, "l03_factors.go:158", #[], none⟩) rfl (by rfl) (by rfl) (fun w' hw' => ?_) ?_; rotate_left
      · go_simp <;> first | rfl | exact ⟨rfl, rfl⟩
      simp only [Act.put, List.setIfInBounds_toArray, List.set_cons_zero, List.set_cons_succ]
      refine' wpT_det (o := ⟨some 18, Op.load 35 (Operand.tmp 2), 35, "l03_factors.go:158", #[], none⟩) rfl (by rfl) (by rfl) (fun w' hw' => ?_) ?_; rotate_left
      · have c0_ := Ext.cell hw' c0; have c1_ := Ext.cell hw' c1; have c2_ := Ext.cell hw' c2; have hcell_ := Ext.cell hw' hcell; go_simp <;> first | rfl | exact ⟨rfl, rfl⟩
      simp only [Act.put, List.setIfInBounds_toArray, List.set_cons_zero, List.set_cons_succ]
      refine' wpT_det (o := ⟨some 19, Op.move (Operand.tmp 5), 22, "l03_factors.go:158", #[], none⟩) rfl (by rfl) (by rfl) (fun w' hw' => ?_) ?_; rotate_left
      · go_simp <;> first | rfl | exact ⟨rfl, rfl⟩
      simp only [Act.put, List.setIfInBounds_toArray, List.set_cons_zero, List.set_cons_succ]
      refine' wpT_det (o := ⟨some 20, Op.move (Operand.tmp 6), 2, "l03_factors.go:158", #[], none⟩) rfl (by rfl) (by rfl) (fun w' hw' => ?_) ?_; rotate_left
      · go_simp <;> first | rfl | exact ⟨rfl, rfl⟩
      simp only [Act.put, List.setIfInBounds_toArray, List.set_cons_zero, List.set_cons_succ]
      refine' wpT_det (o := ⟨some 21, Op.indexAddr 22 (Operand.tmp 19) (Operand.tmp 20), 0, "l03_factors.go:158", #[{ on := 3, ground := Ground.data }, { on := 4, ground := Ground.data }], none⟩) rfl (by rfl) (by rfl) (fun w' hw' => ?_) ?_; rotate_left
      · go_simp <;> first | rfl | exact ⟨rfl, rfl⟩
      simp only [Act.put, List.setIfInBounds_toArray, List.set_cons_zero, List.set_cons_succ]
      refine' wpT_det (o := ⟨some 22, Op.load 39 (Operand.tmp 21), 39, "l03_factors.go:158", #[{ on := 5, ground := Ground.data }], none⟩) rfl (by rfl) (by rfl) (fun w' hw' => ?_) ?_; rotate_left
      · have c0_ := Ext.cell hw' c0; have c1_ := Ext.cell hw' c1; have c2_ := Ext.cell hw' c2; have hcell_ := Ext.cell hw' hcell; go_simp <;> first | rfl | exact ⟨rfl, rfl⟩
      simp only [Act.put, List.setIfInBounds_toArray, List.set_cons_zero, List.set_cons_succ]
      refine' wpT_det (o := ⟨some 23, Op.move (Operand.tmp 6), 2, "l03_factors.go:158", #[], none⟩) rfl (by rfl) (by rfl) (fun w' hw' => ?_) ?_; rotate_left
      · go_simp <;> first | rfl | exact ⟨rfl, rfl⟩
      simp only [Act.put, List.setIfInBounds_toArray, List.set_cons_zero, List.set_cons_succ]
      refine' wpT_det (o := ⟨some 24, Op.move (Operand.tmp 6), 2, "l03_factors.go:158", #[], none⟩) rfl (by rfl) (by rfl) (fun w' hw' => ?_) ?_; rotate_left
      · go_simp <;> first | rfl | exact ⟨rfl, rfl⟩
      simp only [Act.put, List.setIfInBounds_toArray, List.set_cons_zero, List.set_cons_succ]
      refine' wpT_det (o := ⟨some 25, Op.binOp BinOp.add 2 (Operand.tmp 24) (Operand.const (Value.int IntKind.i64 1)) 2, 2, "l03_factors.go:158", #[{ on := 8, ground := Ground.data }], none⟩) rfl (by rfl) (by rfl) (fun w' hw' => ?_) ?_; rotate_left
      · go_simp <;> first | rfl | exact ⟨rfl, rfl⟩
      simp only [Act.put, List.setIfInBounds_toArray, List.set_cons_zero, List.set_cons_succ]
      refine' wpT_det (o := ⟨some 26, Op.fieldAddr 35 (Operand.tmp 2) 1, 0, "l03_factors.go:158", #[], none⟩) rfl (by rfl) (by rfl) (fun w' hw' => ?_) ?_; rotate_left
      · go_simp <;> first | rfl | exact ⟨rfl, rfl⟩
      simp only [Act.put, List.setIfInBounds_toArray, List.set_cons_zero, List.set_cons_succ]
      refine' wpT_det (o := ⟨some 27, Op.load 2 (Operand.tmp 26), 2, "l03_factors.go:158", #[{ on := 10, ground := Ground.data }], none⟩) rfl (by rfl) (by rfl) (fun w' hw' => ?_) ?_; rotate_left
      · have c0_ := Ext.cell hw' c0; have c1_ := Ext.cell hw' c1; have c2_ := Ext.cell hw' c2; have hcell_ := Ext.cell hw' hcell; go_simp <;> first | rfl | exact ⟨rfl, rfl⟩
      simp only [Act.put, List.setIfInBounds_toArray, List.set_cons_zero, List.set_cons_succ]
      refine' wpT_det (o := ⟨some 28, Op.move (Operand.tmp 5), 22, "l03_factors.go:158", #[], none⟩) rfl (by rfl) (by rfl) (fun w' hw' => ?_) ?_; rotate_left
      · go_simp <;> first | rfl | exact ⟨rfl, rfl⟩
      simp only [Act.put, List.setIfInBounds_toArray, List.set_cons_zero, List.set_cons_succ]
      refine wpT_nd (o := ⟨some 29, Op.call { callee := Callee.value (Operand.func 162), args := #[Operand.tmp 18, Operand.tmp 22, Operand.tmp 23, Operand.tmp 25, Operand.tmp 27, Operand.tmp 28], argTypes := #[35, 39, 2, 2, 2, 22] }, 39, "l03_factors.go:158", #[{ on := 2, ground := Ground.data }, { on := 6, ground := Ground.data }, { on := 7, ground := Ground.data }, { on := 9, ground := Ground.data }, { on := 11, ground := Ground.data }, { on := 12, ground := Ground.data }], none⟩) rfl (by rfl) (by rfl) (fun w' hw' hF R__ hGo => ?_) (by obtain ⟨r, hr⟩ : ∃ r, c32 r = (lessF (fun k => c32 (at_ xs n i k)) (fun k => c32 (rdf ys k)) (c32 (rdf ys i)) (i + 1) (n - (i + 1))) := ex_less _ _ _ _ _; exact ⟨_, r, rfl, hr⟩) ?_
      · go_simp
        refine gives_enter rfl ?_
        refine (lessRow_any n n N cap n k1 (i + 1) n i (rdf ys i) A (some ⟨g, 0, none⟩) xs ys _ hn12 hn12 rfl Hn.out hi (by omega) (Nat.le_refl _) (Nat.le_refl _) (hr1.below hw'.undrew) (ho.ext hw'.undrew).reads).mono ?_
        rintro e w2 ⟨r, rfl, hr, hx⟩
        exact ⟨_, rfl, hGo _ _ hx ⟨r, rfl, hr⟩ trivial⟩
      rintro _ ⟨f13, rfl, hf13⟩
      simp only [Act.put, List.setIfInBounds_toArray, List.set_cons_zero, List.set_cons_succ]
      refine' wpT_det (o := ⟨some 30, Op.load 35 (Operand.tmp 2), 35, "l03_factors.go:158", #[], none⟩) rfl (by rfl) (by rfl) (fun w' hw' => ?_) ?_; rotate_left
      · have c0_ := Ext.cell hw' c0; have c1_ := Ext.cell hw' c1; have c2_ := Ext.cell hw' c2; have hcell_ := Ext.cell hw' hcell; go_simp <;> first | rfl | exact ⟨rfl, rfl⟩
      simp only [Act.put, List.setIfInBounds_toArray, List.set_cons_zero, List.set_cons_succ]
      refine' wpT_det (o := ⟨some 31, Op.move (Operand.tmp 6), 2, "l03_factors.go:158", #[], none⟩) rfl (by rfl) (by rfl) (fun w' hw' => ?_) ?_; rotate_left
      · go_simp <;> first | rfl | exact ⟨rfl, rfl⟩
      simp only [Act.put, List.setIfInBounds_toArray, List.set_cons_zero, List.set_cons_succ]
      refine' wpT_det (o := ⟨some 32, Op.move (Operand.tmp 6), 2, "l03_factors.go:158", #[], none⟩) rfl (by rfl) (by rfl) (fun w' hw' => ?_) ?_; rotate_left
      · go_simp <;> first | rfl | exact ⟨rfl, rfl⟩
      simp only [Act.put, List.setIfInBounds_toArray, List.set_cons_zero, List.set_cons_succ]
      refine wpT_nd (o := ⟨some 33, Op.call { callee := Callee.value (Operand.func 105), args := #[Operand.tmp 30, Operand.tmp 31, Operand.tmp 32], argTypes := #[35, 2, 2] }, 39, "l03_factors.go:158", #[{ on := 14, ground := Ground.data }, { on := 15, ground := Ground.data }, { on := 16, ground := Ground.data }, { on := 13, ground := Ground.chain }], none⟩) rfl (by rfl) (by rfl) (fun w' hw' hF R__ hGo => ?_) ⟨_, rfl⟩ ?_
      · go_simp
        refine gives_enter rfl ?_
        refine (at_any n n i i N cap A xs _ hi hi hn12 hn12 Hn.out (hr1.below hw'.undrew)).mono ?_
        rintro e w2 ⟨rfl, hx⟩
        exact ⟨_, rfl, hGo _ _ hx rfl trivial⟩
      intro v hv
      obtain rfl : v = (.float .f32 (at_ xs n i i)) := hv
      simp only [Act.put, List.setIfInBounds_toArray, List.set_cons_zero, List.set_cons_succ]
      refine wpT_nd (o := ⟨some 34, Op.binOp BinOp.quo 39 (Operand.tmp 29) (Operand.tmp 33) 39, 39, "l03_factors.go:158", #[{ on := 13, ground := Ground.data }, { on := 17, ground := Ground.data }], none⟩) rfl (by rfl) (by rfl) (fun w' hw' hF R__ hGo => ?_) (by obtain ⟨r, hr⟩ := ex_d .quo ((by rw [hf13]) : fop .quo .f32 (c32 (f13)) (c32 (at_ xs n i i)) = (fdiv (lessF (fun k => c32 (at_ xs n i k)) (fun k => c32 (rdf ys k)) (c32 (rdf ys i)) (i + 1) (n - (i + 1))) (c32 (at_ xs n i i)))); exact ⟨_, r, rfl, hr⟩) ?_
      · exact gives_f .quo (.inr (.inr (.inr rfl))) _ _ _ _ rfl (f13) (at_ xs n i i) rfl rfl (fdiv (lessF (fun k => c32 (at_ xs n i k)) (fun k => c32 (rdf ys k)) (c32 (rdf ys i)) (i + 1) (n - (i + 1))) (c32 (at_ xs n i i))) (by rw [hf13]) (fun r w2 hx hc => hGo _ _ hx ⟨r, rfl, hc⟩ trivial)
      rintro _ ⟨f18, rfl, hf18⟩
      simp only [Act.put, List.setIfInBounds_toArray, List.set_cons_zero, List.set_cons_succ]
      refine wpT_nil (fun w5 hw' hF => ?_)
      show wpList _ _ _ [(⟨some 35, Op.indexAddr 22 (Operand.tmp 16) (Operand.tmp 17), 0, "l03_factors.go:158", #[{ on := 0, ground := Ground.data }, { on := 1, ground := Ground.data }, { on := 0, ground := Ground.phase }, { on := 1, ground := Ground.phase }, { on := 2, ground := Ground.phase }, { on := 3, ground := Ground.phase }, { on := 4, ground := Ground.phase }, { on := 5, ground := Ground.phase }, { on := 6, ground := Ground.phase }, { on := 7, ground := Ground.phase }, { on := 8, ground := Ground.phase }, { on := 9, ground := Ground.phase }, { on := 10, ground := Ground.phase }, { on := 11, ground := Ground.phase }, { on := 12, ground := Ground.phase }, { on := 13, ground := Ground.phase }, { on := 14, ground := Ground.phase }, { on := 15, ground := Ground.phase }, { on := 16, ground := Ground.phase }, { on := 17, ground := Ground.phase }, { on := 18, ground := Ground.phase }], none⟩ : Oper), (⟨none, Op.store 39 (Operand.tmp 35) (Operand.tmp 34), 0, "l03_factors.go:158", #[{ on := 19, ground := Ground.data }, { on := 18, ground := Ground.data }, { on := 17, ground := Ground.chain }, { on := 0, ground := Ground.phase }, { on := 1, ground := Ground.phase }, { on := 2, ground := Ground.phase }, { on := 3, ground := Ground.phase }, { on := 4, ground := Ground.phase }, { on := 5, ground := Ground.phase }, { on := 6, ground := Ground.phase }, { on := 7, ground := Ground.phase }, { on := 8, ground := Ground.phase }, { on := 9, ground := Ground.phase }, { on := 10, ground := Ground.phase }, { on := 11, ground := Ground.phase }, { on := 12, ground := Ground.phase }, { on := 13, ground := Ground.phase }, { on := 14, ground := Ground.phase }, { on := 15, ground := Ground.phase }, { on := 16, ground := Ground.phase }, { on := 17, ground := Ground.phase }, { on := 18, ground := Ground.phase }], none⟩ : Oper)] _ _
      have hx2 := hw'.undrew
      replace ho := ho.ext hx2
      replace ba := ba.ext hx2
      replace hx0 := hx0.trans hx2
      clear c0 c1 c2 hr1 hcell hfree hF hw' hx2
      obtain ⟨hcell, hfree⟩ := ho.at_ i hi
      rw [flts_get (by omega)] at hcell
      have hst := store_f32 Try.prog f18 hcell hfree
      have hcf : Hid (c32 f18 = fdiv (lessF (coef xs n i) (U (n - (i + 1))) (U (n - (i + 1)) i) (i + 1) (n - (i + 1))) (coef xs n i i)) := by show _ = _; rw [hf18, hless.out]
      clear hf18 hf13
      go_wp2_with fail
      go_roundw
      case rel =>
        have hstep : U (n - i) = upd1 (U (n - (i + 1))) i (c32 f18) := by rw [hcf.out, HU.out]; exact UX_step _ _ hi
        obtain ⟨p1, p2, p3⟩ := Own.putF (F' := U (n - i)) hy ho i f18 (by rw [hstep, upd1_same]) (fun j _ hj => by rw [hstep, upd1_other _ hj])
        exact ⟨i, by omega, by go_num, ys.set i f18, p1, p2, p3.ext hx0 ho, ba.wr p3 ho (by decide)⟩
      case measure => simp [intOf]

end Go.Proofs.Ytgjfdfmbknmpaaa
