import Derived.Test.YtcfimkjkolgboaaE14
set_option linter.unusedVariables false
set_option linter.unusedSimpArgs false
namespace Go.Proofs.Ytcfimkjkolgboaa
open Go.RowKit

set_option maxHeartbeats 1000000 in
theorem l06Low_any (b : Nat) (r c : Int) (A : Option Addr) (n cap : Nat) (xs : List Int) (w : World) (ha : WAt w b r c A n cap xs) :
    Calls Try.prog 79 #[.pointer (some ⟨b, 0, none⟩)] w fun e w' => e = .returned (.bool (isWholeB r c xs 100)) ∧ Ext w w' := by
  go_enter Try.func79, Try.ntmps79
  go_wp2_with fail
  refine (l06Is_any b r c _ A n cap xs _ ha.c0 ha.c1 ha.c2 ha.rds (by omega)).mono ?_
  rintro e w1 ⟨rfl, hx⟩
  go_wp2_with fail
  go_ret
  exact ⟨rfl, hx⟩

set_option maxHeartbeats 1000000 in
theorem isLow_any (r c : Int) (A : Option Addr) (n cap : Nat) (xs : List Int) (w : World) (hr : Rds w A n (ints xs)) :
    Calls Try.prog 82 #[.agg #[.int .i64 r, .int .i64 c, .slice A n cap]] w fun e w' => e = .returned (.bool (isWholeB r c xs 100)) ∧ Ext w w' := by
  go_enter Try.func82, Try.ntmps82
  go_wp2_with fail
  refine (isWhole_any r c _ A n cap xs _ (hr.below ((Ext.refl _).alloc _)) (by omega)).mono ?_
  rintro e w1 ⟨rfl, hx⟩
  go_wp2_with fail
  go_ret
  exact ⟨rfl, ((Ext.refl _).alloc _).trans hx⟩

/-- What DetOfWhole answers. -/
def detD (r c : Int) (xs : List Int) : Int × Bool := if isWholeB r c xs 100 && decide (r = c) then (minorL xs c.toNat (asc r.toNat) (asc r.toNat), true) else (0, false)

set_option maxHeartbeats 2000000 in
theorem implDetOfWhole_any (r c : Int) (A : Option Addr) (n cap : Nat) (xs : List Int) (w : World) (hr : Rds w A n (ints xs)) :
    Calls Try.prog 40 #[.agg #[.int .i64 r, .int .i64 c, .slice A n cap]] w fun e w' => e = .returned (.tuple #[.int .i64 (detD r c xs).1, .bool (detD r c xs).2]) ∧ Ext w w' := by
  have hl := hr.ilen
  have hx0 : Ext w (w.alloc (.cells #[.int .i64 r, .int .i64 c, .slice A n cap] 31)) := (Ext.refl _).alloc _
  have ha0 := WAt.new (r := r) (c := c) (cap := cap) hr 31
  obtain ⟨d, hd⟩ : ∃ d, d = detD r c xs := ⟨_, rfl⟩
  rw [← hd]
  unfold detD at hd
  cases hv : isWholeB r c xs 100 with
  | false =>
    replace hd : d = (0, false) := by rw [hd, hv]; rfl
    have HD := Lib.hid hd
    clear hd
    go_enter Try.func40, Try.ntmps40
    go_wp2_with fail
    refine (isLow_any r c A n cap xs _ ha0.rds).mono ?_
    rintro e w1 ⟨rfl, hx⟩
    rw [hv]
    go_wp2_with fail
    go_ret2
    exact ⟨by rw [HD.out]; rfl, hx0.trans hx⟩
  | true =>
    by_cases hrc : r = c
    · subst hrc
      obtain ⟨R, C, e1, e2, u1, u2, u3, u4, u5⟩ := whole_nat hv
      obtain rfl : R = C := by omega
      subst e1
      have hn : n = R * R := by omega
      replace hd : d = (minorL xs R (asc R) (asc R), true) := by rw [hd, hv]; simp
      have HD := Lib.hid hd
      have Hn := Lib.hid hn
      have hb : Hid (∀ x ∈ asc R, 0 ≤ x ∧ x < (R : Int)) := fun x hx => asc_mem hx
      have hne : ((R : Int) != (R : Int)) = false := by simp
      clear hd hn u5 hl
      go_enter Try.func40, Try.ntmps40
      go_wp2_with fail
      refine (isLow_any R R A n cap xs _ ha0.rds).mono ?_
      rintro e w1 ⟨rfl, hx⟩
      rw [hv]
      have ha := ha0.ext hx
      have hx1 := hx0.trans hx
      clear ha0 hx0 hx
      obtain ⟨c0, c1, c2, hr1⟩ := ha
      go_wp2_with fail
      refine wp_region_T (cs := []) [0, 1, 2, 3, 4, 5, 6, 7, 8, 9] [] [3, 6, 7] [(7, [3, 6])] (fun i__ v => match i__ with | 3 => ∃ (A : Option Addr) (c : Nat), v = (.slice A R c) | 6 => ∃ (A : Option Addr) (c : Nat), v = (.slice A R c) | 7 => v = (.int .i64 (minorL xs R (asc R) (asc R))) | _ => False) (fun i__ v w' => match i__ with | 3 => OwnF w' w1.heap.size 2 v [] (ints (asc R)) | 6 => OwnF w' w1.heap.size 2 v [] (ints (asc R)) | _ => True) (by kernel_rfl) (by kernel_rfl) (by intro i v w' w2 h hx; revert h; (try dsimp only); split <;> intro h <;> first | trivial | exact OwnF.ext h hx) ?_
      refine' wpT_det (o := ⟨some 14, Op.load 31 (Operand.tmp 1), 31, "l06_integers.go:136", #[], none⟩) rfl (by rfl) (by rfl) (fun w' hw' => ?_) ?_; rotate_left
      · have c0_ := Ext.cell hw' c0; have c1_ := Ext.cell hw' c1; have c2_ := Ext.cell hw' c2; go_simp <;> first | rfl | exact ⟨rfl, rfl⟩
      simp only [Act.put, List.setIfInBounds_toArray, List.set_cons_zero, List.set_cons_succ]
      refine' wpT_det (o := ⟨some 15, Op.fieldAddr 31 (Operand.tmp 1) 0, 0, "l06_integers.go:136", #[], none⟩) rfl (by rfl) (by rfl) (fun w' hw' => ?_) ?_; rotate_left
      · go_simp <;> first | rfl | exact ⟨rfl, rfl⟩
      simp only [Act.put, List.setIfInBounds_toArray, List.set_cons_zero, List.set_cons_succ]
      refine' wpT_det (o := ⟨some 16, Op.load 2 (Operand.tmp 15), 2, "l06_integers.go:136", #[{ on := 1, ground := Ground.data }], none⟩) rfl (by rfl) (by rfl) (fun w' hw' => ?_) ?_; rotate_left
      · have c0_ := Ext.cell hw' c0; have c1_ := Ext.cell hw' c1; have c2_ := Ext.cell hw' c2; go_simp <;> first | rfl | exact ⟨rfl, rfl⟩
      simp only [Act.put, List.setIfInBounds_toArray, List.set_cons_zero, List.set_cons_succ]
      refine wpT_nd (o := ⟨some 17, Op.call { callee := Callee.value (Operand.func 84), args := #[Operand.tmp 16], argTypes := #[2] }, 26, "l06_integers.go:136", #[{ on := 2, ground := Ground.data }], none⟩) rfl (by rfl) (by rfl) (fun w' hw' hF R__ hGo => ?_) ⟨_, none, 0, rfl⟩ ?_
      · go_simp
        refine gives_enter rfl ?_
        refine (ascending_any R u2 _).mono ?_
        rintro e w2 ⟨A2, k2, rfl, o2, hx⟩
        exact ⟨_, rfl, hGo _ _ hx ⟨_, _, rfl⟩ (OwnF.of (o2.base hw'.size) rfl)⟩
      rintro _ ⟨A2, k2, rfl⟩
      simp only [Act.put, List.setIfInBounds_toArray, List.set_cons_zero, List.set_cons_succ]
      refine' wpT_det (o := ⟨some 18, Op.fieldAddr 31 (Operand.tmp 1) 0, 0, "l06_integers.go:136", #[], none⟩) rfl (by rfl) (by rfl) (fun w' hw' => ?_) ?_; rotate_left
      · go_simp <;> first | rfl | exact ⟨rfl, rfl⟩
      simp only [Act.put, List.setIfInBounds_toArray, List.set_cons_zero, List.set_cons_succ]
      refine' wpT_det (o := ⟨some 19, Op.load 2 (Operand.tmp 18), 2, "l06_integers.go:136", #[{ on := 4, ground := Ground.data }], none⟩) rfl (by rfl) (by rfl) (fun w' hw' => ?_) ?_; rotate_left
      · have c0_ := Ext.cell hw' c0; have c1_ := Ext.cell hw' c1; have c2_ := Ext.cell hw' c2; go_simp <;> first | rfl | exact ⟨rfl, rfl⟩
      simp only [Act.put, List.setIfInBounds_toArray, List.set_cons_zero, List.set_cons_succ]
      refine wpT_nd (o := ⟨some 20, Op.call { callee := Callee.value (Operand.func 84), args := #[Operand.tmp 19], argTypes := #[2] }, 26, "l06_integers.go:136", #[{ on := 5, ground := Ground.data }, { on := 3, ground := Ground.chain }], none⟩) rfl (by rfl) (by rfl) (fun w' hw' hF R__ hGo => ?_) ⟨_, none, 0, rfl⟩ ?_
      · go_simp
        refine gives_enter rfl ?_
        refine (ascending_any R u2 _).mono ?_
        rintro e w2 ⟨A3, k3, rfl, o3, hx⟩
        exact ⟨_, rfl, hGo _ _ hx ⟨_, _, rfl⟩ (OwnF.of (o3.base hw'.size) rfl)⟩
      rintro _ ⟨A3, k3, rfl⟩
      simp only [Act.put, List.setIfInBounds_toArray, List.set_cons_zero, List.set_cons_succ]
      refine wpT_nd (o := ⟨some 21, Op.call { callee := Callee.value (Operand.func 83), args := #[Operand.tmp 14, Operand.tmp 17, Operand.tmp 20], argTypes := #[31, 26, 26] }, 2, "l06_integers.go:136", #[{ on := 0, ground := Ground.data }, { on := 3, ground := Ground.data }, { on := 6, ground := Ground.data }, { on := 6, ground := Ground.chain }], none⟩) rfl (by rfl) (by rfl) (fun w' hw' hF R__ hGo => ?_) ⟨_, rfl⟩ ?_
      · go_simp
        refine gives_enter rfl ?_
        refine (minor_any R R n cap A xs u2 u2 Hn (asc R) (asc R) A2 R k2 A3 R k3 _ (hr1.below hw'.undrew) (hF 3 (by simp [uses]) _ rfl _ _ _ rfl).reads (hF 6 (by simp [uses]) _ rfl _ _ _ rfl).reads (hF 3 (by simp [uses]) _ rfl _ _ _ rfl).cap (hF 6 (by simp [uses]) _ rfl _ _ _ rfl).cap (by omega) hb hb).mono ?_
        rintro e w2 ⟨rfl, hx⟩
        exact ⟨_, rfl, hGo _ _ hx rfl trivial⟩
      intro v hv
      obtain rfl : v = (.int .i64 (minorL xs R (asc R) (asc R))) := hv
      simp only [Act.put, List.setIfInBounds_toArray, List.set_cons_zero, List.set_cons_succ]
      refine' wpT_det (o := ⟨some 2, Op.assign (Operand.tmp 21), 2, "l06_integers.go:136", #[{ on := 7, ground := Ground.data }, { on := 7, ground := Ground.chain }, { on := 0, ground := Ground.phase }, { on := 1, ground := Ground.phase }, { on := 2, ground := Ground.phase }, { on := 3, ground := Ground.phase }, { on := 4, ground := Ground.phase }, { on := 5, ground := Ground.phase }, { on := 6, ground := Ground.phase }, { on := 7, ground := Ground.phase }], none⟩) rfl (by rfl) (by rfl) (fun w' hw' => ?_) ?_; rotate_left
      · go_simp <;> first | rfl | exact ⟨rfl, rfl⟩
      simp only [Act.put, List.setIfInBounds_toArray, List.set_cons_zero, List.set_cons_succ]
      refine' wpT_det (o := ⟨some 3, Op.assign (Operand.const (Value.bool true)), 4, "l06_integers.go:136", #[{ on := 8, ground := Ground.chain }, { on := 0, ground := Ground.phase }, { on := 1, ground := Ground.phase }, { on := 2, ground := Ground.phase }, { on := 3, ground := Ground.phase }, { on := 4, ground := Ground.phase }, { on := 5, ground := Ground.phase }, { on := 6, ground := Ground.phase }, { on := 7, ground := Ground.phase }, { on := 8, ground := Ground.phase }], none⟩) rfl (by rfl) (by rfl) (fun w' hw' => ?_) ?_; rotate_left
      · go_simp <;> first | rfl | exact ⟨rfl, rfl⟩
      simp only [Act.put, List.setIfInBounds_toArray, List.set_cons_zero, List.set_cons_succ]
      refine wpT_nil (fun w3 hw' hF => ?_)
      refine wpList_nil ?_
      go_wp2_with fail
      go_ret2
      exact ⟨by rw [HD.out]; rfl, hx1.trans hw'.undrew⟩
    · replace hd : d = (0, false) := by rw [hd, hv, decide_eq_false hrc]; rfl
      have HD := Lib.hid hd
      clear hd
      have hne : (r != c) = true := by simpa using hrc
      go_enter Try.func40, Try.ntmps40
      go_wp2_with fail
      refine (isLow_any r c A n cap xs _ ha0.rds).mono ?_
      rintro e w1 ⟨rfl, hx⟩
      rw [hv]
      obtain ⟨c0, c1, c2, hr1⟩ := ha0.ext hx
      clear ha0
      go_wp2_with fail
      go_ret2
      exact ⟨by rw [HD.out]; rfl, hx0.trans hx⟩

set_option maxHeartbeats 2000000 in
theorem specDetOfWhole_any (r c : Int) (A : Option Addr) (n cap : Nat) (xs : List Int) (w : World) (hr : Rds w A n (ints xs)) :
    Calls Try.prog 39 #[.agg #[.int .i64 r, .int .i64 c, .slice A n cap]] w fun e w' => e = .returned (.tuple #[.int .i64 (detD r c xs).1, .bool (detD r c xs).2]) ∧ Ext w w' := by
  have hl := hr.ilen
  have hx0 : Ext w (w.alloc (.cells #[.int .i64 r, .int .i64 c, .slice A n cap] 31)) := (Ext.refl _).alloc _
  have ha0 := WAt.new (r := r) (c := c) (cap := cap) hr 31
  obtain ⟨d, hd⟩ : ∃ d, d = detD r c xs := ⟨_, rfl⟩
  rw [← hd]
  unfold detD at hd
  cases hv : isWholeB r c xs 100 with
  | false =>
    replace hd : d = (0, false) := by rw [hd, hv]; rfl
    have HD := Lib.hid hd
    clear hd
    go_enter Try.func39, Try.ntmps39
    go_wp2_with fail
    refine (l06Low_any _ r c A n cap xs _ ha0).mono ?_
    rintro e w1 ⟨rfl, hx⟩
    rw [hv]
    go_wp2_with fail
    go_ret2
    exact ⟨by rw [HD.out]; rfl, hx0.trans hx⟩
  | true =>
    by_cases hrc : r = c
    · subst hrc
      obtain ⟨R, C, e1, e2, u1, u2, u3, u4, u5⟩ := whole_nat hv
      obtain rfl : R = C := by omega
      subst e1
      have hn : n = R * R := by omega
      replace hd : d = (minorL xs R (asc R) (asc R), true) := by rw [hd, hv]; simp
      have HD := Lib.hid hd
      have Hn : Hid (n = R * R) := hn
      have hb : Hid (∀ x ∈ asc R, 0 ≤ x ∧ x < (R : Int)) := fun x hx => asc_mem hx
      have hne : ((R : Int) != (R : Int)) = false := by simp
      clear hd hn u5 hl
      go_enter Try.func39, Try.ntmps39
      go_wp2_with fail
      refine (l06Low_any _ R R A n cap xs _ ha0).mono ?_
      rintro e w1 ⟨rfl, hx⟩
      rw [hv]
      have ha := ha0.ext hx
      have hx1 := hx0.trans hx
      clear ha0 hx0 hx
      obtain ⟨c0, c1, c2, hr1⟩ := ha
      go_wp2_with fail
      refine wp_region_T (cs := []) [0, 1, 2, 3, 4, 5, 6, 7, 8] [] [2, 5, 6] [(6, [2, 5])] (fun i__ v => match i__ with | 2 => ∃ (A : Option Addr) (c : Nat), v = (.slice A R c) | 5 => ∃ (A : Option Addr) (c : Nat), v = (.slice A R c) | 6 => v = (.int .i64 (minorL xs R (asc R) (asc R))) | _ => False) (fun i__ v w' => match i__ with | 2 => OwnF w' w1.heap.size 2 v [] (ints (asc R)) | 5 => OwnF w' w1.heap.size 2 v [] (ints (asc R)) | _ => True) (by kernel_rfl) (by kernel_rfl) (by intro i v w' w2 h hx; revert h; (try dsimp only); split <;> intro h <;> first | trivial | exact OwnF.ext h hx) ?_
      refine' wpT_det (o := ⟨some 13, Op.fieldAddr 31 (Operand.tmp 1) 0, 0, "l06_integers.go:183", #[], none⟩) rfl (by rfl) (by rfl) (fun w' hw' => ?_) ?_; rotate_left
      · go_simp <;> first | rfl | exact ⟨rfl, rfl⟩
      simp only [Act.put, List.setIfInBounds_toArray, List.set_cons_zero, List.set_cons_succ]
      refine' wpT_det (o := ⟨some 14, Op.load 2 (Operand.tmp 13), 2, "l06_integers.go:183", #[{ on := 0, ground := Ground.data }], none⟩) rfl (by rfl) (by rfl) (fun w' hw' => ?_) ?_; rotate_left
      · have c0_ := Ext.cell hw' c0; have c1_ := Ext.cell hw' c1; have c2_ := Ext.cell hw' c2; go_simp <;> first | rfl | exact ⟨rfl, rfl⟩
      simp only [Act.put, List.setIfInBounds_toArray, List.set_cons_zero, List.set_cons_succ]
      refine wpT_nd (o := ⟨some 15, Op.call { callee := Callee.value (Operand.func 81), args := #[Operand.tmp 14], argTypes := #[2] }, 26, "l06_integers.go:183", #[{ on := 1, ground := Ground.data }], none⟩) rfl (by rfl) (by rfl) (fun w' hw' hF R__ hGo => ?_) ⟨_, none, 0, rfl⟩ ?_
      · go_simp
        refine gives_enter rfl ?_
        refine (l06All_any R u2 _).mono ?_
        rintro e w2 ⟨A2, k2, rfl, o2, hx⟩
        exact ⟨_, rfl, hGo _ _ hx ⟨_, _, rfl⟩ (OwnF.of (o2.base hw'.size) rfl)⟩
      rintro _ ⟨A2, k2, rfl⟩
      simp only [Act.put, List.setIfInBounds_toArray, List.set_cons_zero, List.set_cons_succ]
      refine' wpT_det (o := ⟨some 16, Op.fieldAddr 31 (Operand.tmp 1) 0, 0, "l06_integers.go:183", #[], none⟩) rfl (by rfl) (by rfl) (fun w' hw' => ?_) ?_; rotate_left
      · go_simp <;> first | rfl | exact ⟨rfl, rfl⟩
      simp only [Act.put, List.setIfInBounds_toArray, List.set_cons_zero, List.set_cons_succ]
      refine' wpT_det (o := ⟨some 17, Op.load 2 (Operand.tmp 16), 2, "l06_integers.go:183", #[{ on := 3, ground := Ground.data }], none⟩) rfl (by rfl) (by rfl) (fun w' hw' => ?_) ?_; rotate_left
      · have c0_ := Ext.cell hw' c0; have c1_ := Ext.cell hw' c1; have c2_ := Ext.cell hw' c2; go_simp <;> first | rfl | exact ⟨rfl, rfl⟩
      simp only [Act.put, List.setIfInBounds_toArray, List.set_cons_zero, List.set_cons_succ]
      refine wpT_nd (o := ⟨some 18, Op.call { callee := Callee.value (Operand.func 81), args := #[Operand.tmp 17], argTypes := #[2] }, 26, "l06_integers.go:183", #[{ on := 4, ground := Ground.data }, { on := 2, ground := Ground.chain }], none⟩) rfl (by rfl) (by rfl) (fun w' hw' hF R__ hGo => ?_) ⟨_, none, 0, rfl⟩ ?_
      · go_simp
        refine gives_enter rfl ?_
        refine (l06All_any R u2 _).mono ?_
        rintro e w2 ⟨A3, k3, rfl, o3, hx⟩
        exact ⟨_, rfl, hGo _ _ hx ⟨_, _, rfl⟩ (OwnF.of (o3.base hw'.size) rfl)⟩
      rintro _ ⟨A3, k3, rfl⟩
      simp only [Act.put, List.setIfInBounds_toArray, List.set_cons_zero, List.set_cons_succ]
      refine wpT_nd (o := ⟨some 19, Op.call { callee := Callee.value (Operand.func 80), args := #[Operand.tmp 1, Operand.tmp 15, Operand.tmp 18], argTypes := #[62, 26, 26] }, 2, "l06_integers.go:183", #[{ on := 2, ground := Ground.data }, { on := 5, ground := Ground.data }, { on := 5, ground := Ground.chain }], none⟩) rfl (by rfl) (by rfl) (fun w' hw' hF R__ hGo => ?_) ⟨_, rfl⟩ ?_
      · go_simp
        refine gives_enter rfl ?_
        refine (l06Minor_any _ R R n cap A xs u2 u2 Hn (asc R) (asc R) A2 R k2 A3 R k3 _ (WAt.ext ⟨c0, c1, c2, hr1⟩ hw'.undrew) (hF 2 (by simp [uses]) _ rfl _ _ _ rfl).reads (hF 5 (by simp [uses]) _ rfl _ _ _ rfl).reads (hF 2 (by simp [uses]) _ rfl _ _ _ rfl).cap (hF 5 (by simp [uses]) _ rfl _ _ _ rfl).cap (by omega) hb hb).mono ?_
        rintro e w2 ⟨rfl, hx⟩
        exact ⟨_, rfl, hGo _ _ hx rfl trivial⟩
      intro v hv
      obtain rfl : v = (.int .i64 (minorL xs R (asc R) (asc R))) := hv
      simp only [Act.put, List.setIfInBounds_toArray, List.set_cons_zero, List.set_cons_succ]
      refine' wpT_det (o := ⟨some 2, Op.assign (Operand.tmp 19), 2, "l06_integers.go:183", #[{ on := 6, ground := Ground.data }, { on := 6, ground := Ground.chain }, { on := 0, ground := Ground.phase }, { on := 1, ground := Ground.phase }, { on := 2, ground := Ground.phase }, { on := 3, ground := Ground.phase }, { on := 4, ground := Ground.phase }, { on := 5, ground := Ground.phase }, { on := 6, ground := Ground.phase }], none⟩) rfl (by rfl) (by rfl) (fun w' hw' => ?_) ?_; rotate_left
      · go_simp <;> first | rfl | exact ⟨rfl, rfl⟩
      simp only [Act.put, List.setIfInBounds_toArray, List.set_cons_zero, List.set_cons_succ]
      refine' wpT_det (o := ⟨some 3, Op.assign (Operand.const (Value.bool true)), 4, "l06_integers.go:183", #[{ on := 7, ground := Ground.chain }, { on := 0, ground := Ground.phase }, { on := 1, ground := Ground.phase }, { on := 2, ground := Ground.phase }, { on := 3, ground := Ground.phase }, { on := 4, ground := Ground.phase }, { on := 5, ground := Ground.phase }, { on := 6, ground := Ground.phase }, { on := 7, ground := Ground.phase }], none⟩) rfl (by rfl) (by rfl) (fun w' hw' => ?_) ?_; rotate_left
      · go_simp <;> first | rfl | exact ⟨rfl, rfl⟩
      simp only [Act.put, List.setIfInBounds_toArray, List.set_cons_zero, List.set_cons_succ]
      refine wpT_nil (fun w3 hw' hF => ?_)
      refine wpList_nil ?_
      go_wp2_with fail
      go_ret2
      exact ⟨by rw [HD.out]; rfl, hx1.trans hw'.undrew⟩
    · replace hd : d = (0, false) := by rw [hd, hv, decide_eq_false hrc]; rfl
      have HD := Lib.hid hd
      clear hd
      have hne : (r != c) = true := by simpa using hrc
      go_enter Try.func39, Try.ntmps39
      go_wp2_with fail
      refine (l06Low_any _ r c A n cap xs _ ha0).mono ?_
      rintro e w1 ⟨rfl, hx⟩
      rw [hv]
      obtain ⟨c0, c1, c2, hr1⟩ := ha0.ext hx
      clear ha0
      go_wp2_with fail
      go_ret2
      exact ⟨by rw [HD.out]; rfl, hx0.trans hx⟩

end Go.Proofs.Ytcfimkjkolgboaa
