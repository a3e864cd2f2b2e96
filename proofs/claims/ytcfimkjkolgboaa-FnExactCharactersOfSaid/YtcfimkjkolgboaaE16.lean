import Derived.Test.YtcfimkjkolgboaaE15
set_option linter.unusedVariables false
set_option linter.unusedSimpArgs false
namespace Go.Proofs.Ytcfimkjkolgboaa
open Go.RowKit

/-- Whether a list goes up. -/
def upB (xs : List Int) : Bool := decide (∀ k, k < xs.length - 1 → rd xs (k : Nat) < rd xs ((k : Int) + 1))
/-- Whether a list is a set of numbers less than n. -/
def setB (xs : List Int) (n : Int) : Bool := upB xs && xs.all fun x => inR 0 x (n - 1)
theorem rd_cast (xs : List Int) (k : Nat) : rd xs ((k : Int) + 1) = rd xs ((k + 1 : Nat) : Int) := by simp
theorem setB_iff {xs : List Int} {n : Int} : setB xs n = true ↔ (∀ k, k + 1 < xs.length → rd xs (k : Nat) < rd xs ((k : Int) + 1)) ∧ ∀ k, k < xs.length → 0 ≤ rd xs (k : Nat) ∧ rd xs (k : Nat) ≤ n - 1 := by
  unfold setB upB
  rw [Bool.and_eq_true, decide_eq_true_eq, List.all_eq_true]
  constructor
  · rintro ⟨h1, h2⟩
    refine ⟨fun k hk => h1 k (by omega), fun k hk => ?_⟩
    have := h2 _ (List.getElem_mem hk)
    rw [rd_get hk]
    exact inR_iff.1 this
  · rintro ⟨h1, h2⟩
    refine ⟨fun k hk => h1 k (by omega), fun x hx => ?_⟩
    obtain ⟨k, hk, rfl⟩ := List.mem_iff_getElem.1 hx
    have := h2 k hk
    rw [rd_get hk] at this
    exact inR_iff.2 this
theorem setB_mem {xs : List Int} {n : Int} (h : setB xs n = true) : ∀ x ∈ xs, 0 ≤ x ∧ x < n := by
  intro x hx
  obtain ⟨k, hk, rfl⟩ := List.mem_iff_getElem.1 hx
  have := (setB_iff.1 h).2 k hk
  rw [rd_get hk] at this
  omega
theorem setB_len {xs : List Int} {n : Int} (h : setB xs n = true) (hn : 0 ≤ n) : (xs.length : Int) ≤ n := by
  obtain ⟨h1, h2⟩ := setB_iff.1 h
  have key : ∀ k, k < xs.length → (k : Int) ≤ rd xs (k : Nat) := by
    intro k
    induction k with
    | zero => intro hk; have := h2 0 hk; omega
    | succ k ih =>
      intro hk
      have a := ih (by omega)
      have b := h1 k hk
      rw [rd_cast] at b
      omega
  rcases Nat.eq_zero_or_pos xs.length with h0 | h0
  · omega
  · have a := key (xs.length - 1) (by omega)
    have b := h2 (xs.length - 1) (by omega)
    omega

set_option maxHeartbeats 2000000 in
theorem isSet_any (A : Option Addr) (n cap : Nat) (xs : List Int) (N : Int) (w : World) (hr : Rds w A n (ints xs)) (hN : 1 ≤ N ∧ N ≤ 6) :
    Calls Try.prog 87 #[.slice A n cap, .int .i64 N] w fun e w' => e = .returned (.bool (setB xs N)) ∧ Ext w w' := by
  have hl := hr.ilen
  have hs := hr.small
  obtain ⟨res, hres⟩ : ∃ res, res = setB xs N := ⟨_, rfl⟩
  rw [← hres]
  have Hres := Lib.hid hres
  have HL := Lib.hid hl
  clear hres hl
  go_enter Try.func87, Try.ntmps87
  go_wp2_with fail
  go_loopw [5] (fun i wr => ∃ k : Nat, k ≤ n ∧ i = .int .i64 ((k : Int) + 1) ∧ Hid (∀ j, j < k → j + 1 < n → rd xs j < rd xs ((j : Int) + 1)) ∧ Ext w wr) (fun i _ => n + 1 - (intOf i).toNat)
  case atStart => exact ⟨0, Nat.zero_le _, rfl, fun j hj => by omega, Ext.refl _⟩
  case round =>
    obtain ⟨k, hk, rfl, hup, hx⟩ := hrel
    by_cases hlt : k + 1 < n
    · obtain ⟨ad, rfl, hc⟩ := (hr.below hx).intN k (by omega)
      obtain ⟨ad', had, hc'⟩ := (hr.below hx).intN (k + 1) hlt
      obtain rfl := Option.some.inj had
      have hlt' : (k : Int) + 1 < n := by omega
      have t1 : ((k : Int) + 1).toNat = k + 1 := by omega
      have t2 : (k : Int) + 1 - 1 = k := by omega
      have w1 : IntKind.i64.wrap (k : Int) = k := IntWalk.i64_in _ (by omega)
      obtain ⟨x, hxx⟩ : ∃ x, x = rd xs (k : Nat) := ⟨_, rfl⟩
      obtain ⟨y, hyy⟩ : ∃ y, y = rd xs ((k + 1 : Nat) : Int) := ⟨_, rfl⟩
      rw [← hxx] at hc
      rw [← hyy] at hc'
      have HX := Lib.hid hxx
      have HY := Lib.hid hyy
      clear hxx hyy
      have hk0 : k < n := by omega
      have hc2 : wr.cell? ⟨ad.block, ad.off + (k + 1), none⟩ = some (.int .i64 y) := by simpa [Addr.add] using hc'
      by_cases he : x < y
      · have he' : decide (y ≤ x) = false := by simp; omega
        go_wp2_with fail
        refine wp_region_T (cs := []) [0, 1, 2, 3, 4, 5, 6, 7, 8, 9] [] [] [] (fun _ _ => False) (fun _ _ _ => True) (by kernel_rfl) (by kernel_rfl) (fun _ _ _ _ _ _ => trivial) ?_
        refine' wpT_det (o := ⟨some 12, Op.move (Operand.tmp 0), 26, "l06_integers.go:142", #[], none⟩) rfl (by rfl) (by rfl) (fun w' hw' => ?_) ?_; rotate_left
        · go_simp <;> first | rfl | exact ⟨rfl, rfl⟩
        simp only [Act.put, List.setIfInBounds_toArray, List.set_cons_zero, List.set_cons_succ]
        refine' wpT_det (o := ⟨some 13, Op.move (Operand.tmp 5), 3, "l06_integers.go:142", #[], none⟩) rfl (by rfl) (by rfl) (fun w' hw' => ?_) ?_; rotate_left
        · go_simp <;> first | rfl | exact ⟨rfl, rfl⟩
        simp only [Act.put, List.setIfInBounds_toArray, List.set_cons_zero, List.set_cons_succ]
        refine' wpT_det (o := ⟨some 14, Op.binOp BinOp.sub 3 (Operand.tmp 13) (Operand.const (Value.int IntKind.i64 1)) 3, 3, "l06_integers.go:142", #[{ on := 1, ground := Ground.data }], none⟩) rfl (by rfl) (by rfl) (fun w' hw' => ?_) ?_; rotate_left
        · go_simp <;> first | rfl | exact ⟨rfl, rfl⟩
        simp only [Act.put, List.setIfInBounds_toArray, List.set_cons_zero, List.set_cons_succ]
        refine' wpT_det (o := ⟨some 15, Op.indexAddr 26 (Operand.tmp 12) (Operand.tmp 14), 0, "l06_integers.go:142", #[{ on := 0, ground := Ground.data }, { on := 2, ground := Ground.data }], none⟩) rfl (by rfl) (by rfl) (fun w' hw' => ?_) ?_; rotate_left
        · go_simp <;> first | rfl | exact ⟨rfl, rfl⟩
        simp only [Act.put, List.setIfInBounds_toArray, List.set_cons_zero, List.set_cons_succ]
        refine' wpT_det (o := ⟨some 16, Op.load 2 (Operand.tmp 15), 2, "l06_integers.go:142", #[{ on := 3, ground := Ground.data }], none⟩) rfl (by rfl) (by rfl) (fun w' hw' => ?_) ?_; rotate_left
        · have hc_ := Ext.cell hw' hc; have hc'_ := Ext.cell hw' hc'; have hc2_ := Ext.cell hw' hc2; go_simp <;> first | rfl | exact ⟨rfl, rfl⟩
        simp only [Act.put, List.setIfInBounds_toArray, List.set_cons_zero, List.set_cons_succ]
        refine' wpT_det (o := ⟨some 17, Op.move (Operand.tmp 0), 26, "l06_integers.go:142", #[], none⟩) rfl (by rfl) (by rfl) (fun w' hw' => ?_) ?_; rotate_left
        · go_simp <;> first | rfl | exact ⟨rfl, rfl⟩
        simp only [Act.put, List.setIfInBounds_toArray, List.set_cons_zero, List.set_cons_succ]
        refine' wpT_det (o := ⟨some 18, Op.move (Operand.tmp 5), 3, "l06_integers.go:142", #[], none⟩) rfl (by rfl) (by rfl) (fun w' hw' => ?_) ?_; rotate_left
        · go_simp <;> first | rfl | exact ⟨rfl, rfl⟩
        simp only [Act.put, List.setIfInBounds_toArray, List.set_cons_zero, List.set_cons_succ]
        refine' wpT_det (o := ⟨some 19, Op.indexAddr 26 (Operand.tmp 17) (Operand.tmp 18), 0, "l06_integers.go:142", #[{ on := 5, ground := Ground.data }, { on := 6, ground := Ground.data }], none⟩) rfl (by rfl) (by rfl) (fun w' hw' => ?_) ?_; rotate_left
        · go_simp <;> first | rfl | exact ⟨rfl, rfl⟩
        simp only [Act.put, List.setIfInBounds_toArray, List.set_cons_zero, List.set_cons_succ]
        refine' wpT_det (o := ⟨some 20, Op.load 2 (Operand.tmp 19), 2, "l06_integers.go:142", #[{ on := 7, ground := Ground.data }], none⟩) rfl (by rfl) (by rfl) (fun w' hw' => ?_) ?_; rotate_left
        · have hc_ := Ext.cell hw' hc; have hc'_ := Ext.cell hw' hc'; have hc2_ := Ext.cell hw' hc2; go_simp <;> first | rfl | exact ⟨rfl, rfl⟩
        simp only [Act.put, List.setIfInBounds_toArray, List.set_cons_zero, List.set_cons_succ]
        refine' wpT_det (o := ⟨some 21, Op.binOp BinOp.geq 2 (Operand.tmp 16) (Operand.tmp 20) 2, 4, "l06_integers.go:142", #[{ on := 4, ground := Ground.data }, { on := 8, ground := Ground.data }], none⟩) rfl (by rfl) (by rfl) (fun w' hw' => ?_) ?_; rotate_left
        · go_simp <;> first | rfl | exact ⟨rfl, rfl⟩
        simp only [Act.put, List.setIfInBounds_toArray, List.set_cons_zero, List.set_cons_succ]
        refine wpT_nil (fun w' hw' hF => ?_)
        refine wpList_nil ?_
        go_wp2_with fail
        go_roundw
        case rel => exact ⟨k + 1, by omega, by go_num, fun j hj hjn => if e : j = k then (by subst e; rw [rd_cast, ← HX.out, ← HY.out]; exact he) else hup.out j (by omega) hjn, hx.trans hw'.undrew⟩
        case measure => simp [intOf]; omega
      · have he' : decide (y ≤ x) = true := by simp; omega
        go_wp2_with fail
        refine wp_region_T (cs := []) [0, 1, 2, 3, 4, 5, 6, 7, 8, 9] [] [] [] (fun _ _ => False) (fun _ _ _ => True) (by kernel_rfl) (by kernel_rfl) (fun _ _ _ _ _ _ => trivial) ?_
        refine' wpT_det (o := ⟨some 12, Op.move (Operand.tmp 0), 26, "l06_integers.go:142", #[], none⟩) rfl (by rfl) (by rfl) (fun w' hw' => ?_) ?_; rotate_left
        · go_simp <;> first | rfl | exact ⟨rfl, rfl⟩
        simp only [Act.put, List.setIfInBounds_toArray, List.set_cons_zero, List.set_cons_succ]
        refine' wpT_det (o := ⟨some 13, Op.move (Operand.tmp 5), 3, "l06_integers.go:142", #[], none⟩) rfl (by rfl) (by rfl) (fun w' hw' => ?_) ?_; rotate_left
        · go_simp <;> first | rfl | exact ⟨rfl, rfl⟩
        simp only [Act.put, List.setIfInBounds_toArray, List.set_cons_zero, List.set_cons_succ]
        refine' wpT_det (o := ⟨some 14, Op.binOp BinOp.sub 3 (Operand.tmp 13) (Operand.const (Value.int IntKind.i64 1)) 3, 3, "l06_integers.go:142", #[{ on := 1, ground := Ground.data }], none⟩) rfl (by rfl) (by rfl) (fun w' hw' => ?_) ?_; rotate_left
        · go_simp <;> first | rfl | exact ⟨rfl, rfl⟩
        simp only [Act.put, List.setIfInBounds_toArray, List.set_cons_zero, List.set_cons_succ]
        refine' wpT_det (o := ⟨some 15, Op.indexAddr 26 (Operand.tmp 12) (Operand.tmp 14), 0, "l06_integers.go:142", #[{ on := 0, ground := Ground.data }, { on := 2, ground := Ground.data }], none⟩) rfl (by rfl) (by rfl) (fun w' hw' => ?_) ?_; rotate_left
        · go_simp <;> first | rfl | exact ⟨rfl, rfl⟩
        simp only [Act.put, List.setIfInBounds_toArray, List.set_cons_zero, List.set_cons_succ]
        refine' wpT_det (o := ⟨some 16, Op.load 2 (Operand.tmp 15), 2, "l06_integers.go:142", #[{ on := 3, ground := Ground.data }], none⟩) rfl (by rfl) (by rfl) (fun w' hw' => ?_) ?_; rotate_left
        · have hc_ := Ext.cell hw' hc; have hc'_ := Ext.cell hw' hc'; have hc2_ := Ext.cell hw' hc2; go_simp <;> first | rfl | exact ⟨rfl, rfl⟩
        simp only [Act.put, List.setIfInBounds_toArray, List.set_cons_zero, List.set_cons_succ]
        refine' wpT_det (o := ⟨some 17, Op.move (Operand.tmp 0), 26, "l06_integers.go:142", #[], none⟩) rfl (by rfl) (by rfl) (fun w' hw' => ?_) ?_; rotate_left
        · go_simp <;> first | rfl | exact ⟨rfl, rfl⟩
        simp only [Act.put, List.setIfInBounds_toArray, List.set_cons_zero, List.set_cons_succ]
        refine' wpT_det (o := ⟨some 18, Op.move (Operand.tmp 5), 3, "l06_integers.go:142", #[], none⟩) rfl (by rfl) (by rfl) (fun w' hw' => ?_) ?_; rotate_left
        · go_simp <;> first | rfl | exact ⟨rfl, rfl⟩
        simp only [Act.put, List.setIfInBounds_toArray, List.set_cons_zero, List.set_cons_succ]
        refine' wpT_det (o := ⟨some 19, Op.indexAddr 26 (Operand.tmp 17) (Operand.tmp 18), 0, "l06_integers.go:142", #[{ on := 5, ground := Ground.data }, { on := 6, ground := Ground.data }], none⟩) rfl (by rfl) (by rfl) (fun w' hw' => ?_) ?_; rotate_left
        · go_simp <;> first | rfl | exact ⟨rfl, rfl⟩
        simp only [Act.put, List.setIfInBounds_toArray, List.set_cons_zero, List.set_cons_succ]
        refine' wpT_det (o := ⟨some 20, Op.load 2 (Operand.tmp 19), 2, "l06_integers.go:142", #[{ on := 7, ground := Ground.data }], none⟩) rfl (by rfl) (by rfl) (fun w' hw' => ?_) ?_; rotate_left
        · have hc_ := Ext.cell hw' hc; have hc'_ := Ext.cell hw' hc'; have hc2_ := Ext.cell hw' hc2; go_simp <;> first | rfl | exact ⟨rfl, rfl⟩
        simp only [Act.put, List.setIfInBounds_toArray, List.set_cons_zero, List.set_cons_succ]
        refine' wpT_det (o := ⟨some 21, Op.binOp BinOp.geq 2 (Operand.tmp 16) (Operand.tmp 20) 2, 4, "l06_integers.go:142", #[{ on := 4, ground := Ground.data }, { on := 8, ground := Ground.data }], none⟩) rfl (by rfl) (by rfl) (fun w' hw' => ?_) ?_; rotate_left
        · go_simp <;> first | rfl | exact ⟨rfl, rfl⟩
        simp only [Act.put, List.setIfInBounds_toArray, List.set_cons_zero, List.set_cons_succ]
        refine wpT_nil (fun w' hw' hF => ?_)
        refine wpList_nil ?_
        go_wp2_with fail
        go_ret
        refine ⟨ret_bool ?_, hx.trans hw'.undrew⟩
        rw [Hres.out, Eq.comm, ← Bool.not_eq_true]
        intro hb
        have := (setB_iff.1 hb).1 k (by have := HL.out; omega)
        rw [rd_cast, ← HX.out, ← HY.out] at this
        omega
    · go_wp2_with fail
      refine (allIn_any A n cap xs _ _ _ (hr.below hx)).mono ?_
      rintro e w1 ⟨rfl, hx'⟩
      go_wp2_with fail
      go_ret
      refine ⟨ret_bool ?_, hx.trans hx'⟩
      rw [Hres.out]
      unfold setB upB
      rw [decide_eq_true (p := ∀ k, k < xs.length - 1 → rd xs (k : Nat) < rd xs ((k : Int) + 1)), Bool.true_and]
      intro j hj
      have := HL.out
      exact hup.out j (by omega) (by omega)

set_option maxHeartbeats 4000000 in
theorem l06Set_any (A : Option Addr) (n cap : Nat) (xs : List Int) (N : Int) (w : World) (hr : Rds w A n (ints xs)) (hN : 1 ≤ N ∧ N ≤ 6) :
    Calls Try.prog 85 #[.slice A n cap, .int .i64 N] w fun e w' => e = .returned (.bool (decide (0 < n) && setB xs N)) ∧ Ext w w' := by
  have hl := hr.ilen
  have hs := hr.small
  have hwN : IntKind.i64.wrap (N - 1) = N - 1 := IntWalk.i64_in _ (by omega)
  obtain ⟨res, hres⟩ : ∃ res, res = (decide (0 < n) && setB xs N) := ⟨_, rfl⟩
  rw [← hres]
  have Hres := Lib.hid hres
  have HL := Lib.hid hl
  clear hres hl
  go_enter Try.func85, Try.ntmps85
  go_wp2_with fail
  go_loopw [5] (fun i wr => ∃ k : Nat, k ≤ n ∧ i = .int .i64 k ∧ Hid ((∀ j, j < k → inR 0 (rd xs j) (N - 1) = true) ∧ ∀ j, j + 1 < k → rd xs j < rd xs ((j : Int) + 1)) ∧ Ext w wr) (fun i _ => n - (intOf i).toNat)
  case atStart => exact ⟨0, Nat.zero_le _, rfl, ⟨fun j hj => by omega, fun j hj => by omega⟩, Ext.refl _⟩
  case round =>
    obtain ⟨k, hk, rfl, hup, hx⟩ := hrel
    by_cases hlt : k < n
    · obtain ⟨ad, rfl, hc⟩ := (hr.below hx).intN k hlt
      obtain ⟨x, hxx⟩ : ∃ x, x = rd xs (k : Nat) := ⟨_, rfl⟩
      rw [← hxx] at hc
      have HX := Lib.hid hxx
      clear hxx
      cases hin : inR 0 x (N - 1) with
      | false =>
        go_wp2_with fail
        refine wp_region_T (cs := []) [0, 1, 2, 3, 4, 5, 6, 7, 8, 9, 10, 11, 12, 13, 14, 15, 16, 17, 18, 19, 20, 21, 22, 23] [] [6] [] (fun i__ v => match i__ with | 6 => v = (.bool false) | _ => False) (fun _ _ _ => True) (by kernel_rfl) (by kernel_rfl) (fun _ _ _ _ _ _ => trivial) ?_
        refine' wpT_det (o := ⟨some 12, Op.move (Operand.tmp 0), 26, "l06_integers.go:189", #[], none⟩) rfl (by rfl) (by rfl) (fun w' hw' => ?_) ?_; rotate_left
        · go_simp <;> first | rfl | exact ⟨rfl, rfl⟩
        simp only [Act.put, List.setIfInBounds_toArray, List.set_cons_zero, List.set_cons_succ]
        refine' wpT_det (o := ⟨some 13, Op.move (Operand.tmp 5), 3, "l06_integers.go:189", #[], none⟩) rfl (by rfl) (by rfl) (fun w' hw' => ?_) ?_; rotate_left
        · go_simp <;> first | rfl | exact ⟨rfl, rfl⟩
        simp only [Act.put, List.setIfInBounds_toArray, List.set_cons_zero, List.set_cons_succ]
        refine' wpT_det (o := ⟨some 14, Op.indexAddr 26 (Operand.tmp 12) (Operand.tmp 13), 0, "l06_integers.go:189", #[{ on := 0, ground := Ground.data }, { on := 1, ground := Ground.data }], none⟩) rfl (by rfl) (by rfl) (fun w' hw' => ?_) ?_; rotate_left
        · go_simp <;> first | rfl | exact ⟨rfl, rfl⟩
        simp only [Act.put, List.setIfInBounds_toArray, List.set_cons_zero, List.set_cons_succ]
        refine' wpT_det (o := ⟨some 15, Op.load 2 (Operand.tmp 14), 2, "l06_integers.go:189", #[{ on := 2, ground := Ground.data }], none⟩) rfl (by rfl) (by rfl) (fun w' hw' => ?_) ?_; rotate_left
        · have hc_ := Ext.cell hw' hc; go_simp <;> first | rfl | exact ⟨rfl, rfl⟩
        simp only [Act.put, List.setIfInBounds_toArray, List.set_cons_zero, List.set_cons_succ]
        refine' wpT_det (o := ⟨some 16, Op.move (Operand.tmp 1), 2, "l06_integers.go:189", #[], none⟩) rfl (by rfl) (by rfl) (fun w' hw' => ?_) ?_; rotate_left
        · go_simp <;> first | rfl | exact ⟨rfl, rfl⟩
        simp only [Act.put, List.setIfInBounds_toArray, List.set_cons_zero, List.set_cons_succ]
        refine' wpT_det (o := ⟨some 17, Op.binOp BinOp.sub 2 (Operand.tmp 16) (Operand.const (Value.int IntKind.i64 1)) 2, 2, "l06_integers.go:189", #[{ on := 4, ground := Ground.data }], none⟩) rfl (by rfl) (by rfl) (fun w' hw' => ?_) ?_; rotate_left
        · go_simp <;> first | rfl | exact ⟨rfl, rfl⟩
        simp only [Act.put, List.setIfInBounds_toArray, List.set_cons_zero, List.set_cons_succ]
        refine wpT_nd (o := ⟨some 18, Op.call { callee := Callee.value (Operand.func 62), args := #[Operand.tmp 15, Operand.const (Value.int IntKind.i64 0), Operand.tmp 17], argTypes := #[2, 2, 2] }, 4, "l06_integers.go:189", #[{ on := 3, ground := Ground.data }, { on := 5, ground := Ground.data }], none⟩) rfl (by rfl) (by rfl) (fun w' hw' hF R__ hGo => ?_) ⟨_, rfl⟩ ?_
        · go_simp
          refine gives_enter rfl ?_
          refine (l00In_any _ _ _ _).mono ?_
          rintro e w2 ⟨rfl, rfl⟩
          exact ⟨_, rfl, hGo _ _ (Ext.refl _) (congrArg Value.bool hin) trivial⟩
        intro v hv
        obtain rfl : v = (.bool false) := hv
        simp only [Act.put, List.setIfInBounds_toArray, List.set_cons_zero, List.set_cons_succ]
        refine' wpT_det (o := ⟨some 19, Op.unOp UnOp.not 4 (Operand.tmp 18), 4, "l06_integers.go:189", #[{ on := 6, ground := Ground.data }], none⟩) rfl (by rfl) (by rfl) (fun w' hw' => ?_) ?_; rotate_left
        · go_simp <;> first | rfl | exact ⟨rfl, rfl⟩
        simp only [Act.put, List.setIfInBounds_toArray, List.set_cons_zero, List.set_cons_succ]
        refine' wpT_det (o := ⟨some 20, Op.move (Operand.tmp 19), 4, "l06_integers.go:189", #[{ on := 7, ground := Ground.data }, { on := 6, ground := Ground.chain }], none⟩) rfl (by rfl) (by rfl) (fun w' hw' => ?_) ?_; rotate_left
        · go_simp <;> first | rfl | exact ⟨rfl, rfl⟩
        simp only [Act.put, List.setIfInBounds_toArray, List.set_cons_zero, List.set_cons_succ]
        refine wpT_skip (o := ⟨some 21, Op.move (Operand.tmp 5), 3, "l06_integers.go:189", #[{ on := 8, ground := Ground.guard }], some (8, false)⟩) rfl (by rfl) ?_
        simp only [Act.put, List.setIfInBounds_toArray, List.set_cons_zero, List.set_cons_succ]
        refine wpT_skip (o := ⟨some 22, Op.binOp BinOp.gtr 3 (Operand.tmp 21) (Operand.const (Value.int IntKind.i64 0)) 3, 4, "l06_integers.go:189", #[{ on := 9, ground := Ground.data }, { on := 8, ground := Ground.guard }], some (8, false)⟩) rfl (by rfl) ?_
        simp only [Act.put, List.setIfInBounds_toArray, List.set_cons_zero, List.set_cons_succ]
        refine wpT_skip (o := ⟨some 23, Op.move (Operand.tmp 22), 4, "l06_integers.go:189", #[{ on := 10, ground := Ground.data }, { on := 8, ground := Ground.chain }, { on := 8, ground := Ground.guard }], some (8, false)⟩) rfl (by rfl) ?_
        simp only [Act.put, List.setIfInBounds_toArray, List.set_cons_zero, List.set_cons_succ]
        refine wpT_skip (o := ⟨some 24, Op.move (Operand.tmp 0), 26, "l06_integers.go:189", #[{ on := 11, ground := Ground.guard }], some (11, true)⟩) rfl (by rfl) ?_
        simp only [Act.put, List.setIfInBounds_toArray, List.set_cons_zero, List.set_cons_succ]
        refine wpT_skip (o := ⟨some 25, Op.move (Operand.tmp 5), 3, "l06_integers.go:189", #[{ on := 11, ground := Ground.guard }], some (11, true)⟩) rfl (by rfl) ?_
        simp only [Act.put, List.setIfInBounds_toArray, List.set_cons_zero, List.set_cons_succ]
        refine wpT_skip (o := ⟨some 26, Op.indexAddr 26 (Operand.tmp 24) (Operand.tmp 25), 0, "l06_integers.go:189", #[{ on := 12, ground := Ground.data }, { on := 13, ground := Ground.data }, { on := 11, ground := Ground.guard }], some (11, true)⟩) rfl (by rfl) ?_
        simp only [Act.put, List.setIfInBounds_toArray, List.set_cons_zero, List.set_cons_succ]
        refine wpT_skip (o := ⟨some 27, Op.load 2 (Operand.tmp 26), 2, "l06_integers.go:189", #[{ on := 14, ground := Ground.data }, { on := 11, ground := Ground.guard }], some (11, true)⟩) rfl (by rfl) ?_
        simp only [Act.put, List.setIfInBounds_toArray, List.set_cons_zero, List.set_cons_succ]
        refine wpT_skip (o := ⟨some 28, Op.move (Operand.tmp 0), 26, "l06_integers.go:189", #[{ on := 11, ground := Ground.guard }], some (11, true)⟩) rfl (by rfl) ?_
        simp only [Act.put, List.setIfInBounds_toArray, List.set_cons_zero, List.set_cons_succ]
        refine wpT_skip (o := ⟨some 29, Op.move (Operand.tmp 5), 3, "l06_integers.go:189", #[{ on := 11, ground := Ground.guard }], some (11, true)⟩) rfl (by rfl) ?_
        simp only [Act.put, List.setIfInBounds_toArray, List.set_cons_zero, List.set_cons_succ]
        refine wpT_skip (o := ⟨some 30, Op.binOp BinOp.sub 3 (Operand.tmp 29) (Operand.const (Value.int IntKind.i64 1)) 3, 3, "l06_integers.go:189", #[{ on := 17, ground := Ground.data }, { on := 11, ground := Ground.guard }], some (11, true)⟩) rfl (by rfl) ?_
        simp only [Act.put, List.setIfInBounds_toArray, List.set_cons_zero, List.set_cons_succ]
        refine wpT_skip (o := ⟨some 31, Op.indexAddr 26 (Operand.tmp 28) (Operand.tmp 30), 0, "l06_integers.go:189", #[{ on := 16, ground := Ground.data }, { on := 18, ground := Ground.data }, { on := 11, ground := Ground.guard }], some (11, true)⟩) rfl (by rfl) ?_
        simp only [Act.put, List.setIfInBounds_toArray, List.set_cons_zero, List.set_cons_succ]
        refine wpT_skip (o := ⟨some 32, Op.load 2 (Operand.tmp 31), 2, "l06_integers.go:189", #[{ on := 19, ground := Ground.data }, { on := 11, ground := Ground.guard }], some (11, true)⟩) rfl (by rfl) ?_
        simp only [Act.put, List.setIfInBounds_toArray, List.set_cons_zero, List.set_cons_succ]
        refine wpT_skip (o := ⟨some 33, Op.binOp BinOp.leq 2 (Operand.tmp 27) (Operand.tmp 32) 2, 4, "l06_integers.go:189", #[{ on := 15, ground := Ground.data }, { on := 20, ground := Ground.data }, { on := 11, ground := Ground.guard }], some (11, true)⟩) rfl (by rfl) ?_
        simp only [Act.put, List.setIfInBounds_toArray, List.set_cons_zero, List.set_cons_succ]
        refine wpT_skip (o := ⟨some 34, Op.pick (Operand.tmp 23) (Operand.tmp 33) (Operand.const (Value.bool false)), 4, "l06_integers.go:189", #[{ on := 11, ground := Ground.data }, { on := 21, ground := Ground.data }, { on := 8, ground := Ground.guard }], some (8, false)⟩) rfl (by rfl) ?_
        simp only [Act.put, List.setIfInBounds_toArray, List.set_cons_zero, List.set_cons_succ]
        refine' wpT_det (o := ⟨some 35, Op.pick (Operand.tmp 20) (Operand.const (Value.bool true)) (Operand.tmp 34), 4, "l06_integers.go:189", #[{ on := 8, ground := Ground.data }, { on := 22, ground := Ground.data }], none⟩) rfl (by rfl) (by rfl) (fun w' hw' => ?_) ?_; rotate_left
        · go_simp <;> first | rfl | exact ⟨rfl, rfl⟩
        simp only [Act.put, List.setIfInBounds_toArray, List.set_cons_zero, List.set_cons_succ]
        refine wpT_nil (fun w' hw' hF => ?_)
        refine wpList_nil ?_
        go_wp2_with fail
        go_ret
        refine ⟨ret_bool ?_, hx.trans hw'.undrew⟩
        rw [Hres.out, Eq.comm, ← Bool.not_eq_true]
        intro hb
        rw [Bool.and_eq_true] at hb
        have h2 := (setB_iff.1 hb.2).2 k (by have := HL.out; omega)
        rw [← HX.out] at h2
        rw [inR_iff.2 h2] at hin
        cases hin
      | true =>
        by_cases hk0 : k = 0
        · subst hk0
          have hg : decide ((0 : Int) < ((0 : Nat) : Int)) = false := by simp
          have hc0 : wr.cell? ad = some (.int .i64 x) := hc
          go_wp2_with fail
          refine wp_region_T (cs := []) [0, 1, 2, 3, 4, 5, 6, 7, 8, 9, 10, 11, 12, 13, 14, 15, 16, 17, 18, 19, 20, 21, 22, 23] [] [6] [] (fun i__ v => match i__ with | 6 => v = (.bool true) | _ => False) (fun _ _ _ => True) (by kernel_rfl) (by kernel_rfl) (fun _ _ _ _ _ _ => trivial) ?_
          refine' wpT_det (o := ⟨some 12, Op.move (Operand.tmp 0), 26, "l06_integers.go:189", #[], none⟩) rfl (by rfl) (by rfl) (fun w' hw' => ?_) ?_; rotate_left
          · go_simp <;> first | rfl | exact ⟨rfl, rfl⟩
          simp only [Act.put, List.setIfInBounds_toArray, List.set_cons_zero, List.set_cons_succ]
          refine' wpT_det (o := ⟨some 13, Op.move (Operand.tmp 5), 3, "l06_integers.go:189", #[], none⟩) rfl (by rfl) (by rfl) (fun w' hw' => ?_) ?_; rotate_left
          · go_simp <;> first | rfl | exact ⟨rfl, rfl⟩
          simp only [Act.put, List.setIfInBounds_toArray, List.set_cons_zero, List.set_cons_succ]
          refine' wpT_det (o := ⟨some 14, Op.indexAddr 26 (Operand.tmp 12) (Operand.tmp 13), 0, "l06_integers.go:189", #[{ on := 0, ground := Ground.data }, { on := 1, ground := Ground.data }], none⟩) rfl (by rfl) (by rfl) (fun w' hw' => ?_) ?_; rotate_left
          · go_simp <;> first | rfl | exact ⟨rfl, rfl⟩
          simp only [Act.put, List.setIfInBounds_toArray, List.set_cons_zero, List.set_cons_succ]
          refine' wpT_det (o := ⟨some 15, Op.load 2 (Operand.tmp 14), 2, "l06_integers.go:189", #[{ on := 2, ground := Ground.data }], none⟩) rfl (by rfl) (by rfl) (fun w' hw' => ?_) ?_; rotate_left
          · have hc_ := Ext.cell hw' hc; have hc0_ := Ext.cell hw' hc0; go_simp <;> first | rfl | exact ⟨rfl, rfl⟩
          simp only [Act.put, List.setIfInBounds_toArray, List.set_cons_zero, List.set_cons_succ]
          refine' wpT_det (o := ⟨some 16, Op.move (Operand.tmp 1), 2, "l06_integers.go:189", #[], none⟩) rfl (by rfl) (by rfl) (fun w' hw' => ?_) ?_; rotate_left
          · go_simp <;> first | rfl | exact ⟨rfl, rfl⟩
          simp only [Act.put, List.setIfInBounds_toArray, List.set_cons_zero, List.set_cons_succ]
          refine' wpT_det (o := ⟨some 17, Op.binOp BinOp.sub 2 (Operand.tmp 16) (Operand.const (Value.int IntKind.i64 1)) 2, 2, "l06_integers.go:189", #[{ on := 4, ground := Ground.data }], none⟩) rfl (by rfl) (by rfl) (fun w' hw' => ?_) ?_; rotate_left
          · go_simp <;> first | rfl | exact ⟨rfl, rfl⟩
          simp only [Act.put, List.setIfInBounds_toArray, List.set_cons_zero, List.set_cons_succ]
          refine wpT_nd (o := ⟨some 18, Op.call { callee := Callee.value (Operand.func 62), args := #[Operand.tmp 15, Operand.const (Value.int IntKind.i64 0), Operand.tmp 17], argTypes := #[2, 2, 2] }, 4, "l06_integers.go:189", #[{ on := 3, ground := Ground.data }, { on := 5, ground := Ground.data }], none⟩) rfl (by rfl) (by rfl) (fun w' hw' hF R__ hGo => ?_) ⟨_, rfl⟩ ?_
          · go_simp
            refine gives_enter rfl ?_
            refine (l00In_any _ _ _ _).mono ?_
            rintro e w2 ⟨rfl, rfl⟩
            exact ⟨_, rfl, hGo _ _ (Ext.refl _) (congrArg Value.bool hin) trivial⟩
          intro v hv
          obtain rfl : v = (.bool true) := hv
          simp only [Act.put, List.setIfInBounds_toArray, List.set_cons_zero, List.set_cons_succ]
          refine' wpT_det (o := ⟨some 19, Op.unOp UnOp.not 4 (Operand.tmp 18), 4, "l06_integers.go:189", #[{ on := 6, ground := Ground.data }], none⟩) rfl (by rfl) (by rfl) (fun w' hw' => ?_) ?_; rotate_left
          · go_simp <;> first | rfl | exact ⟨rfl, rfl⟩
          simp only [Act.put, List.setIfInBounds_toArray, List.set_cons_zero, List.set_cons_succ]
          refine' wpT_det (o := ⟨some 20, Op.move (Operand.tmp 19), 4, "l06_integers.go:189", #[{ on := 7, ground := Ground.data }, { on := 6, ground := Ground.chain }], none⟩) rfl (by rfl) (by rfl) (fun w' hw' => ?_) ?_; rotate_left
          · go_simp <;> first | rfl | exact ⟨rfl, rfl⟩
          simp only [Act.put, List.setIfInBounds_toArray, List.set_cons_zero, List.set_cons_succ]
          refine' wpT_det (o := ⟨some 21, Op.move (Operand.tmp 5), 3, "l06_integers.go:189", #[{ on := 8, ground := Ground.guard }], some (8, false)⟩) rfl (by rfl) (by rfl) (fun w' hw' => ?_) ?_; rotate_left
          · go_simp <;> first | rfl | exact ⟨rfl, rfl⟩
          simp only [Act.put, List.setIfInBounds_toArray, List.set_cons_zero, List.set_cons_succ]
          refine' wpT_det (o := ⟨some 22, Op.binOp BinOp.gtr 3 (Operand.tmp 21) (Operand.const (Value.int IntKind.i64 0)) 3, 4, "l06_integers.go:189", #[{ on := 9, ground := Ground.data }, { on := 8, ground := Ground.guard }], some (8, false)⟩) rfl (by rfl) (by rfl) (fun w' hw' => ?_) ?_; rotate_left
          · go_simp <;> first | rfl | exact ⟨rfl, rfl⟩
          simp only [Act.put, List.setIfInBounds_toArray, List.set_cons_zero, List.set_cons_succ]
          refine' wpT_det (o := ⟨some 23, Op.move (Operand.tmp 22), 4, "l06_integers.go:189", #[{ on := 10, ground := Ground.data }, { on := 8, ground := Ground.chain }, { on := 8, ground := Ground.guard }], some (8, false)⟩) rfl (by rfl) (by rfl) (fun w' hw' => ?_) ?_; rotate_left
          · go_simp <;> first | rfl | exact ⟨rfl, rfl⟩
          simp only [Act.put, List.setIfInBounds_toArray, List.set_cons_zero, List.set_cons_succ]
          refine wpT_skip (o := ⟨some 24, Op.move (Operand.tmp 0), 26, "l06_integers.go:189", #[{ on := 11, ground := Ground.guard }], some (11, true)⟩) rfl (by rfl) ?_
          simp only [Act.put, List.setIfInBounds_toArray, List.set_cons_zero, List.set_cons_succ]
          refine wpT_skip (o := ⟨some 25, Op.move (Operand.tmp 5), 3, "l06_integers.go:189", #[{ on := 11, ground := Ground.guard }], some (11, true)⟩) rfl (by rfl) ?_
          simp only [Act.put, List.setIfInBounds_toArray, List.set_cons_zero, List.set_cons_succ]
          refine wpT_skip (o := ⟨some 26, Op.indexAddr 26 (Operand.tmp 24) (Operand.tmp 25), 0, "l06_integers.go:189", #[{ on := 12, ground := Ground.data }, { on := 13, ground := Ground.data }, { on := 11, ground := Ground.guard }], some (11, true)⟩) rfl (by rfl) ?_
          simp only [Act.put, List.setIfInBounds_toArray, List.set_cons_zero, List.set_cons_succ]
          refine wpT_skip (o := ⟨some 27, Op.load 2 (Operand.tmp 26), 2, "l06_integers.go:189", #[{ on := 14, ground := Ground.data }, { on := 11, ground := Ground.guard }], some (11, true)⟩) rfl (by rfl) ?_
          simp only [Act.put, List.setIfInBounds_toArray, List.set_cons_zero, List.set_cons_succ]
          refine wpT_skip (o := ⟨some 28, Op.move (Operand.tmp 0), 26, "l06_integers.go:189", #[{ on := 11, ground := Ground.guard }], some (11, true)⟩) rfl (by rfl) ?_
          simp only [Act.put, List.setIfInBounds_toArray, List.set_cons_zero, List.set_cons_succ]
          refine wpT_skip (o := ⟨some 29, Op.move (Operand.tmp 5), 3, "l06_integers.go:189", #[{ on := 11, ground := Ground.guard }], some (11, true)⟩) rfl (by rfl) ?_
          simp only [Act.put, List.setIfInBounds_toArray, List.set_cons_zero, List.set_cons_succ]
          refine wpT_skip (o := ⟨some 30, Op.binOp BinOp.sub 3 (Operand.tmp 29) (Operand.const (Value.int IntKind.i64 1)) 3, 3, "l06_integers.go:189", #[{ on := 17, ground := Ground.data }, { on := 11, ground := Ground.guard }], some (11, true)⟩) rfl (by rfl) ?_
          simp only [Act.put, List.setIfInBounds_toArray, List.set_cons_zero, List.set_cons_succ]
          refine wpT_skip (o := ⟨some 31, Op.indexAddr 26 (Operand.tmp 28) (Operand.tmp 30), 0, "l06_integers.go:189", #[{ on := 16, ground := Ground.data }, { on := 18, ground := Ground.data }, { on := 11, ground := Ground.guard }], some (11, true)⟩) rfl (by rfl) ?_
          simp only [Act.put, List.setIfInBounds_toArray, List.set_cons_zero, List.set_cons_succ]
          refine wpT_skip (o := ⟨some 32, Op.load 2 (Operand.tmp 31), 2, "l06_integers.go:189", #[{ on := 19, ground := Ground.data }, { on := 11, ground := Ground.guard }], some (11, true)⟩) rfl (by rfl) ?_
          simp only [Act.put, List.setIfInBounds_toArray, List.set_cons_zero, List.set_cons_succ]
          refine wpT_skip (o := ⟨some 33, Op.binOp BinOp.leq 2 (Operand.tmp 27) (Operand.tmp 32) 2, 4, "l06_integers.go:189", #[{ on := 15, ground := Ground.data }, { on := 20, ground := Ground.data }, { on := 11, ground := Ground.guard }], some (11, true)⟩) rfl (by rfl) ?_
          simp only [Act.put, List.setIfInBounds_toArray, List.set_cons_zero, List.set_cons_succ]
          refine' wpT_det (o := ⟨some 34, Op.pick (Operand.tmp 23) (Operand.tmp 33) (Operand.const (Value.bool false)), 4, "l06_integers.go:189", #[{ on := 11, ground := Ground.data }, { on := 21, ground := Ground.data }, { on := 8, ground := Ground.guard }], some (8, false)⟩) rfl (by rfl) (by rfl) (fun w' hw' => ?_) ?_; rotate_left
          · go_simp <;> first | rfl | exact ⟨rfl, rfl⟩
          simp only [Act.put, List.setIfInBounds_toArray, List.set_cons_zero, List.set_cons_succ]
          refine' wpT_det (o := ⟨some 35, Op.pick (Operand.tmp 20) (Operand.const (Value.bool true)) (Operand.tmp 34), 4, "l06_integers.go:189", #[{ on := 8, ground := Ground.data }, { on := 22, ground := Ground.data }], none⟩) rfl (by rfl) (by rfl) (fun w' hw' => ?_) ?_; rotate_left
          · go_simp <;> first | rfl | exact ⟨rfl, rfl⟩
          simp only [Act.put, List.setIfInBounds_toArray, List.set_cons_zero, List.set_cons_succ]
          refine wpT_nil (fun w' hw' hF => ?_)
          refine wpList_nil ?_
          go_wp2_with fail
          go_roundw
          case rel => exact ⟨1, by omega, by go_num, ⟨fun j hj => (by obtain rfl : j = 0 := (by omega); rw [← HX.out]; exact hin), fun j hj => (by omega)⟩, hx.trans hw'.undrew⟩
          case measure => simp [intOf]; omega
        · obtain ⟨m, rfl⟩ : ∃ m, k = m + 1 := ⟨k - 1, by omega⟩
          obtain ⟨ad', had, hc'⟩ := (hr.below hx).intN m (by omega)
          obtain rfl := Option.some.inj had
          obtain ⟨y, hyy⟩ : ∃ y, y = rd xs (m : Nat) := ⟨_, rfl⟩
          rw [← hyy] at hc'
          have HY := Lib.hid hyy
          clear hyy had hk0
          have hm0 : m < n := by omega
          have hg : decide ((0 : Int) < ((m + 1 : Nat) : Int)) = true := decide_eq_true (by omega)
          have hg2 : decide ((0 : Int) < (m : Int) + 1) = true := decide_eq_true (by omega)
          have hg3 : (0 : Int) < (m : Int) + 1 := by omega
          have w1 : IntKind.i64.wrap (m : Int) = m := IntWalk.i64_in _ (by omega)
          have t1 : ((m : Int) + 1).toNat = m + 1 := by omega
          have hlt' : (m : Int) + 1 < n := by omega
          have hc2 : wr.cell? ⟨ad.block, ad.off + (m + 1), none⟩ = some (.int .i64 x) := by simpa [Addr.add] using hc
          by_cases he : y < x
          · have he' : decide (x ≤ y) = false := by simp; omega
            go_wp2_with fail
            refine wp_region_T (cs := []) [0, 1, 2, 3, 4, 5, 6, 7, 8, 9, 10, 11, 12, 13, 14, 15, 16, 17, 18, 19, 20, 21, 22, 23] [] [6] [] (fun i__ v => match i__ with | 6 => v = (.bool true) | _ => False) (fun _ _ _ => True) (by kernel_rfl) (by kernel_rfl) (fun _ _ _ _ _ _ => trivial) ?_
            refine' wpT_det (o := ⟨some 12, Op.move (Operand.tmp 0), 26, "l06_integers.go:189", #[], none⟩) rfl (by rfl) (by rfl) (fun w' hw' => ?_) ?_; rotate_left
            · go_simp <;> first | rfl | exact ⟨rfl, rfl⟩
            simp only [Act.put, List.setIfInBounds_toArray, List.set_cons_zero, List.set_cons_succ]
            refine' wpT_det (o := ⟨some 13, Op.move (Operand.tmp 5), 3, "l06_integers.go:189", #[], none⟩) rfl (by rfl) (by rfl) (fun w' hw' => ?_) ?_; rotate_left
            · go_simp <;> first | rfl | exact ⟨rfl, rfl⟩
            simp only [Act.put, List.setIfInBounds_toArray, List.set_cons_zero, List.set_cons_succ]
            refine' wpT_det (o := ⟨some 14, Op.indexAddr 26 (Operand.tmp 12) (Operand.tmp 13), 0, "l06_integers.go:189", #[{ on := 0, ground := Ground.data }, { on := 1, ground := Ground.data }], none⟩) rfl (by rfl) (by rfl) (fun w' hw' => ?_) ?_; rotate_left
            · go_simp <;> first | rfl | exact ⟨rfl, rfl⟩
            simp only [Act.put, List.setIfInBounds_toArray, List.set_cons_zero, List.set_cons_succ]
            refine' wpT_det (o := ⟨some 15, Op.load 2 (Operand.tmp 14), 2, "l06_integers.go:189", #[{ on := 2, ground := Ground.data }], none⟩) rfl (by rfl) (by rfl) (fun w' hw' => ?_) ?_; rotate_left
            · have hc_ := Ext.cell hw' hc; have hc'_ := Ext.cell hw' hc'; have hc2_ := Ext.cell hw' hc2; go_simp <;> first | rfl | exact ⟨rfl, rfl⟩
            simp only [Act.put, List.setIfInBounds_toArray, List.set_cons_zero, List.set_cons_succ]
            refine' wpT_det (o := ⟨some 16, Op.move (Operand.tmp 1), 2, "l06_integers.go:189", #[], none⟩) rfl (by rfl) (by rfl) (fun w' hw' => ?_) ?_; rotate_left
            · go_simp <;> first | rfl | exact ⟨rfl, rfl⟩
            simp only [Act.put, List.setIfInBounds_toArray, List.set_cons_zero, List.set_cons_succ]
            refine' wpT_det (o := ⟨some 17, Op.binOp BinOp.sub 2 (Operand.tmp 16) (Operand.const (Value.int IntKind.i64 1)) 2, 2, "l06_integers.go:189", #[{ on := 4, ground := Ground.data }], none⟩) rfl (by rfl) (by rfl) (fun w' hw' => ?_) ?_; rotate_left
            · go_simp <;> first | rfl | exact ⟨rfl, rfl⟩
            simp only [Act.put, List.setIfInBounds_toArray, List.set_cons_zero, List.set_cons_succ]
            refine wpT_nd (o := ⟨some 18, Op.call { callee := Callee.value (Operand.func 62), args := #[Operand.tmp 15, Operand.const (Value.int IntKind.i64 0), Operand.tmp 17], argTypes := #[2, 2, 2] }, 4, "l06_integers.go:189", #[{ on := 3, ground := Ground.data }, { on := 5, ground := Ground.data }], none⟩) rfl (by rfl) (by rfl) (fun w' hw' hF R__ hGo => ?_) ⟨_, rfl⟩ ?_
            · go_simp
              refine gives_enter rfl ?_
              refine (l00In_any _ _ _ _).mono ?_
              rintro e w2 ⟨rfl, rfl⟩
              exact ⟨_, rfl, hGo _ _ (Ext.refl _) (congrArg Value.bool hin) trivial⟩
            intro v hv
            obtain rfl : v = (.bool true) := hv
            simp only [Act.put, List.setIfInBounds_toArray, List.set_cons_zero, List.set_cons_succ]
            refine' wpT_det (o := ⟨some 19, Op.unOp UnOp.not 4 (Operand.tmp 18), 4, "l06_integers.go:189", #[{ on := 6, ground := Ground.data }], none⟩) rfl (by rfl) (by rfl) (fun w' hw' => ?_) ?_; rotate_left
            · go_simp <;> first | rfl | exact ⟨rfl, rfl⟩
            simp only [Act.put, List.setIfInBounds_toArray, List.set_cons_zero, List.set_cons_succ]
            refine' wpT_det (o := ⟨some 20, Op.move (Operand.tmp 19), 4, "l06_integers.go:189", #[{ on := 7, ground := Ground.data }, { on := 6, ground := Ground.chain }], none⟩) rfl (by rfl) (by rfl) (fun w' hw' => ?_) ?_; rotate_left
            · go_simp <;> first | rfl | exact ⟨rfl, rfl⟩
            simp only [Act.put, List.setIfInBounds_toArray, List.set_cons_zero, List.set_cons_succ]
            refine' wpT_det (o := ⟨some 21, Op.move (Operand.tmp 5), 3, "l06_integers.go:189", #[{ on := 8, ground := Ground.guard }], some (8, false)⟩) rfl (by rfl) (by rfl) (fun w' hw' => ?_) ?_; rotate_left
            · go_simp <;> first | rfl | exact ⟨rfl, rfl⟩
            simp only [Act.put, List.setIfInBounds_toArray, List.set_cons_zero, List.set_cons_succ]
            refine' wpT_det (o := ⟨some 22, Op.binOp BinOp.gtr 3 (Operand.tmp 21) (Operand.const (Value.int IntKind.i64 0)) 3, 4, "l06_integers.go:189", #[{ on := 9, ground := Ground.data }, { on := 8, ground := Ground.guard }], some (8, false)⟩) rfl (by rfl) (by rfl) (fun w' hw' => ?_) ?_; rotate_left
            · go_simp <;> first | rfl | exact ⟨rfl, rfl⟩
            simp only [Act.put, List.setIfInBounds_toArray, List.set_cons_zero, List.set_cons_succ]
            refine' wpT_det (o := ⟨some 23, Op.move (Operand.tmp 22), 4, "l06_integers.go:189", #[{ on := 10, ground := Ground.data }, { on := 8, ground := Ground.chain }, { on := 8, ground := Ground.guard }], some (8, false)⟩) rfl (by rfl) (by rfl) (fun w' hw' => ?_) ?_; rotate_left
            · go_simp <;> first | rfl | exact ⟨rfl, rfl⟩
            simp only [Act.put, List.setIfInBounds_toArray, List.set_cons_zero, List.set_cons_succ]
            refine' wpT_det (o := ⟨some 24, Op.move (Operand.tmp 0), 26, "l06_integers.go:189", #[{ on := 11, ground := Ground.guard }], some (11, true)⟩) rfl (by rfl) (by rfl) (fun w' hw' => ?_) ?_; rotate_left
            · go_simp <;> first | rfl | exact ⟨rfl, rfl⟩
            simp only [Act.put, List.setIfInBounds_toArray, List.set_cons_zero, List.set_cons_succ]
            refine' wpT_det (o := ⟨some 25, Op.move (Operand.tmp 5), 3, "l06_integers.go:189", #[{ on := 11, ground := Ground.guard }], some (11, true)⟩) rfl (by rfl) (by rfl) (fun w' hw' => ?_) ?_; rotate_left
            · go_simp <;> first | rfl | exact ⟨rfl, rfl⟩
            simp only [Act.put, List.setIfInBounds_toArray, List.set_cons_zero, List.set_cons_succ]
            refine' wpT_det (o := ⟨some 26, Op.indexAddr 26 (Operand.tmp 24) (Operand.tmp 25), 0, "l06_integers.go:189", #[{ on := 12, ground := Ground.data }, { on := 13, ground := Ground.data }, { on := 11, ground := Ground.guard }], some (11, true)⟩) rfl (by rfl) (by rfl) (fun w' hw' => ?_) ?_; rotate_left
            · go_simp <;> first | rfl | exact ⟨rfl, rfl⟩
            simp only [Act.put, List.setIfInBounds_toArray, List.set_cons_zero, List.set_cons_succ]
            refine' wpT_det (o := ⟨some 27, Op.load 2 (Operand.tmp 26), 2, "l06_integers.go:189", #[{ on := 14, ground := Ground.data }, { on := 11, ground := Ground.guard }], some (11, true)⟩) rfl (by rfl) (by rfl) (fun w' hw' => ?_) ?_; rotate_left
            · have hc_ := Ext.cell hw' hc; have hc'_ := Ext.cell hw' hc'; have hc2_ := Ext.cell hw' hc2; go_simp <;> first | rfl | exact ⟨rfl, rfl⟩
            simp only [Act.put, List.setIfInBounds_toArray, List.set_cons_zero, List.set_cons_succ]
            refine' wpT_det (o := ⟨some 28, Op.move (Operand.tmp 0), 26, "l06_integers.go:189", #[{ on := 11, ground := Ground.guard }], some (11, true)⟩) rfl (by rfl) (by rfl) (fun w' hw' => ?_) ?_; rotate_left
            · go_simp <;> first | rfl | exact ⟨rfl, rfl⟩
            simp only [Act.put, List.setIfInBounds_toArray, List.set_cons_zero, List.set_cons_succ]
            refine' wpT_det (o := ⟨some 29, Op.move (Operand.tmp 5), 3, "l06_integers.go:189", #[{ on := 11, ground := Ground.guard }], some (11, true)⟩) rfl (by rfl) (by rfl) (fun w' hw' => ?_) ?_; rotate_left
            · go_simp <;> first | rfl | exact ⟨rfl, rfl⟩
            simp only [Act.put, List.setIfInBounds_toArray, List.set_cons_zero, List.set_cons_succ]
            refine' wpT_det (o := ⟨some 30, Op.binOp BinOp.sub 3 (Operand.tmp 29) (Operand.const (Value.int IntKind.i64 1)) 3, 3, "l06_integers.go:189", #[{ on := 17, ground := Ground.data }, { on := 11, ground := Ground.guard }], some (11, true)⟩) rfl (by rfl) (by rfl) (fun w' hw' => ?_) ?_; rotate_left
            · go_simp <;> first | rfl | exact ⟨rfl, rfl⟩
            simp only [Act.put, List.setIfInBounds_toArray, List.set_cons_zero, List.set_cons_succ]
            refine' wpT_det (o := ⟨some 31, Op.indexAddr 26 (Operand.tmp 28) (Operand.tmp 30), 0, "l06_integers.go:189", #[{ on := 16, ground := Ground.data }, { on := 18, ground := Ground.data }, { on := 11, ground := Ground.guard }], some (11, true)⟩) rfl (by rfl) (by rfl) (fun w' hw' => ?_) ?_; rotate_left
            · go_simp <;> first | rfl | exact ⟨rfl, rfl⟩
            simp only [Act.put, List.setIfInBounds_toArray, List.set_cons_zero, List.set_cons_succ]
            refine' wpT_det (o := ⟨some 32, Op.load 2 (Operand.tmp 31), 2, "l06_integers.go:189", #[{ on := 19, ground := Ground.data }, { on := 11, ground := Ground.guard }], some (11, true)⟩) rfl (by rfl) (by rfl) (fun w' hw' => ?_) ?_; rotate_left
            · have hc_ := Ext.cell hw' hc; have hc'_ := Ext.cell hw' hc'; have hc2_ := Ext.cell hw' hc2; go_simp <;> first | rfl | exact ⟨rfl, rfl⟩
            simp only [Act.put, List.setIfInBounds_toArray, List.set_cons_zero, List.set_cons_succ]
            refine' wpT_det (o := ⟨some 33, Op.binOp BinOp.leq 2 (Operand.tmp 27) (Operand.tmp 32) 2, 4, "l06_integers.go:189", #[{ on := 15, ground := Ground.data }, { on := 20, ground := Ground.data }, { on := 11, ground := Ground.guard }], some (11, true)⟩) rfl (by rfl) (by rfl) (fun w' hw' => ?_) ?_; rotate_left
            · go_simp <;> first | rfl | exact ⟨rfl, rfl⟩
            simp only [Act.put, List.setIfInBounds_toArray, List.set_cons_zero, List.set_cons_succ]
            refine' wpT_det (o := ⟨some 34, Op.pick (Operand.tmp 23) (Operand.tmp 33) (Operand.const (Value.bool false)), 4, "l06_integers.go:189", #[{ on := 11, ground := Ground.data }, { on := 21, ground := Ground.data }, { on := 8, ground := Ground.guard }], some (8, false)⟩) rfl (by rfl) (by rfl) (fun w' hw' => ?_) ?_; rotate_left
            · go_simp <;> first | rfl | exact ⟨rfl, rfl⟩
            simp only [Act.put, List.setIfInBounds_toArray, List.set_cons_zero, List.set_cons_succ]
            refine' wpT_det (o := ⟨some 35, Op.pick (Operand.tmp 20) (Operand.const (Value.bool true)) (Operand.tmp 34), 4, "l06_integers.go:189", #[{ on := 8, ground := Ground.data }, { on := 22, ground := Ground.data }], none⟩) rfl (by rfl) (by rfl) (fun w' hw' => ?_) ?_; rotate_left
            · go_simp <;> first | rfl | exact ⟨rfl, rfl⟩
            simp only [Act.put, List.setIfInBounds_toArray, List.set_cons_zero, List.set_cons_succ]
            refine wpT_nil (fun w' hw' hF => ?_)
            refine wpList_nil ?_
            go_wp2_with fail
            go_roundw
            case rel => exact ⟨m + 1 + 1, by omega, by go_num, ⟨fun j hj => if e : j = m + 1 then (by subst e; rw [← HX.out]; exact hin) else hup.out.1 j (by omega), fun j hj => if e : j = m then (by subst e; rw [rd_cast, ← HX.out, ← HY.out]; exact he) else hup.out.2 j (by omega)⟩, hx.trans hw'.undrew⟩
            case measure => simp [intOf]; omega
          · have he' : decide (x ≤ y) = true := by simp; omega
            go_wp2_with fail
            refine wp_region_T (cs := []) [0, 1, 2, 3, 4, 5, 6, 7, 8, 9, 10, 11, 12, 13, 14, 15, 16, 17, 18, 19, 20, 21, 22, 23] [] [6] [] (fun i__ v => match i__ with | 6 => v = (.bool true) | _ => False) (fun _ _ _ => True) (by kernel_rfl) (by kernel_rfl) (fun _ _ _ _ _ _ => trivial) ?_
            refine' wpT_det (o := ⟨some 12, Op.move (Operand.tmp 0), 26, "l06_integers.go:189", #[], none⟩) rfl (by rfl) (by rfl) (fun w' hw' => ?_) ?_; rotate_left
            · go_simp <;> first | rfl | exact ⟨rfl, rfl⟩
            simp only [Act.put, List.setIfInBounds_toArray, List.set_cons_zero, List.set_cons_succ]
            refine' wpT_det (o := ⟨some 13, Op.move (Operand.tmp 5), 3, "l06_integers.go:189", #[], none⟩) rfl (by rfl) (by rfl) (fun w' hw' => ?_) ?_; rotate_left
            · go_simp <;> first | rfl | exact ⟨rfl, rfl⟩
            simp only [Act.put, List.setIfInBounds_toArray, List.set_cons_zero, List.set_cons_succ]
            refine' wpT_det (o := ⟨some 14, Op.indexAddr 26 (Operand.tmp 12) (Operand.tmp 13), 0, "l06_integers.go:189", #[{ on := 0, ground := Ground.data }, { on := 1, ground := Ground.data }], none⟩) rfl (by rfl) (by rfl) (fun w' hw' => ?_) ?_; rotate_left
            · go_simp <;> first | rfl | exact ⟨rfl, rfl⟩
            simp only [Act.put, List.setIfInBounds_toArray, List.set_cons_zero, List.set_cons_succ]
            refine' wpT_det (o := ⟨some 15, Op.load 2 (Operand.tmp 14), 2, "l06_integers.go:189", #[{ on := 2, ground := Ground.data }], none⟩) rfl (by rfl) (by rfl) (fun w' hw' => ?_) ?_; rotate_left
            · have hc_ := Ext.cell hw' hc; have hc'_ := Ext.cell hw' hc'; have hc2_ := Ext.cell hw' hc2; go_simp <;> first | rfl | exact ⟨rfl, rfl⟩
            simp only [Act.put, List.setIfInBounds_toArray, List.set_cons_zero, List.set_cons_succ]
            refine' wpT_det (o := ⟨some 16, Op.move (Operand.tmp 1), 2, "l06_integers.go:189", #[], none⟩) rfl (by rfl) (by rfl) (fun w' hw' => ?_) ?_; rotate_left
            · go_simp <;> first | rfl | exact ⟨rfl, rfl⟩
            simp only [Act.put, List.setIfInBounds_toArray, List.set_cons_zero, List.set_cons_succ]
            refine' wpT_det (o := ⟨some 17, Op.binOp BinOp.sub 2 (Operand.tmp 16) (Operand.const (Value.int IntKind.i64 1)) 2, 2, "l06_integers.go:189", #[{ on := 4, ground := Ground.data }], none⟩) rfl (by rfl) (by rfl) (fun w' hw' => ?_) ?_; rotate_left
            · go_simp <;> first | rfl | exact ⟨rfl, rfl⟩
            simp only [Act.put, List.setIfInBounds_toArray, List.set_cons_zero, List.set_cons_succ]
            refine wpT_nd (o := ⟨some 18, Op.call { callee := Callee.value (Operand.func 62), args := #[Operand.tmp 15, Operand.const (Value.int IntKind.i64 0), Operand.tmp 17], argTypes := #[2, 2, 2] }, 4, "l06_integers.go:189", #[{ on := 3, ground := Ground.data }, { on := 5, ground := Ground.data }], none⟩) rfl (by rfl) (by rfl) (fun w' hw' hF R__ hGo => ?_) ⟨_, rfl⟩ ?_
            · go_simp
              refine gives_enter rfl ?_
              refine (l00In_any _ _ _ _).mono ?_
              rintro e w2 ⟨rfl, rfl⟩
              exact ⟨_, rfl, hGo _ _ (Ext.refl _) (congrArg Value.bool hin) trivial⟩
            intro v hv
            obtain rfl : v = (.bool true) := hv
            simp only [Act.put, List.setIfInBounds_toArray, List.set_cons_zero, List.set_cons_succ]
            refine' wpT_det (o := ⟨some 19, Op.unOp UnOp.not 4 (Operand.tmp 18), 4, "l06_integers.go:189", #[{ on := 6, ground := Ground.data }], none⟩) rfl (by rfl) (by rfl) (fun w' hw' => ?_) ?_; rotate_left
            · go_simp <;> first | rfl | exact ⟨rfl, rfl⟩
            simp only [Act.put, List.setIfInBounds_toArray, List.set_cons_zero, List.set_cons_succ]
            refine' wpT_det (o := ⟨some 20, Op.move (Operand.tmp 19), 4, "l06_integers.go:189", #[{ on := 7, ground := Ground.data }, { on := 6, ground := Ground.chain }], none⟩) rfl (by rfl) (by rfl) (fun w' hw' => ?_) ?_; rotate_left
            · go_simp <;> first | rfl | exact ⟨rfl, rfl⟩
            simp only [Act.put, List.setIfInBounds_toArray, List.set_cons_zero, List.set_cons_succ]
            refine' wpT_det (o := ⟨some 21, Op.move (Operand.tmp 5), 3, "l06_integers.go:189", #[{ on := 8, ground := Ground.guard }], some (8, false)⟩) rfl (by rfl) (by rfl) (fun w' hw' => ?_) ?_; rotate_left
            · go_simp <;> first | rfl | exact ⟨rfl, rfl⟩
            simp only [Act.put, List.setIfInBounds_toArray, List.set_cons_zero, List.set_cons_succ]
            refine' wpT_det (o := ⟨some 22, Op.binOp BinOp.gtr 3 (Operand.tmp 21) (Operand.const (Value.int IntKind.i64 0)) 3, 4, "l06_integers.go:189", #[{ on := 9, ground := Ground.data }, { on := 8, ground := Ground.guard }], some (8, false)⟩) rfl (by rfl) (by rfl) (fun w' hw' => ?_) ?_; rotate_left
            · go_simp <;> first | rfl | exact ⟨rfl, rfl⟩
            simp only [Act.put, List.setIfInBounds_toArray, List.set_cons_zero, List.set_cons_succ]
            refine' wpT_det (o := ⟨some 23, Op.move (Operand.tmp 22), 4, "l06_integers.go:189", #[{ on := 10, ground := Ground.data }, { on := 8, ground := Ground.chain }, { on := 8, ground := Ground.guard }], some (8, false)⟩) rfl (by rfl) (by rfl) (fun w' hw' => ?_) ?_; rotate_left
            · go_simp <;> first | rfl | exact ⟨rfl, rfl⟩
            simp only [Act.put, List.setIfInBounds_toArray, List.set_cons_zero, List.set_cons_succ]
            refine' wpT_det (o := ⟨some 24, Op.move (Operand.tmp 0), 26, "l06_integers.go:189", #[{ on := 11, ground := Ground.guard }], some (11, true)⟩) rfl (by rfl) (by rfl) (fun w' hw' => ?_) ?_; rotate_left
            · go_simp <;> first | rfl | exact ⟨rfl, rfl⟩
            simp only [Act.put, List.setIfInBounds_toArray, List.set_cons_zero, List.set_cons_succ]
            refine' wpT_det (o := ⟨some 25, Op.move (Operand.tmp 5), 3, "l06_integers.go:189", #[{ on := 11, ground := Ground.guard }], some (11, true)⟩) rfl (by rfl) (by rfl) (fun w' hw' => ?_) ?_; rotate_left
            · go_simp <;> first | rfl | exact ⟨rfl, rfl⟩
            simp only [Act.put, List.setIfInBounds_toArray, List.set_cons_zero, List.set_cons_succ]
            refine' wpT_det (o := ⟨some 26, Op.indexAddr 26 (Operand.tmp 24) (Operand.tmp 25), 0, "l06_integers.go:189", #[{ on := 12, ground := Ground.data }, { on := 13, ground := Ground.data }, { on := 11, ground := Ground.guard }], some (11, true)⟩) rfl (by rfl) (by rfl) (fun w' hw' => ?_) ?_; rotate_left
            · go_simp <;> first | rfl | exact ⟨rfl, rfl⟩
            simp only [Act.put, List.setIfInBounds_toArray, List.set_cons_zero, List.set_cons_succ]
            refine' wpT_det (o := ⟨some 27, Op.load 2 (Operand.tmp 26), 2, "l06_integers.go:189", #[{ on := 14, ground := Ground.data }, { on := 11, ground := Ground.guard }], some (11, true)⟩) rfl (by rfl) (by rfl) (fun w' hw' => ?_) ?_; rotate_left
            · have hc_ := Ext.cell hw' hc; have hc'_ := Ext.cell hw' hc'; have hc2_ := Ext.cell hw' hc2; go_simp <;> first | rfl | exact ⟨rfl, rfl⟩
            simp only [Act.put, List.setIfInBounds_toArray, List.set_cons_zero, List.set_cons_succ]
            refine' wpT_det (o := ⟨some 28, Op.move (Operand.tmp 0), 26, "l06_integers.go:189", #[{ on := 11, ground := Ground.guard }], some (11, true)⟩) rfl (by rfl) (by rfl) (fun w' hw' => ?_) ?_; rotate_left
            · go_simp <;> first | rfl | exact ⟨rfl, rfl⟩
            simp only [Act.put, List.setIfInBounds_toArray, List.set_cons_zero, List.set_cons_succ]
            refine' wpT_det (o := ⟨some 29, Op.move (Operand.tmp 5), 3, "l06_integers.go:189", #[{ on := 11, ground := Ground.guard }], some (11, true)⟩) rfl (by rfl) (by rfl) (fun w' hw' => ?_) ?_; rotate_left
            · go_simp <;> first | rfl | exact ⟨rfl, rfl⟩
            simp only [Act.put, List.setIfInBounds_toArray, List.set_cons_zero, List.set_cons_succ]
            refine' wpT_det (o := ⟨some 30, Op.binOp BinOp.sub 3 (Operand.tmp 29) (Operand.const (Value.int IntKind.i64 1)) 3, 3, "l06_integers.go:189", #[{ on := 17, ground := Ground.data }, { on := 11, ground := Ground.guard }], some (11, true)⟩) rfl (by rfl) (by rfl) (fun w' hw' => ?_) ?_; rotate_left
            · go_simp <;> first | rfl | exact ⟨rfl, rfl⟩
            simp only [Act.put, List.setIfInBounds_toArray, List.set_cons_zero, List.set_cons_succ]
            refine' wpT_det (o := ⟨some 31, Op.indexAddr 26 (Operand.tmp 28) (Operand.tmp 30), 0, "l06_integers.go:189", #[{ on := 16, ground := Ground.data }, { on := 18, ground := Ground.data }, { on := 11, ground := Ground.guard }], some (11, true)⟩) rfl (by rfl) (by rfl) (fun w' hw' => ?_) ?_; rotate_left
            · go_simp <;> first | rfl | exact ⟨rfl, rfl⟩
            simp only [Act.put, List.setIfInBounds_toArray, List.set_cons_zero, List.set_cons_succ]
            refine' wpT_det (o := ⟨some 32, Op.load 2 (Operand.tmp 31), 2, "l06_integers.go:189", #[{ on := 19, ground := Ground.data }, { on := 11, ground := Ground.guard }], some (11, true)⟩) rfl (by rfl) (by rfl) (fun w' hw' => ?_) ?_; rotate_left
            · have hc_ := Ext.cell hw' hc; have hc'_ := Ext.cell hw' hc'; have hc2_ := Ext.cell hw' hc2; go_simp <;> first | rfl | exact ⟨rfl, rfl⟩
            simp only [Act.put, List.setIfInBounds_toArray, List.set_cons_zero, List.set_cons_succ]
            refine' wpT_det (o := ⟨some 33, Op.binOp BinOp.leq 2 (Operand.tmp 27) (Operand.tmp 32) 2, 4, "l06_integers.go:189", #[{ on := 15, ground := Ground.data }, { on := 20, ground := Ground.data }, { on := 11, ground := Ground.guard }], some (11, true)⟩) rfl (by rfl) (by rfl) (fun w' hw' => ?_) ?_; rotate_left
            · go_simp <;> first | rfl | exact ⟨rfl, rfl⟩
            simp only [Act.put, List.setIfInBounds_toArray, List.set_cons_zero, List.set_cons_succ]
            refine' wpT_det (o := ⟨some 34, Op.pick (Operand.tmp 23) (Operand.tmp 33) (Operand.const (Value.bool false)), 4, "l06_integers.go:189", #[{ on := 11, ground := Ground.data }, { on := 21, ground := Ground.data }, { on := 8, ground := Ground.guard }], some (8, false)⟩) rfl (by rfl) (by rfl) (fun w' hw' => ?_) ?_; rotate_left
            · go_simp <;> first | rfl | exact ⟨rfl, rfl⟩
            simp only [Act.put, List.setIfInBounds_toArray, List.set_cons_zero, List.set_cons_succ]
            refine' wpT_det (o := ⟨some 35, Op.pick (Operand.tmp 20) (Operand.const (Value.bool true)) (Operand.tmp 34), 4, "l06_integers.go:189", #[{ on := 8, ground := Ground.data }, { on := 22, ground := Ground.data }], none⟩) rfl (by rfl) (by rfl) (fun w' hw' => ?_) ?_; rotate_left
            · go_simp <;> first | rfl | exact ⟨rfl, rfl⟩
            simp only [Act.put, List.setIfInBounds_toArray, List.set_cons_zero, List.set_cons_succ]
            refine wpT_nil (fun w' hw' hF => ?_)
            refine wpList_nil ?_
            go_wp2_with fail
            go_ret
            refine ⟨ret_bool ?_, hx.trans hw'.undrew⟩
            rw [Hres.out, Eq.comm, ← Bool.not_eq_true]
            intro hb
            rw [Bool.and_eq_true] at hb
            have h2 := (setB_iff.1 hb.2).1 m (by have := HL.out; omega)
            rw [rd_cast, ← HX.out, ← HY.out] at h2
            omega
    · obtain rfl : k = n := by omega
      have hset : setB xs N = true := by
        rw [setB_iff]
        have := HL.out
        exact ⟨fun j hj => hup.out.2 j (by omega), fun j hj => inR_iff.1 (hup.out.1 j (by omega))⟩
      have HSet := Lib.hid hset
      clear hset
      go_wp2_with fail
      go_ret
      refine ⟨ret_bool ?_, hx⟩
      rw [Hres.out, HSet.out]
      simp

end Go.Proofs.Ytcfimkjkolgboaa
