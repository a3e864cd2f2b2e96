import Derived.Test.YtcfimkjkolgboaaB3
set_option linter.unusedVariables false
set_option linter.unusedSimpArgs false
namespace Go.Proofs.Ytcfimkjkolgboaa
open Go.RowKit

theorem max_i64 (ts : Array TypeId) (t : TypeId) (a b : Int) : Builtin.max_ ts t #[.int .i64 a, .int .i64 b] = pure (.int .i64 (if b > a then b else a)) := by
  simp [Builtin.max_, Builtin.max2]

/-- The greatest number that divides both. -/
def gcdI (a b : Int) : Int := (Nat.gcd a.natAbs b.natAbs : Nat)
theorem gcdI_zero (a : Int) : gcdI a 0 = if a < 0 then -a else a := by
  unfold gcdI
  simp only [Int.natAbs_zero, Nat.gcd_zero_right]
  split <;> omega
theorem gcdI_step (a b : Int) : gcdI b (a.tmod b) = gcdI a b := by
  unfold gcdI
  rw [Int.natAbs_tmod, Nat.gcd_comm b.natAbs (a.natAbs % b.natAbs), ← Nat.gcd_rec, Nat.gcd_comm]
theorem gcdI_le {a b : Int} (h : a ≠ 0 ∨ b ≠ 0) (h0 : -1000000 ≤ a ∧ a ≤ 1000000) (h1 : -1000000 ≤ b ∧ b ≤ 1000000) : 0 ≤ gcdI a b ∧ gcdI a b ≤ 1000000 := by
  unfold gcdI
  refine ⟨by omega, ?_⟩
  by_cases ha : a = 0
  · have := Nat.gcd_le_right a.natAbs (n := b.natAbs) (by omega)
    omega
  · have := Nat.gcd_le_left b.natAbs (m := a.natAbs) (by omega)
    omega
theorem gcdI_bd {a b : Int} (h0 : -1000000 ≤ a ∧ a ≤ 1000000) (h1 : -1000000 ≤ b ∧ b ≤ 1000000) : 0 ≤ gcdI a b ∧ gcdI a b ≤ 1000000 := by
  by_cases h : a ≠ 0 ∨ b ≠ 0
  · exact gcdI_le h h0 h1
  · have e1 : a = 0 := by omega
    have e2 : b = 0 := by omega
    subst e1 e2
    decide

theorem tmod_bd {a b : Int} (hb : b ≠ 0) (h1 : -1000000 ≤ b ∧ b ≤ 1000000) : -1000000 ≤ a.tmod b ∧ a.tmod b ≤ 1000000 ∧ (a.tmod b).natAbs < b.natAbs := by
  have hl : (a.tmod b).natAbs < b.natAbs := by
    rw [Int.natAbs_tmod]
    exact Nat.mod_lt _ (by omega)
  omega

set_option maxHeartbeats 1000000 in
theorem l06Gcd_any (a b : Int) (h0 : -1000000 ≤ a ∧ a ≤ 1000000) (h1 : -1000000 ≤ b ∧ b ≤ 1000000) (w : World) :
    Calls Try.prog 63 #[.int .i64 a, .int .i64 b] w fun e w' => e = .returned (.int .i64 (gcdI a b)) ∧ Ext w w' := by
  obtain ⟨res, hres⟩ : ∃ res, res = gcdI a b := ⟨_, rfl⟩
  rw [← hres]
  have Hres := Lib.hid hres
  clear hres
  go_enter Try.func63, Try.ntmps63
  go_wp2_with fail
  go_loopw [0, 1] (fun u v wr => ∃ x y : Int, u = .int .i64 x ∧ v = .int .i64 y ∧ (-1000000 ≤ x ∧ x ≤ 1000000) ∧ (-1000000 ≤ y ∧ y ≤ 1000000) ∧ Hid (res = gcdI x y) ∧ Ext w wr) (fun _ v _ => (intOf v).natAbs)
  case atStart => exact ⟨a, b, rfl, rfl, h0, h1, Hres, Ext.refl _⟩
  case round =>
    obtain ⟨x, y, rfl, rfl, hx, hy, hg, he⟩ := hrel
    clear Hres h0 h1
    by_cases hz : y = 0
    · subst hz
      have e0 := gcdI_zero x
      have E0 := Lib.hid e0
      clear e0
      by_cases hneg : x < 0
      all_goals
        go_wp2_with fail
        go_ret
        refine ⟨ret_int ?_, he⟩
        rw [hg.out, E0.out]
        first | rw [if_pos hneg] | rw [if_neg (by omega)]
    · have hz' : (y != 0) = true := by simpa using hz
      have hz'' : (y == 0) = false := by simpa using hz
      obtain ⟨t1, t2, t3⟩ := tmod_bd (a := x) hz hy
      have hs := gcdI_step x y
      have HS := Lib.hid hs
      clear hs
      go_wp2_with fail
      go_roundw
      case rel => exact ⟨y, x.tmod y, rfl, rfl, hy, ⟨t1, t2⟩, by show res = _; rw [HS.out]; exact hg.out, he⟩
      case measure => show (x.tmod y).natAbs < y.natAbs; exact t3

attribute [local go_sem] max_i64
set_option maxHeartbeats 1000000 in
theorem gcd_any (a b : Int) (h0 : -1000000 ≤ a ∧ a ≤ 1000000) (h1 : -1000000 ≤ b ∧ b ≤ 1000000) (w : World) :
    Calls Try.prog 64 #[.int .i64 a, .int .i64 b] w fun e w' => e = .returned (.int .i64 (gcdI a b)) ∧ Ext w w' := by
  obtain ⟨res, hres⟩ : ∃ res, res = gcdI a b := ⟨_, rfl⟩
  rw [← hres]
  have Hres := Lib.hid hres
  clear hres
  go_enter Try.func64, Try.ntmps64
  go_wp2_with fail
  go_loopw [0, 1] (fun u v wr => ∃ x y : Int, u = .int .i64 x ∧ v = .int .i64 y ∧ (-1000000 ≤ x ∧ x ≤ 1000000) ∧ (-1000000 ≤ y ∧ y ≤ 1000000) ∧ Hid (res = gcdI x y) ∧ Ext w wr) (fun _ v _ => (intOf v).natAbs)
  case atStart => exact ⟨a, b, rfl, rfl, h0, h1, Hres, Ext.refl _⟩
  case round =>
    obtain ⟨x, y, rfl, rfl, hx, hy, hg, he⟩ := hrel
    clear Hres h0 h1
    by_cases hz : y = 0
    · subst hz
      have e0 := gcdI_zero x
      have E0 := Lib.hid e0
      clear e0
      by_cases hneg : x < 0
      all_goals
        go_wp2_with fail
        all_goals
          go_ret
          refine ⟨ret_int ?_, he⟩
          rw [hg.out, E0.out]
          omega
    · have hz' : (y != 0) = true := by simpa using hz
      have hz'' : (y == 0) = false := by simpa using hz
      obtain ⟨t1, t2, t3⟩ := tmod_bd (a := x) hz hy
      have hs := gcdI_step x y
      have HS := Lib.hid hs
      clear hs
      go_wp2_with fail
      refine wp_region_T (cs := []) [0, 1, 2, 3, 4, 5] [] [] [] (fun _ _ => False) (fun _ _ _ => True) (by kernel_rfl) (by kernel_rfl) (fun _ _ _ _ _ _ => trivial) ?_
      refine' wpT_det (o := ⟨some 7, Op.move (Operand.tmp 1), 2, "l06_integers.go:204", #[], none⟩) rfl (by rfl) (by rfl) (fun w' hw' => ?_) ?_; rotate_left
      · go_simp <;> first | rfl | exact ⟨rfl, rfl⟩
      simp only [Act.put, List.setIfInBounds_toArray, List.set_cons_zero, List.set_cons_succ]
      refine' wpT_det (o := ⟨some 8, Op.move (Operand.tmp 0), 2, "l06_integers.go:204", #[], none⟩) rfl (by rfl) (by rfl) (fun w' hw' => ?_) ?_; rotate_left
      · go_simp <;> first | rfl | exact ⟨rfl, rfl⟩
      simp only [Act.put, List.setIfInBounds_toArray, List.set_cons_zero, List.set_cons_succ]
      refine' wpT_det (o := ⟨some 9, Op.move (Operand.tmp 1), 2, "l06_integers.go:204", #[], none⟩) rfl (by rfl) (by rfl) (fun w' hw' => ?_) ?_; rotate_left
      · go_simp <;> first | rfl | exact ⟨rfl, rfl⟩
      simp only [Act.put, List.setIfInBounds_toArray, List.set_cons_zero, List.set_cons_succ]
      refine' wpT_det (o := ⟨some 10, Op.binOp BinOp.rem 2 (Operand.tmp 8) (Operand.tmp 9) 2, 2, "l06_integers.go:204", #[{ on := 1, ground := Ground.data }, { on := 2, ground := Ground.data }], none⟩) rfl (by rfl) (by rfl) (fun w' hw' => ?_) ?_; rotate_left
      · go_simp <;> first | rfl | exact ⟨rfl, rfl⟩
      simp only [Act.put, List.setIfInBounds_toArray, List.set_cons_zero, List.set_cons_succ]
      refine' wpT_det (o := ⟨some 0, Op.assign (Operand.tmp 7), 2, "l06_integers.go:204", #[{ on := 0, ground := Ground.data }, { on := 0, ground := Ground.phase }, { on := 1, ground := Ground.phase }, { on := 2, ground := Ground.textOnly Departure.lateStores }, { on := 3, ground := Ground.textOnly Departure.lateStoresUnsure }], none⟩) rfl (by rfl) (by rfl) (fun w' hw' => ?_) ?_; rotate_left
      · go_simp <;> first | rfl | exact ⟨rfl, rfl⟩
      simp only [Act.put, List.setIfInBounds_toArray, List.set_cons_zero, List.set_cons_succ]
      refine' wpT_det (o := ⟨some 1, Op.assign (Operand.tmp 10), 2, "l06_integers.go:204", #[{ on := 3, ground := Ground.data }, { on := 4, ground := Ground.chain }, { on := 0, ground := Ground.phase }, { on := 1, ground := Ground.phase }, { on := 2, ground := Ground.phase }, { on := 3, ground := Ground.phase }, { on := 4, ground := Ground.phase }], none⟩) rfl (by rfl) (by rfl) (fun w' hw' => ?_) ?_; rotate_left
      · go_simp <;> first | rfl | exact ⟨rfl, rfl⟩
      simp only [Act.put, List.setIfInBounds_toArray, List.set_cons_zero, List.set_cons_succ]
      refine wpT_nil (fun w' hw' hF => ?_)
      refine wpList_nil ?_
      go_wp2_with fail
      go_roundw
      case rel => exact ⟨y, x.tmod y, rfl, rfl, hy, ⟨t1, t2⟩, by show res = _; rw [HS.out]; exact hg.out, he.trans hw'.undrew⟩
      case measure => show (x.tmod y).natAbs < y.natAbs; exact t3

end Go.Proofs.Ytcfimkjkolgboaa
