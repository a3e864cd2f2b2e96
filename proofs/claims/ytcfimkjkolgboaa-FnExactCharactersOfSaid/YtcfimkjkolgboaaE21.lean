import Derived.Test.YtcfimkjkolgboaaE20
set_option linter.unusedVariables false
set_option linter.unusedSimpArgs false
namespace Go.Proofs.Ytcfimkjkolgboaa
open Go.RowKit

/-- The sum of the minors of the first j sets. -/
def csum (xs : List Int) (C : Nat) (Ls : List (List Int)) : Nat → Int
  | 0 => 0
  | j + 1 => IntKind.i64.wrap (csum xs C Ls j + minorL xs C (Ls.getD j []) (Ls.getD j []))
theorem csum_wrap (xs : List Int) (C : Nat) (Ls : List (List Int)) (j : Nat) : IntKind.i64.wrap (csum xs C Ls j) = csum xs C Ls j := by
  have h64 : ∀ x : Int, IntKind.i64.wrap (IntKind.i64.wrap x) = IntKind.i64.wrap x := by
    intro x
    rw [IntWalk.i64_left, IntWalk.i64_left]
    have : -9223372036854775808 ≤ wrap64 x ∧ wrap64 x ≤ 9223372036854775807 := by unfold wrap64; omega
    exact IntWalk.wrap64_in _ this
  cases j with
  | zero => exact IntWalk.i64_in _ (by simp [csum])
  | succ j => exact h64 _
def charV (xs : List Int) (R k : Nat) : Int := if k % 2 = 1 then IntKind.i64.wrap (-(csum xs R (chL R k (2 ^ R)) (chL R k (2 ^ R)).length)) else csum xs R (chL R k (2 ^ R)) (chL R k (2 ^ R)).length
/-- The numbers for 1, .., k - 1. -/
def cK (xs : List Int) (R : Nat) : Nat → List Int
  | 0 => []
  | k + 1 => if k = 0 then [] else cK xs R k ++ [charV xs R k]
theorem cK_succ (xs : List Int) (R k : Nat) (hk : 1 ≤ k) : cK xs R (k + 1) = cK xs R k ++ [charV xs R k] := by
  simp only [cK]
  rw [if_neg (by omega)]
theorem cK_len (xs : List Int) (R k : Nat) : (cK xs R (k + 1)).length = k := by
  induction k with
  | zero => simp [cK]
  | succ k ih => rw [cK_succ _ _ _ (by omega), List.length_append, ih]; rfl
/-- What CharactersOf answers. -/
def charD (r c : Int) (xs : List Int) : List Int × Bool := if isWholeB r c xs 100 && decide (r = c) then (cK xs r.toNat (r.toNat + 1), true) else ([], false)
def RetIL (w : World) (d : List Int × Bool) (e : Ending) (w' : World) : Prop := ∃ A c, e = .returned (.tuple #[.slice A d.1.length c, .bool d.2]) ∧ Own w' w.heap.size 2 (.slice A d.1.length c) (ints d.1) ∧ Ext w w'

theorem RowsOf.at_ {w : World} {base b2 g N c : Nat} {vs : List Value} {Ls : List (List Int)} (h : RowsOf w base vs Ls) (ho : Own w b2 26 (.slice (some ⟨g, 0, none⟩) N c) vs) (j : Nat) (hj : j < Ls.length) :
    ∃ A k, w.cell? ⟨g, j, none⟩ = some (.slice A (Ls.getD j []).length k) ∧ Own w base 2 (.slice A (Ls.getD j []).length k) (ints (Ls.getD j [])) := by
  have e : Ls[j]? = some (Ls.getD j []) := by rw [List.getD_eq_getElem?_getD, List.getElem?_eq_getElem hj]; rfl
  obtain ⟨A, k, h1, h2⟩ := h.2 j _ e
  have hl := ho.len
  exact ⟨A, k, by rw [(ho.at_ j (by rw [← hl, h.1]; exact hj)).1, h1], h2⟩

set_option maxHeartbeats 4000000 in
theorem specCharactersOf_any (r c : Int) (A : Option Addr) (n cap : Nat) (xs : List Int) (w : World) (hr : Rds w A n (ints xs)) :
    Calls Try.prog 58 #[.agg #[.int .i64 r, .int .i64 c, .slice A n cap]] w (RetIL w (charD r c xs)) := by
  have hl := hr.ilen
  have hx0 : Ext w (w.alloc (.cells #[.int .i64 r, .int .i64 c, .slice A n cap] 31)) := (Ext.refl _).alloc _
  have ha0 := WAt.new (r := r) (c := c) (cap := cap) hr 31
  obtain ⟨d, hd⟩ : ∃ d, d = charD r c xs := ⟨_, rfl⟩
  rw [← hd]
  unfold charD at hd
  cases hv : isWholeB r c xs 100 with
  | false =>
    replace hd : d = ([], false) := by rw [hd, hv]; rfl
    have HD := Lib.hid hd
    clear hd
    go_enter Try.func58, Try.ntmps58
    go_wp2_with fail
    refine (l06Low_any _ r c A n cap xs _ ha0).mono ?_
    rintro e w1 ⟨rfl, hx⟩
    rw [hv]
    go_wp2_with fail
    go_ret2
    rw [HD.out]
    exact ⟨none, 0, rfl, own_nil _ _ _, hx0.trans hx⟩
  | true =>
    by_cases hrc : r = c
    · subst hrc
      obtain ⟨R, C, e1, e2, u1, u2, u3, u4, u5⟩ := whole_nat hv
      obtain rfl : R = C := by omega
      subst e1
      have hn : n = R * R := by omega
      replace hd : d = (cK xs R (R + 1), true) := by rw [hd, hv]; simp
      have HD := Lib.hid hd
      have Hn : Hid (n = R * R) := hn
      have hne : ((R : Int) != (R : Int)) = false := by simp
      clear hd hn u5 hl
      go_enter Try.func58, Try.ntmps58
      go_wp2_with fail
      refine (l06Low_any _ R R A n cap xs _ ha0).mono ?_
      rintro e w1 ⟨rfl, hx⟩
      rw [hv]
      have ha := ha0.ext hx
      have hx1 := hx0.trans hx
      clear ha0 hx0 hx
      obtain ⟨c0, c1, c2, hr1⟩ := ha
      go_wp2_with fail
      have ha : WAt w1 w.heap.size R R A n cap xs := ⟨c0, c1, c2, hr1⟩
      clear c0 c1 c2 hr1 hne
      go_loopw [4, 5] (fun u v wr => ∃ k : Nat, 1 ≤ k ∧ k ≤ R + 1 ∧ v = .int .i64 k ∧ ∃ A2 N c2, N = (cK xs R k).length ∧ u = .slice A2 N c2 ∧ Own wr w1.heap.size 2 (.slice A2 N c2) (ints (cK xs R k)) ∧ Ext w1 wr) (fun _ v _ => R + 1 - (intOf v).toNat)
      case atStart => exact ⟨1, by omega, by omega, rfl, _, 0, 0, rfl, rfl, Own.empty _ _, (Ext.refl _).alloc _⟩
      case round =>
        obtain ⟨k, hk1, hk2, rfl, A2, N, c2', hN, rfl, ho, hx⟩ := hrel
        obtain ⟨c0, c1, c2, hr1⟩ := ha.ext hx
        have hkl : (cK xs R k).length = k - 1 := by
          obtain ⟨j, rfl⟩ : ∃ j, k = j + 1 := ⟨k - 1, by omega⟩
          rw [cK_len]; rfl
        rw [hkl] at hN
        have HKL := Lib.hid hkl
        have hN6 : N ≤ 6 := by omega
        have HN := Lib.hid hN
        clear hkl hN
        by_cases hlt : k ≤ R
        · obtain ⟨wk, hwk⟩ : ∃ wk : World, wk = wr := ⟨_, rfl⟩
          subst hwk
          go_wp2_with fail
          refine (l06Choices_any R k u2 (by omega) _).mono ?_
          rintro e w2 ⟨B, bc, vs, rfl, hos, hrs, hx2⟩
          obtain ⟨Ls, hLs⟩ : ∃ Ls, Ls = chL R k (2 ^ R) := ⟨_, rfl⟩
          rw [← hLs] at hos hrs ⊢
          have hLm : Hid (∀ L ∈ Ls, ∀ x ∈ L, 0 ≤ x ∧ x < (R : Int)) := by
            intro L hL x hxx
            rw [hLs] at hL
            obtain ⟨m, _, rfl⟩ := chL_mem hL
            exact bl_mem hxx
          have HLs := Lib.hid hLs
          clear hLs c0 c1 c2 hr1
          have hls := hos.reads.small
          go_wp2_with fail
          go_loopw [6, 8] (fun u v wr => ∃ j : Nat, j ≤ Ls.length ∧ u = .int .i64 (csum xs R Ls j) ∧ v = .int .i64 j ∧ Ext w2 wr) (fun _ v _ => Ls.length - (intOf v).toNat)
          case atStart => exact ⟨0, Nat.zero_le _, rfl, rfl, Ext.refl _⟩
          case round =>
            obtain ⟨j, hj, rfl, rfl, hx3⟩ := hrel
            have hxx := (hx.trans hx2).trans hx3
            have ha' := ha.ext hxx
            by_cases hlj : j < Ls.length
            · obtain ⟨g, rfl, _⟩ := hos.head (by omega)
              obtain ⟨LA, Lc, hcell, hoL⟩ := (hrs.ext hx3).at_ (hos.ext hx3) j hlj
              have hcs : csum xs R Ls (j + 1) = IntKind.i64.wrap (csum xs R Ls j + minorL xs R (Ls.getD j []) (Ls.getD j [])) := rfl
              obtain ⟨L, hL⟩ : ∃ L, L = Ls.getD j [] := ⟨_, rfl⟩
              have hmem : L ∈ Ls := by
                rw [hL, List.getD_eq_getElem?_getD, List.getElem?_eq_getElem hlj]
                exact List.getElem_mem hlj
              have hLb : Hid (∀ x ∈ L, 0 ≤ x ∧ x < (R : Int)) := hLm.out L hmem
              rw [← hL] at hcell hoL hcs
              obtain ⟨z, hz⟩ : ∃ z, z = csum xs R Ls j := ⟨_, rfl⟩
              rw [← hz] at hcs
              rw [← hz]
              have HCS := Lib.hid hcs
              clear hcs hL hmem hz
              go_wp2_with fail
              refine wp_region_T (cs := []) [0, 1, 2, 3, 4, 5, 6, 7, 8, 9, 10, 11] [] [9] [] (fun i__ v => match i__ with | 9 => v = (.int .i64 (minorL xs R L L)) | _ => False) (fun _ _ _ => True) (by kernel_rfl) (by kernel_rfl) (fun _ _ _ _ _ _ => trivial) ?_
              refine' wpT_det (o := ⟨some 35, Op.move (Operand.tmp 6), 2, "l06_integers.go:247", #[], none⟩) rfl (by rfl) (by rfl) (fun w' hw' => ?_) ?_; rotate_left
              · go_simp <;> first | rfl | exact ⟨rfl, rfl⟩
              simp only [Act.put, List.setIfInBounds_toArray, List.set_cons_zero, List.set_cons_succ]
              refine' wpT_det (o := ⟨some 36, Op.move (Operand.tmp 7), 84, "l06_integers.go:247", #[], none⟩) rfl (by rfl) (by rfl) (fun w' hw' => ?_) ?_; rotate_left
              · go_simp <;> first | rfl | exact ⟨rfl, rfl⟩
              simp only [Act.put, List.setIfInBounds_toArray, List.set_cons_zero, List.set_cons_succ]
              refine' wpT_det (o := ⟨some 37, Op.move (Operand.tmp 8), 3, "l06_integers.go:247", #[], none⟩) rfl (by rfl) (by rfl) (fun w' hw' => ?_) ?_; rotate_left
              · go_simp <;> first | rfl | exact ⟨rfl, rfl⟩
              simp only [Act.put, List.setIfInBounds_toArray, List.set_cons_zero, List.set_cons_succ]
              refine' wpT_det (o := ⟨some 38, Op.indexAddr 84 (Operand.tmp 36) (Operand.tmp 37), 0, "l06_integers.go:247", #[{ on := 1, ground := Ground.data }, { on := 2, ground := Ground.data }], none⟩) rfl (by rfl) (by rfl) (fun w' hw' => ?_) ?_; rotate_left
              · go_simp <;> first | rfl | exact ⟨rfl, rfl⟩
              simp only [Act.put, List.setIfInBounds_toArray, List.set_cons_zero, List.set_cons_succ]
              refine' wpT_det (o := ⟨some 39, Op.load 26 (Operand.tmp 38), 26, "l06_integers.go:247", #[{ on := 3, ground := Ground.data }], none⟩) rfl (by rfl) (by rfl) (fun w' hw' => ?_) ?_; rotate_left
              · have hcell_ := Ext.cell hw' hcell; go_simp <;> first | rfl | exact ⟨rfl, rfl⟩
              simp only [Act.put, List.setIfInBounds_toArray, List.set_cons_zero, List.set_cons_succ]
              refine' wpT_det (o := ⟨some 40, Op.move (Operand.tmp 7), 84, "l06_integers.go:247", #[], none⟩) rfl (by rfl) (by rfl) (fun w' hw' => ?_) ?_; rotate_left
              · go_simp <;> first | rfl | exact ⟨rfl, rfl⟩
              simp only [Act.put, List.setIfInBounds_toArray, List.set_cons_zero, List.set_cons_succ]
              refine' wpT_det (o := ⟨some 41, Op.move (Operand.tmp 8), 3, "l06_integers.go:247", #[], none⟩) rfl (by rfl) (by rfl) (fun w' hw' => ?_) ?_; rotate_left
              · go_simp <;> first | rfl | exact ⟨rfl, rfl⟩
              simp only [Act.put, List.setIfInBounds_toArray, List.set_cons_zero, List.set_cons_succ]
              refine' wpT_det (o := ⟨some 42, Op.indexAddr 84 (Operand.tmp 40) (Operand.tmp 41), 0, "l06_integers.go:247", #[{ on := 5, ground := Ground.data }, { on := 6, ground := Ground.data }], none⟩) rfl (by rfl) (by rfl) (fun w' hw' => ?_) ?_; rotate_left
              · go_simp <;> first | rfl | exact ⟨rfl, rfl⟩
              simp only [Act.put, List.setIfInBounds_toArray, List.set_cons_zero, List.set_cons_succ]
              refine' wpT_det (o := ⟨some 43, Op.load 26 (Operand.tmp 42), 26, "l06_integers.go:247", #[{ on := 7, ground := Ground.data }], none⟩) rfl (by rfl) (by rfl) (fun w' hw' => ?_) ?_; rotate_left
              · have hcell_ := Ext.cell hw' hcell; go_simp <;> first | rfl | exact ⟨rfl, rfl⟩
              simp only [Act.put, List.setIfInBounds_toArray, List.set_cons_zero, List.set_cons_succ]
              refine wpT_nd (o := ⟨some 44, Op.call { callee := Callee.value (Operand.func 80), args := #[Operand.tmp 1, Operand.tmp 39, Operand.tmp 43], argTypes := #[62, 26, 26] }, 2, "l06_integers.go:247", #[{ on := 4, ground := Ground.data }, { on := 8, ground := Ground.data }], none⟩) rfl (by rfl) (by rfl) (fun w' hw' hF R__ hGo => ?_) ⟨_, rfl⟩ ?_
              · go_simp
                refine gives_enter rfl ?_
                refine (l06Minor_any w.heap.size R R n cap A xs u2 u2 Hn L L LA L.length Lc LA L.length Lc _ (ha'.ext hw'.undrew) (hoL.ext hw'.undrew).reads (hoL.ext hw'.undrew).reads hoL.cap hoL.cap (by have := hoL.small; rw [ints_length] at this; omega) hLb hLb).mono ?_
                rintro e w2 ⟨rfl, hx⟩
                exact ⟨_, rfl, hGo _ _ hx rfl trivial⟩
              intro v hv
              obtain rfl : v = (.int .i64 (minorL xs R L L)) := hv
              simp only [Act.put, List.setIfInBounds_toArray, List.set_cons_zero, List.set_cons_succ]
              refine' wpT_det (o := ⟨some 45, Op.binOp BinOp.add 2 (Operand.tmp 35) (Operand.tmp 44) 2, 2, "l06_integers.go:247", #[{ on := 0, ground := Ground.data }, { on := 9, ground := Ground.data }], none⟩) rfl (by rfl) (by rfl) (fun w' hw' => ?_) ?_; rotate_left
              · go_simp <;> first | rfl | exact ⟨rfl, rfl⟩
              simp only [Act.put, List.setIfInBounds_toArray, List.set_cons_zero, List.set_cons_succ]
              refine' wpT_det (o := ⟨some 6, Op.assign (Operand.tmp 45), 2, "l06_integers.go:247", #[{ on := 10, ground := Ground.data }, { on := 9, ground := Ground.chain }, { on := 0, ground := Ground.phase }, { on := 1, ground := Ground.phase }, { on := 2, ground := Ground.phase }, { on := 3, ground := Ground.phase }, { on := 4, ground := Ground.phase }, { on := 5, ground := Ground.phase }, { on := 6, ground := Ground.phase }, { on := 7, ground := Ground.phase }, { on := 8, ground := Ground.phase }, { on := 9, ground := Ground.phase }, { on := 10, ground := Ground.phase }], none⟩) rfl (by rfl) (by rfl) (fun w' hw' => ?_) ?_; rotate_left
              · go_simp <;> first | rfl | exact ⟨rfl, rfl⟩
              simp only [Act.put, List.setIfInBounds_toArray, List.set_cons_zero, List.set_cons_succ]
              refine wpT_nil (fun w' hw' hF => ?_)
              refine wpList_nil ?_
              go_wp2_with fail
              go_roundw
              case rel => exact ⟨j + 1, by omega, by rw [HCS.out], by go_num, hx3.trans hw'.undrew⟩
              case measure => simp [intOf]; omega
            · obtain rfl : j = Ls.length := by omega
              obtain ⟨s, hs⟩ : ∃ s, s = csum xs R Ls Ls.length := ⟨_, rfl⟩
              rw [← hs]
              have hoo := (ho.ext hx2).ext hx3
              by_cases hpar : k % 2 = 1
              · have hpp : (((k : Int).tmod 2) == 1) = true := by
                  have : (k : Int).tmod 2 = ((k % 2 : Nat) : Int) := by rw [Int.tmod_eq_emod_of_nonneg (by omega)]; simp
                  rw [this, hpar]; rfl
                have hpq : (((k : Int) % 2) == 1) = true := by simp; omega
                have hcv : charV xs R k = IntKind.i64.wrap (-s) := by unfold charV; rw [if_pos hpar, ← HLs.out, hs]
                have HCV := Lib.hid hcv
                have Hpar := Lib.hid hpar
                clear hcv hs hpar
                obtain ⟨z, hz⟩ : ∃ z, z = IntKind.i64.wrap (-s) := ⟨_, rfl⟩
                have hz' := hz.symm
                have hz2 := hz'
                rw [IntWalk.i64_left] at hz2
                have HZ := Lib.hid hz
                clear hz
                have ho' := hoo.ext ((Ext.refl wr).alloc (.cells #[.int .i64 z] 2))
                have hx' := (hx.trans hx2).trans hx3
                have hsz := hx'.size
                have hl := ho.len
                go_wp2_with (at_builtin; go_loud (refine wpList_app1 rfl _ _ _ rfl (wr.alloc (.cells #[.int .i64 z] 2)) w1.heap.size 2 (.int .i64 0) 8 Try.underlying26 info_i64 rfl (by decide) (.slice A2 N c2') (ints (cK xs R k)) rfl wr.heap.size (.int .i64 z) rfl (One.new _ _ _) ho' rfl (by omega) (by simp; omega) ?_); rw [hl]; intro A' c' w3 h5 h6 h7)
                go_roundw
                case rel =>
                  have hgo : ∃ k' : Nat, 1 ≤ k' ∧ k' ≤ R + 1 ∧ Value.int .i64 ((k : Int) + 1) = .int .i64 k' ∧ ∃ A2 N2 c2, N2 = (cK xs R k').length ∧ Value.slice A' (N + 1) c' = .slice A2 N2 c2 ∧ Own w3 w1.heap.size 2 (.slice A2 N2 c2) (ints (cK xs R k')) ∧ Ext w1 w3 := by
                    refine ⟨k + 1, by omega, by omega, by simp, A', N + 1, c', by rw [cK_len]; have := HN.out; omega, rfl, ?_, h6.ext (hx'.alloc _) ho'⟩
                    rw [cK_succ _ _ _ hk1, ints_append, HCV.out, ← HZ.out]
                    exact h5
                  first | exact hgo | ((repeat apply Exists.intro); exact ⟨hgo, rfl⟩)
                case measure => simp [intOf]; omega
              · have hpp : (((k : Int).tmod 2) == 1) = false := by
                  have : (k : Int).tmod 2 = ((k % 2 : Nat) : Int) := by rw [Int.tmod_eq_emod_of_nonneg (by omega)]; simp
                  rw [this]; simp; omega
                have hpq : (((k : Int) % 2) == 1) = false := by simp; omega
                have hcv : charV xs R k = s := by unfold charV; rw [if_neg hpar, ← HLs.out, hs]
                have HCV := Lib.hid hcv
                clear hcv hs hpar
                have ho' := hoo.ext ((Ext.refl wr).alloc (.cells #[.int .i64 s] 2))
                have hx' := (hx.trans hx2).trans hx3
                have hsz := hx'.size
                have hl := ho.len
                go_wp2_with (at_builtin; go_loud (refine wpList_app1 rfl _ _ _ rfl (wr.alloc (.cells #[.int .i64 s] 2)) w1.heap.size 2 (.int .i64 0) 8 Try.underlying26 info_i64 rfl (by decide) (.slice A2 N c2') (ints (cK xs R k)) rfl wr.heap.size (.int .i64 s) rfl (One.new _ _ _) ho' rfl (by omega) (by simp; omega) ?_); rw [hl]; intro A' c' w3 h5 h6 h7)
                go_roundw
                case rel =>
                  have hgo : ∃ k' : Nat, 1 ≤ k' ∧ k' ≤ R + 1 ∧ Value.int .i64 ((k : Int) + 1) = .int .i64 k' ∧ ∃ A2 N2 c2, N2 = (cK xs R k').length ∧ Value.slice A' (N + 1) c' = .slice A2 N2 c2 ∧ Own w3 w1.heap.size 2 (.slice A2 N2 c2) (ints (cK xs R k')) ∧ Ext w1 w3 := by
                    refine ⟨k + 1, by omega, by omega, by simp, A', N + 1, c', by rw [cK_len]; have := HN.out; omega, rfl, ?_, h6.ext (hx'.alloc _) ho'⟩
                    rw [cK_succ _ _ _ hk1, ints_append, HCV.out]
                    exact h5
                  first | exact hgo | ((repeat apply Exists.intro); exact ⟨hgo, rfl⟩)
                case measure => simp [intOf]; omega
        · obtain rfl : k = R + 1 := by omega
          go_wp2_with fail
          go_ret2
          rw [HD.out]
          have hR : N = (cK xs R (R + 1)).length := by rw [cK_len]; have := HN.out; omega
          subst hR
          exact ⟨A2, c2', rfl, ho.base hx1.size, hx1.trans hx⟩
    · replace hd : d = ([], false) := by rw [hd, hv, decide_eq_false hrc]; rfl
      have HD := Lib.hid hd
      clear hd
      have hne : (r != c) = true := by simpa using hrc
      go_enter Try.func58, Try.ntmps58
      go_wp2_with fail
      refine (l06Low_any _ r c A n cap xs _ ha0).mono ?_
      rintro e w1 ⟨rfl, hx⟩
      rw [hv]
      obtain ⟨c0, c1, c2, hr1⟩ := ha0.ext hx
      clear ha0
      go_wp2_with fail
      go_ret2
      rw [HD.out]
      exact ⟨none, 0, rfl, own_nil _ _ _, hx0.trans hx⟩

end Go.Proofs.Ytcfimkjkolgboaa
