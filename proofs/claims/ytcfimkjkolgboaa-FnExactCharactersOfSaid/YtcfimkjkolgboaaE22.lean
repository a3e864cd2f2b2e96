import Derived.Test.YtcfimkjkolgboaaE21
set_option linter.unusedVariables false
set_option linter.unusedSimpArgs false
namespace Go.Proofs.Ytcfimkjkolgboaa
open Go.RowKit

def sgK (k : Nat) : Int := if k % 2 = 1 then -1 else 1

set_option maxHeartbeats 4000000 in
theorem implCharactersOf_any (r c : Int) (A : Option Addr) (n cap : Nat) (xs : List Int) (w : World) (hr : Rds w A n (ints xs)) :
    Calls Try.prog 59 #[.agg #[.int .i64 r, .int .i64 c, .slice A n cap]] w (RetIL w (charD r c xs)) := by
  have hl := hr.ilen
  have hx0 : Ext w (w.alloc (.cells #[.int .i64 r, .int .i64 c, .slice A n cap] 31)) := (Ext.refl _).alloc _
  have ha0 := WAt.new (r := r) (c := c) (cap := cap) hr 31
  obtain ⟨d, hd⟩ : ∃ d, d = charD r c xs := ⟨_, rfl⟩
  rw [← hd]
  unfold charD at hd
  cases hv : isWholeB r c xs 100 with
  | false =>
    replace hd : d = ([], false) := by rw [hd, hv]; rfl
    have HD := Lib.hid hd
    clear hd
    go_enter Try.func59, Try.ntmps59
    go_wp2_with fail
    refine (isLow_any r c A n cap xs _ ha0.rds).mono ?_
    rintro e w1 ⟨rfl, hx⟩
    rw [hv]
    go_wp2_with fail
    go_ret2
    rw [HD.out]
    exact ⟨none, 0, rfl, own_nil _ _ _, hx0.trans hx⟩
  | true =>
    by_cases hrc : r = c
    · subst hrc
      obtain ⟨R, C, e1, e2, u1, u2, u3, u4, u5⟩ := whole_nat hv
      obtain rfl : R = C := by omega
      subst e1
      have hn : n = R * R := by omega
      replace hd : d = (cK xs R (R + 1), true) := by rw [hd, hv]; simp
      have HD := Lib.hid hd
      have Hn : Hid (n = R * R) := hn
      have hne : ((R : Int) != (R : Int)) = false := by simp
      clear hd hn u5 hl
      go_enter Try.func59, Try.ntmps59
      go_wp2_with fail
      refine (isLow_any R R A n cap xs _ ha0.rds).mono ?_
      rintro e w1 ⟨rfl, hx⟩
      rw [hv]
      have ha := ha0.ext hx
      have hx1 := hx0.trans hx
      clear ha0 hx0 hx
      obtain ⟨c0, c1, c2, hr1⟩ := ha
      go_wp2_with fail
      have ha : WAt w1 w.heap.size R R A n cap xs := ⟨c0, c1, c2, hr1⟩
      clear c0 c1 c2 hr1 hne
      go_loopw [4, 5, 6] (fun u t v wr => ∃ k : Nat, 1 ≤ k ∧ k ≤ R + 1 ∧ v = .int .i64 k ∧ t = .int .i64 (sgK k) ∧ ∃ A2 N c2, N = (cK xs R k).length ∧ u = .slice A2 N c2 ∧ Own wr w1.heap.size 2 (.slice A2 N c2) (ints (cK xs R k)) ∧ Ext w1 wr) (fun _ _ v _ => R + 1 - (intOf v).toNat)
      case atStart => exact ⟨1, by omega, by omega, rfl, rfl, _, 0, 0, rfl, rfl, Own.empty _ _, (Ext.refl _).alloc _⟩
      case round =>
        obtain ⟨k, hk1, hk2, rfl, rfl, A2, N, c2', hN, rfl, ho, hx⟩ := hrel
        obtain ⟨c0, c1, c2, hr1⟩ := ha.ext hx
        have hkl : (cK xs R k).length = k - 1 := by
          obtain ⟨j, rfl⟩ : ∃ j, k = j + 1 := ⟨k - 1, by omega⟩
          rw [cK_len]; rfl
        rw [hkl] at hN
        have HKL := Lib.hid hkl
        have hN6 : N ≤ 6 := by omega
        have HN := Lib.hid hN
        clear hkl hN
        have hsb : -1 ≤ sgK k ∧ sgK k ≤ 1 := by unfold sgK; split <;> omega
        have hsn : sgK (k + 1) = -(sgK k) := by unfold sgK; split <;> split <;> omega
        have hsv : ∀ s, IntKind.i64.wrap s = s → IntKind.i64.wrap (sgK k * s) = if k % 2 = 1 then IntKind.i64.wrap (-s) else s := by
          intro s hs
          unfold sgK
          split
          · rw [Int.neg_mul, Int.one_mul]
          · rw [Int.one_mul]; exact hs
        obtain ⟨sg, hsg⟩ : ∃ sg, sg = sgK k := ⟨_, rfl⟩
        rw [← hsg] at hsb hsn
        rw [← hsg]
        have HSN := Lib.hid hsn
        have HSV : Hid (∀ s, IntKind.i64.wrap s = s → IntKind.i64.wrap (sg * s) = if k % 2 = 1 then IntKind.i64.wrap (-s) else s) := by rw [hsg]; exact hsv
        clear hsn hsv hsg
        by_cases hlt : k ≤ R
        · obtain ⟨wk, hwk⟩ : ∃ wk : World, wk = wr := ⟨_, rfl⟩
          subst hwk
          go_wp2_with fail
          refine (choices_any R k u2 (by omega) _).mono ?_
          rintro e w2 ⟨B, bc, vs, rfl, hos, hrs, hx2⟩
          obtain ⟨Ls, hLs⟩ : ∃ Ls, Ls = chL R k (2 ^ R) := ⟨_, rfl⟩
          rw [← hLs] at hos hrs ⊢
          have hLm : Hid (∀ L ∈ Ls, ∀ x ∈ L, 0 ≤ x ∧ x < (R : Int)) := by
            intro L hL x hxx
            rw [hLs] at hL
            obtain ⟨m, _, rfl⟩ := chL_mem hL
            exact bl_mem hxx
          have HLs := Lib.hid hLs
          clear hLs c0 c1 c2 hr1
          have hls := hos.reads.small
          go_wp2_with fail
          go_loopw [7, 32] (fun u v wr => ∃ j : Nat, j ≤ Ls.length ∧ u = .int .i64 (csum xs R Ls j) ∧ v = .int .i64 j ∧ Ext w2 wr) (fun _ v _ => Ls.length - (intOf v).toNat)
          case atStart => exact ⟨0, Nat.zero_le _, rfl, rfl, Ext.refl _⟩
          case round =>
            obtain ⟨j, hj, rfl, rfl, hx3⟩ := hrel
            have hxx := (hx.trans hx2).trans hx3
            have ha' := ha.ext hxx
            by_cases hlj : j < Ls.length
            · obtain ⟨g, rfl, _⟩ := hos.head (by omega)
              obtain ⟨LA, Lc, hcell, hoL⟩ := (hrs.ext hx3).at_ (hos.ext hx3) j hlj
              have hcs : csum xs R Ls (j + 1) = IntKind.i64.wrap (csum xs R Ls j + minorL xs R (Ls.getD j []) (Ls.getD j [])) := rfl
              obtain ⟨L, hL⟩ : ∃ L, L = Ls.getD j [] := ⟨_, rfl⟩
              have hmem : L ∈ Ls := by
                rw [hL, List.getD_eq_getElem?_getD, List.getElem?_eq_getElem hlj]
                exact List.getElem_mem hlj
              have hLb : Hid (∀ x ∈ L, 0 ≤ x ∧ x < (R : Int)) := hLm.out L hmem
              rw [← hL] at hcell hoL hcs
              obtain ⟨z, hz⟩ : ∃ z, z = csum xs R Ls j := ⟨_, rfl⟩
              rw [← hz] at hcs
              rw [← hz]
              have HCS := Lib.hid hcs
              clear hcs hL hmem hz
              obtain ⟨c0, c1, c2, hr1⟩ := ha'
              have ha' : Rds wr A n (ints xs) := hr1
              go_wp2_with fail
              refine (minor_any R R n cap A xs u2 u2 Hn L L LA L.length Lc LA L.length Lc _ ha' hoL.reads hoL.reads hoL.cap hoL.cap (by have := hoL.small; rw [ints_length] at this; omega) hLb hLb).mono ?_
              rintro e w4 ⟨rfl, hx4⟩
              go_wp2_with fail
              go_roundw
              case rel => exact ⟨j + 1, by omega, by rw [HCS.out, IntWalk.i64_left], by go_num, hx3.trans hx4⟩
              case measure => simp [intOf]; omega
            · obtain rfl : j = Ls.length := by omega
              obtain ⟨s, hs⟩ : ∃ s, s = csum xs R Ls Ls.length := ⟨_, rfl⟩
              rw [← hs]
              have hoo := (ho.ext hx2).ext hx3
              have hcv : IntKind.i64.wrap (sg * s) = charV xs R k := by
                rw [HSV.out s (by rw [hs]; exact csum_wrap _ _ _ _)]
                unfold charV
                rw [← HLs.out, ← hs]
              obtain ⟨z, hz⟩ : ∃ z, z = charV xs R k := ⟨_, rfl⟩
              rw [← hz] at hcv
              have hz2 := hcv
              rw [IntWalk.i64_left] at hz2
              have HZ := Lib.hid hz
              clear hz hs
              have ho' := hoo.ext ((Ext.refl wr).alloc (.cells #[.int .i64 z] 2))
              have hx' := (hx.trans hx2).trans hx3
              have hsz := hx'.size
              have hl := ho.len
              go_wp2_with (at_builtin; go_loud (refine wpList_app1 rfl _ _ _ rfl (wr.alloc (.cells #[.int .i64 z] 2)) w1.heap.size 2 (.int .i64 0) 8 Try.underlying26 info_i64 rfl (by decide) (.slice A2 N c2') (ints (cK xs R k)) rfl wr.heap.size (.int .i64 z) rfl (One.new _ _ _) ho' rfl (by omega) (by simp; omega) ?_); rw [hl]; intro A' c' w3 h5 h6 h7)
              go_roundw
              case rel =>
                have hgo : ∃ k' : Nat, 1 ≤ k' ∧ k' ≤ R + 1 ∧ Value.int .i64 ((k : Int) + 1) = .int .i64 k' ∧ Value.int .i64 (-sg) = .int .i64 (sgK k') ∧ ∃ A2 N2 c2, N2 = (cK xs R k').length ∧ Value.slice A' (N + 1) c' = .slice A2 N2 c2 ∧ Own w3 w1.heap.size 2 (.slice A2 N2 c2) (ints (cK xs R k')) ∧ Ext w1 w3 := by
                  refine ⟨k + 1, by omega, by omega, by simp, by rw [HSN.out], A', N + 1, c', by rw [cK_len]; have := HN.out; omega, rfl, ?_, h6.ext (hx'.alloc _) ho'⟩
                  rw [cK_succ _ _ _ hk1, ints_append, ← HZ.out]
                  exact h5
                first | exact hgo | ((repeat apply Exists.intro); exact ⟨hgo, rfl⟩)
              case measure => simp [intOf]; omega
        · obtain rfl : k = R + 1 := by omega
          go_wp2_with fail
          go_ret2
          rw [HD.out]
          have hR : N = (cK xs R (R + 1)).length := by rw [cK_len]; have := HN.out; omega
          subst hR
          exact ⟨A2, c2', rfl, ho.base hx1.size, hx1.trans hx⟩
    · replace hd : d = ([], false) := by rw [hd, hv, decide_eq_false hrc]; rfl
      have HD := Lib.hid hd
      clear hd
      have hne : (r != c) = true := by simpa using hrc
      go_enter Try.func59, Try.ntmps59
      go_wp2_with fail
      refine (isLow_any r c A n cap xs _ ha0.rds).mono ?_
      rintro e w1 ⟨rfl, hx⟩
      rw [hv]
      obtain ⟨c0, c1, c2, hr1⟩ := ha0.ext hx
      clear ha0
      go_wp2_with fail
      go_ret2
      rw [HD.out]
      exact ⟨none, 0, rfl, own_nil _ _ _, hx0.trans hx⟩

end Go.Proofs.Ytcfimkjkolgboaa
