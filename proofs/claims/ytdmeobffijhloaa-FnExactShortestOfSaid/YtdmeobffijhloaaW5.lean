
/- ShortestOf, the program. -/

import Derived.Test.YtdmeobffijhloaaW3

import Derived.Test.YtdmeobffijhloaaW4

import Derived.Test.YtdmeobffijhloaaA2

import Derived.Test.YtdmeobffijhloaaB3

import Derived.Deep.LoopGhost
set_option linter.unusedVariables false
set_option linter.unusedSimpArgs false

namespace Go.Proofs.Ytdmeobffijhloaa

open Go.RowKit


set_option maxRecDepth 20000 in
set_option maxHeartbeats 1000000 in
theorem l06Low_any (b : Nat) (r c : Int) (A : Option Addr) (n cap : Nat) (xs : List Int) (w : World) (ha : WAt w b r c A n cap xs) :
    Calls Try.prog 30 #[.pointer (some ⟨b, 0, none⟩)] w fun e w' => e = .returned (.bool (isWholeB r c xs 100)) ∧ Ext w w' := by
  go_enter Try.func30, Try.ntmps30
  go_wp2_with fail
  refine (l06Is_any b r c _ A n cap xs _ ha.c0 ha.c1 ha.c2 ha.rds (by omega)).mono ?_
  rintro e w1 ⟨rfl, hx⟩
  go_wp2_with fail
  go_ret
  exact ⟨rfl, hx⟩

set_option maxRecDepth 20000 in
set_option maxHeartbeats 1000000 in
theorem isLow_any (r c : Int) (A : Option Addr) (n cap : Nat) (xs : List Int) (w : World) (hr : Rds w A n (ints xs)) :
    Calls Try.prog 33 #[.agg #[.int .i64 r, .int .i64 c, .slice A n cap]] w fun e w' => e = .returned (.bool (isWholeB r c xs 100)) ∧ Ext w w' := by
  go_enter Try.func33, Try.ntmps33
  go_wp2_with fail
  refine (isWhole_any r c _ A n cap xs _ (hr.below ((Ext.refl _).alloc _)) (by omega)).mono ?_
  rintro e w1 ⟨rfl, hx⟩
  go_wp2_with fail
  go_ret
  exact ⟨rfl, ((Ext.refl _).alloc _).trans hx⟩

theorem nil_eq1 (w : World) : (binOp .eql 22 (.slice none 0 0) (.slice none 0 0)).run Try.prog w = .ok (.bool true) w := by kernel_rfl
theorem nil_eq2 (g C : Nat) (w : World) : (binOp .eql 22 (.slice (some ⟨g, 0, none⟩) C C) (.slice none 0 0)).run Try.prog w = .ok (.bool false) w := by rfl
theorem nil_ne1 (w : World) : (binOp .neq 22 (.slice none 0 0) (.slice none 0 0)).run Try.prog w = .ok (.bool false) w := by rfl
theorem nil_ne2 (g C : Nat) (w : World) : (binOp .neq 22 (.slice (some ⟨g, 0, none⟩) C C) (.slice none 0 0)).run Try.prog w = .ok (.bool true) w := by rfl
theorem dgt_not_all {b n m R : Nat} (hb : 0 < b) (h : trail b n m) (hd : dgt b n m + 1 < b) (hm : m < R) : n + 1 ≠ b ^ R := by
  intro e
  have h1 := trail_next h
  obtain ⟨d, rfl⟩ : ∃ d, R = m + (d + 1) := ⟨R - m - 1, by omega⟩
  rw [e, Nat.pow_add] at h1
  have h2 : b ^ (d + 1) = n / b ^ m + 1 := Nat.eq_of_mul_eq_mul_left (Nat.pow_pos hb) h1
  have h3 : (n / b ^ m + 1) % b = 0 := by rw [← h2, Nat.pow_succ]; exact Nat.mul_mod_left _ _
  unfold dgt at hd
  have h4 : (n / b ^ m + 1) % b = n / b ^ m % b + 1 := by
    rw [Nat.add_mod, Nat.mod_eq_of_lt (show 1 < b by omega)]
    exact Nat.mod_eq_of_lt hd
  omega
/-- The best so far, as the program keeps it. -/
def BS (wB : World) (a : Nat → Nat → Int) (ρ R C : Nat) (B : Option (Nat × Int)) (fb : Nat) (u v : Value) (wr : World) : Prop := match B with
  | none => u = .slice none 0 0 ∧ v = .int .i64 0
  | some p => ∃ g, u = .slice (some ⟨g, 0, none⟩) C C ∧ v = .int .i64 p.2 ∧ Own wr wB.heap.size 2 (.slice (some ⟨g, 0, none⟩) C C) (ints (lstI C (vecN a ρ R p.1))) ∧ g ≠ fb
theorem BS.wr {wB : World} {a : Nat → Nat → Int} {ρ R C : Nat} {B : Option (Nat × Int)} {fb l k : Nat} {u v : Value} {w w' : World} (h : BS wB a ρ R C B fb u v w) (hw : Wr w w' (.slice (some ⟨fb, 0, none⟩) l k)) : BS wB a ρ R C B fb u v w' := by
  cases B with
  | none => exact h
  | some p =>
    obtain ⟨g, h1, h2, h3, h4⟩ := h
    exact ⟨g, h1, h2, h3.other hw (.inr (by simpa [Value.ownBlock] using h4)), h4⟩
theorem BS.fresh {wB : World} {a : Nat → Nat → Int} {ρ R C : Nat} {B : Option (Nat × Int)} {fb sb l k : Nat} {u v : Value} {w w' : World} {o : Obj} (h : BS wB a ρ R C B fb u v w) (hs : sb = w.heap.size) (hw : Wr (w.alloc o) w' (.slice (some ⟨sb, 0, none⟩) l k)) : BS wB a ρ R C B fb u v w' := by
  cases B with
  | none => exact h
  | some p =>
    obtain ⟨g, h1, h2, h3, h4⟩ := h
    have hlt := (h3.row.lt g rfl).2
    exact ⟨g, h1, h2, (h3.ext ((Ext.refl _).alloc o)).other hw (.inr (by simp only [Value.ownBlock, ne_eq, Option.some.injEq]; omega)), h4⟩

set_option maxRecDepth 20000 in
set_option maxHeartbeats 16000000 in
theorem implShortestOf_any (r c : Int) (A : Option Addr) (nn cap : Nat) (xs : List Int) (reach : Int) (w : World) (hr : Rds w A nn (ints xs)) :
    Calls Try.prog 15 #[.agg #[.int .i64 r, .int .i64 c, .slice A nn cap], .int .i64 reach] w (RetSh w (shoD r c xs reach)) := by
  cases hlow : isWholeB r c xs 100 with
  | false =>
    rw [shoD_1 hlow]
    go_enter Try.func15, Try.ntmps15
    go_upto_region 1 with (fail)
    obtain ⟨w0, hw0⟩ : ∃ w0 : World, w0 = w.alloc (.cells #[.int .i64 r, .int .i64 c, .slice A nn cap] 31) := ⟨_, rfl⟩
    have hx0 : Ext w w0 := by rw [hw0]; exact (Ext.refl _).alloc _
    have b0 : Blk w0 w.heap.size #[.int .i64 r, .int .i64 c, .slice A nn cap] 31 := by rw [hw0]; exact Blk.new _ _ _
    rw [← hw0]
    clear hw0
    have c0 := b0.cell 0 rfl
    have c1 := b0.cell 1 rfl
    have c2 := b0.cell 2 rfl
    go_wp2_with fail
    refine (isLow_any r c A nn cap xs _ (hr.below hx0)).mono ?_
    rintro e w1 ⟨rfl, hx⟩
    rw [hlow]
    replace hx0 := hx0.trans hx
    replace b0 := b0.ext hx
    clear hx c0 c1 c2
    go_wp2_with fail
    refine bodyPost_ret (v := .tuple #[.slice none 0 0, .int .i64 0, .bool false]) (by simp only [results, Try.results15]; simp [go_sem]) rfl ⟨none, 0, rfl, own_nil _ _ _, hx0⟩
  | true =>
    obtain ⟨R, C, rfl, rfl, hR1, hR6, hC1, hC6, hlen, ha⟩ := low_nat hlow
    have HA := Lib.hid ha
    have HN := Lib.hid (hr.ilen.symm.trans hlen)
    clear ha hlen
    by_cases hR4 : R ≤ 4
    rotate_left
    · rw [shoD_2 (by omega)]
      have hgt : (4 : Int) < R := by omega
      go_enter Try.func15, Try.ntmps15
      go_upto_region 1 with (fail)
      obtain ⟨w0, hw0⟩ : ∃ w0 : World, w0 = w.alloc (.cells #[.int .i64 R, .int .i64 C, .slice A nn cap] 31) := ⟨_, rfl⟩
      have hx0 : Ext w w0 := by rw [hw0]; exact (Ext.refl _).alloc _
      have b0 : Blk w0 w.heap.size #[.int .i64 R, .int .i64 C, .slice A nn cap] 31 := by rw [hw0]; exact Blk.new _ _ _
      rw [← hw0]
      clear hw0
      have c0 := b0.cell 0 rfl
      have c1 := b0.cell 1 rfl
      have c2 := b0.cell 2 rfl
      go_wp2_with fail
      refine (isLow_any R C A nn cap xs _ (hr.below hx0)).mono ?_
      rintro e w1 ⟨rfl, hx⟩
      rw [hlow]
      replace hx0 := hx0.trans hx
      replace b0 := b0.ext hx
      clear hx c0 c1 c2
      have c0 := b0.cell 0 rfl
      go_wp2_with fail
      refine bodyPost_ret (v := .tuple #[.slice none 0 0, .int .i64 0, .bool false]) (by simp only [results, Try.results15]; simp [go_sem]) rfl ⟨none, 0, rfl, own_nil _ _ _, hx0⟩
    · have hle : ¬ (4 : Int) < R := by omega
      cases hin : inR 1 reach 3 with
      | false =>
        rw [shoD_3 hin]
        go_enter Try.func15, Try.ntmps15
        go_upto_region 1 with (fail)
        obtain ⟨w0, hw0⟩ : ∃ w0 : World, w0 = w.alloc (.cells #[.int .i64 R, .int .i64 C, .slice A nn cap] 31) := ⟨_, rfl⟩
        have hx0 : Ext w w0 := by rw [hw0]; exact (Ext.refl _).alloc _
        have b0 : Blk w0 w.heap.size #[.int .i64 R, .int .i64 C, .slice A nn cap] 31 := by rw [hw0]; exact Blk.new _ _ _
        rw [← hw0]
        clear hw0
        have c0 := b0.cell 0 rfl
        have c1 := b0.cell 1 rfl
        have c2 := b0.cell 2 rfl
        go_wp2_with fail
        refine (isLow_any R C A nn cap xs _ (hr.below hx0)).mono ?_
        rintro e w1 ⟨rfl, hx⟩
        rw [hlow]
        replace hx0 := hx0.trans hx
        replace b0 := b0.ext hx
        clear hx c0 c1 c2
        have c0 := b0.cell 0 rfl
        go_wp2_with fail
        refine (inRange_any _ _ _ _).mono ?_
        rintro e w2 ⟨rfl, rfl⟩
        rw [hin]
        go_wp2_with fail
        refine bodyPost_ret (v := .tuple #[.slice none 0 0, .int .i64 0, .bool false]) (by simp only [results, Try.results15]; simp [go_sem]) rfl ⟨none, 0, rfl, own_nil _ _ _, hx0⟩
      | true =>
        have hb3 := inR_iff.1 hin
        obtain ⟨ρ, rfl⟩ : ∃ ρ : Nat, reach = ρ := ⟨reach.toNat, by omega⟩
        have hρ3 : ρ ≤ 3 := by omega
        obtain ⟨D, hD⟩ : ∃ D, D = shoD R C xs ρ := ⟨_, rfl⟩
        rw [← hD]
        rw [shoD_ok hlow hR4 hin] at hD
        have HD := Lib.hid hD
        clear hD hb3
        go_enter Try.func15, Try.ntmps15
        go_upto_region 1 with (fail)
        obtain ⟨w0, hw0⟩ : ∃ w0 : World, w0 = w.alloc (.cells #[.int .i64 R, .int .i64 C, .slice A nn cap] 31) := ⟨_, rfl⟩
        have hx0 : Ext w w0 := by rw [hw0]; exact (Ext.refl _).alloc _
        have b0 : Blk w0 w.heap.size #[.int .i64 R, .int .i64 C, .slice A nn cap] 31 := by rw [hw0]; exact Blk.new _ _ _
        rw [← hw0]
        clear hw0
        have c0 := b0.cell 0 rfl
        have c1 := b0.cell 1 rfl
        have c2 := b0.cell 2 rfl
        go_wp2_with fail
        refine (isLow_any R C A nn cap xs _ (hr.below hx0)).mono ?_
        rintro e w1 ⟨rfl, hx⟩
        rw [hlow]
        replace hx0 := hx0.trans hx
        replace b0 := b0.ext hx
        clear hx c0 c1 c2
        have c0 := b0.cell 0 rfl
        go_wp2_with fail
        refine (inRange_any _ _ _ _).mono ?_
        rintro e w2 ⟨rfl, rfl⟩
        rw [hin]
        clear c0
        have c0 := b0.cell 0 rfl
        have g0 : IntKind.i64.wrap (-(ρ : Int)) = -(ρ : Int) := IntWalk.i64_in _ (by omega)
        go_upto_region 5 with (fail)
        have lb0 := b0.lt
        go_wp2_with fail
        refine (repeat_any R hR1 hR4 (-(ρ : Int)) _ _ (Blk.new _ _ _)).mono ?_
        rintro e wF ⟨rfl, of, hxF⟩
        have hxx : Ext w1 (w1.alloc (.cells #[.int .i64 (-(ρ : Int))] 2)) := (Ext.refl _).alloc _
        obtain ⟨fb, hfb⟩ : ∃ fb, fb = (w1.alloc (.cells #[.int .i64 (-(ρ : Int))] 2)).heap.size := ⟨_, rfl⟩
        rw [← hfb] at of
        rw [← hfb]
        obtain ⟨wB, hwB⟩ : ∃ wB, wB = w1 := ⟨_, rfl⟩
        rw [← hwB] at hx0 b0 hxx hxF
        have hx := hxx.trans hxF
        replace of := of.base (b := wB.heap.size) (by rw [hfb, hwB]; simp)
        have hz : lstI R (facI ρ R 0) = List.replicate R (-(ρ : Int)) := by rw [lstI_congr (g' := fun _ => -(ρ : Int)) (fun j _ => facI_zero ρ R j), lstI_const]
        rw [← hz] at of
        have HB0 : Hid (BS wB (fun i k => atI xs C i k) ρ R C (bestN (fun i k => atI xs C i k) ρ R C 0) fb (.slice none 0 0) (.int .i64 0) wF) := ⟨rfl, rfl⟩
        have hpos0 := all_pos ρ R
        have hbig := all_bound hρ3 hR4
        clear hfb hwB hxx hxF hz c0
        go_wp2_with fail
        go_loopg [7, 8] (allN ρ R) (fun gg u v wr => ∃ n, n < allN ρ R ∧ allN ρ R - n - 1 ≤ gg ∧ BS wB (fun i k => atI xs C i k) ρ R C (bestN (fun i k => atI xs C i k) ρ R C n) fb u v wr ∧ Own wr wB.heap.size 2 (.slice (some ⟨fb, 0, none⟩) R R) (ints (lstI R (facI ρ R n))) ∧ Ext wB wr)
        case atStart => exact ⟨0, hpos0, by omega, HB0.out, of, hx⟩
        case round =>
          rename World => wA
          clear of hx HB0
          obtain ⟨n, hn, hgg, hB, of, hx⟩ := hrel
          have HB := Lib.hid hB
          clear hB
          have hmk := run_make_row' (P := Try.prog) 22 2 (.int .i64 0) 8 Try.underlying22 info_i64 rfl .i64 .i64 C (by omega) (by omega)
          have c1 := (b0.ext hx).cell 1 rfl
          have hal : Ext wA (wA.alloc (.cells (madeCells #[.int .i64 0] C) 2)) := (Ext.refl _).alloc _
          have os := (Own.made wA 2 (.int .i64 0) C rfl (by omega)).base (b := wB.heap.size) hx.size
          rw [← ints_replicate, ← lstI_const, ← psum_zero (fun i k => atI xs C i k) ρ R n] at os
          obtain ⟨wM, hwM⟩ : ∃ v : World, v = wA.alloc (.cells (madeCells #[.int .i64 0] C) 2) := ⟨_, rfl⟩
          obtain ⟨sb, hsb⟩ : ∃ sb, sb = wA.heap.size := ⟨_, rfl⟩
          have hfs : fb ≠ sb := by have := (of.row.lt fb rfl).2; omega
          go_upto_region 7 with (fail)
          rw [← hwM, ← hsb] at os
          rw [← hwM] at hal
          rw [← hwM, ← hsb]
          have HBM : Hid (∀ wr, Wr wM wr (.slice (some ⟨sb, 0, none⟩) C C) → BS wB (fun i k => atI xs C i k) ρ R C (bestN (fun i k => atI xs C i k) ρ R C n) fb u7 u8 wr) := fun wr h => HB.out.fresh hsb (hwM ▸ h)
          have hxM := hx.trans hal
          replace of := of.ext hal
          have OS0 := Lib.hid os
          clear hmk hwM hsb hal c1 hx HB
          have c1 := (b0.ext hxM).cell 1 rfl
          go_wp2_with fail
          clear c1
          go_loopw [11, 40] (fun u v wr => ∃ k : Nat, k ≤ C ∧ v = .int .i64 k ∧ u = .int .i64 (sqI (vecN (fun i k => atI xs C i k) ρ R n) k) ∧ Own wr wB.heap.size 2 (.slice (some ⟨sb, 0, none⟩) C C) (ints (lstI C (psum (fun i k => atI xs C i k) ρ R n k 0))) ∧ Wr wM wr (.slice (some ⟨sb, 0, none⟩) C C)) (fun _ v _ => C - (intOf v).toNat)
          case atStart => exact ⟨0, Nat.zero_le _, rfl, rfl, os, Wr.refl _ _⟩
          case round =>
            rename World => wK
            obtain ⟨k, hk, rfl, rfl, os, hW⟩ := hrel
            by_cases hkC : k < C
            · have g1 : IntKind.i64.wrap ((k : Int) + 1) = (k : Int) + 1 := IntWalk.i64_in _ (by omega)
              have hsq := sq_bound (n := n) hρ3 hR4 hC6 HA.out (Nat.le_of_lt hkC)
              obtain ⟨q, hqq⟩ : ∃ q, q = sqI (vecN (fun i k => atI xs C i k) ρ R n) k := ⟨_, rfl⟩
              have HQ := Lib.hid hqq
              rw [← hqq] at hsq
              rw [← hqq]
              clear hqq
              go_wp2_with fail
              go_loopw [45] (fun v wr => ∃ i : Nat, i ≤ R ∧ v = .int .i64 i ∧ Own wr wB.heap.size 2 (.slice (some ⟨sb, 0, none⟩) C C) (ints (lstI C (psum (fun i k => atI xs C i k) ρ R n k i))) ∧ Wr wM wr (.slice (some ⟨sb, 0, none⟩) C C)) (fun v _ => R - (intOf v).toNat)
              case atStart => exact ⟨0, Nat.zero_le _, rfl, os, hW⟩
              case round =>
                rename World => wI
                clear os hW
                obtain ⟨i, hi, rfl, os, hW⟩ := hrel
                have hxI := hW.ext hxM OS0.out
                by_cases hiR : i < R
                · have g2 : IntKind.i64.wrap ((i : Int) + 1) = (i : Int) + 1 := IntWalk.i64_in _ (by omega)
                  have of2 := of.other hW (.inr (by simpa [Value.ownBlock] using hfs))
                  have hcf := (of2.at_ i hiR).1
                  rw [ints_get (by rw [lstI_length]; exact hiR), lstI_rd hiR] at hcf
                  obtain ⟨hcs, hfz⟩ := os.at_ k hkC
                  rw [ints_get (by rw [lstI_length]; exact hkC), lstI_rd hkC, psum_at] at hcs
                  have hb1 := vec_bound (n := n) (i := i) hρ3 hR4 HA.out hkC hi
                  have hb2 := prod_bound (n := n) (R := R) hρ3 (HA.out i k hiR hkC) i
                  have hps := psum_set (fun i k => atI xs C i k) ρ R C n k i
                  obtain ⟨f, hf⟩ : ∃ f, f = facI ρ R n i := ⟨_, rfl⟩
                  obtain ⟨z, hz⟩ : ∃ z, z = atI xs C i k := ⟨_, rfl⟩
                  obtain ⟨s, hs⟩ : ∃ s, s = sumI (fun p => facI ρ R n p * atI xs C p k) 0 i := ⟨_, rfl⟩
                  have HZ := Lib.hid hz
                  rw [← hf] at hcf hb2 hps
                  rw [← hz] at hb2 hps
                  rw [← hs] at hcs hb1 hps
                  have HPS := Lib.hid hps
                  clear hf hz hs hps of2
                  have g3 : IntKind.i64.wrap (f * z) = f * z := IntWalk.i64_in _ (by omega)
                  have g4 : IntKind.i64.wrap (s + f * z) = s + f * z := IntWalk.i64_in _ (by omega)
                  have c0 := (b0.ext hxI).cell 0 rfl
                  have c1 := (b0.ext hxI).cell 1 rfl
                  have c2 := (b0.ext hxI).cell 2 rfl
                  go_upto_region 13 with (fail)
                  refine wp_region_T (cs := []) [0, 1, 2, 3, 4, 5, 6, 7, 8, 9, 10] [11, 12] [8] [] (fun i__ v => match i__ with | 8 => v = (.int .i64 z) | _ => False) (fun _ _ _ => True) (by kernel_rfl) (by kernel_rfl) (fun _ _ _ _ _ _ => trivial) ?_
                  refine' wpT_det (o := ⟨some 50, Op.move (Operand.tmp 10), 22, "l06_integers.go:561", #[], none⟩) rfl (by rfl) (by rfl) (fun w' hw' => ?_) ?_; rotate_left
                  · go_simp <;> first | rfl | exact ⟨rfl, rfl⟩
                  simp only [Act.put, List.setIfInBounds_toArray, List.set_cons_zero, List.set_cons_succ]
                  refine' wpT_det (o := ⟨some 51, Op.move (Operand.tmp 12), 2, "l06_integers.go:561", #[], none⟩) rfl (by rfl) (by rfl) (fun w' hw' => ?_) ?_; rotate_left
                  · go_simp <;> first | rfl | exact ⟨rfl, rfl⟩
                  simp only [Act.put, List.setIfInBounds_toArray, List.set_cons_zero, List.set_cons_succ]
                  refine' wpT_det (o := ⟨some 52, Op.indexAddr 22 (Operand.tmp 50) (Operand.tmp 51), 0, "l06_integers.go:561", #[{ on := 0, ground := Ground.data }, { on := 1, ground := Ground.data }], none⟩) rfl (by rfl) (by rfl) (fun w' hw' => ?_) ?_; rotate_left
                  · go_simp <;> first | rfl | exact ⟨rfl, rfl⟩
                  simp only [Act.put, List.setIfInBounds_toArray, List.set_cons_zero, List.set_cons_succ]
                  refine' wpT_det (o := ⟨some 53, Op.load 2 (Operand.tmp 52), 2, "l06_integers.go:561", #[{ on := 2, ground := Ground.data }], none⟩) rfl (by rfl) (by rfl) (fun w' hw' => ?_) ?_; rotate_left
                  · have c0_ := Ext.cell hw' c0; have c1_ := Ext.cell hw' c1; have c2_ := Ext.cell hw' c2; have hcs_ := Ext.cell hw' hcs; go_simp <;> first | rfl | exact ⟨rfl, rfl⟩
                  simp only [Act.put, List.setIfInBounds_toArray, List.set_cons_zero, List.set_cons_succ]
                  refine' wpT_det (o := ⟨some 54, Op.move (Operand.tmp 14), 2, "l06_integers.go:561", #[], none⟩) rfl (by rfl) (by rfl) (fun w' hw' => ?_) ?_; rotate_left
                  · go_simp <;> first | rfl | exact ⟨rfl, rfl⟩
                  simp only [Act.put, List.setIfInBounds_toArray, List.set_cons_zero, List.set_cons_succ]
                  refine' wpT_det (o := ⟨some 55, Op.load 31 (Operand.tmp 2), 31, "l06_integers.go:561", #[], none⟩) rfl (by rfl) (by rfl) (fun w' hw' => ?_) ?_; rotate_left
                  · have c0_ := Ext.cell hw' c0; have c1_ := Ext.cell hw' c1; have c2_ := Ext.cell hw' c2; have hcs_ := Ext.cell hw' hcs; go_simp <;> first | rfl | exact ⟨rfl, rfl⟩
                  simp only [Act.put, List.setIfInBounds_toArray, List.set_cons_zero, List.set_cons_succ]
                  refine' wpT_det (o := ⟨some 56, Op.move (Operand.tmp 13), 3, "l06_integers.go:561", #[], none⟩) rfl (by rfl) (by rfl) (fun w' hw' => ?_) ?_; rotate_left
                  · go_simp <;> first | rfl | exact ⟨rfl, rfl⟩
                  simp only [Act.put, List.setIfInBounds_toArray, List.set_cons_zero, List.set_cons_succ]
                  refine' wpT_det (o := ⟨some 57, Op.move (Operand.tmp 12), 2, "l06_integers.go:561", #[], none⟩) rfl (by rfl) (by rfl) (fun w' hw' => ?_) ?_; rotate_left
                  · go_simp <;> first | rfl | exact ⟨rfl, rfl⟩
                  simp only [Act.put, List.setIfInBounds_toArray, List.set_cons_zero, List.set_cons_succ]
                  refine wpT_nd (o := ⟨some 58, Op.call { callee := Callee.value (Operand.func 26), args := #[Operand.tmp 55, Operand.tmp 56, Operand.tmp 57], argTypes := #[31, 2, 2] }, 2, "l06_integers.go:561", #[{ on := 5, ground := Ground.data }, { on := 6, ground := Ground.data }, { on := 7, ground := Ground.data }], none⟩) rfl (by rfl) (by rfl) (fun w' hw' hF R__ hGo => ?_) ⟨_, rfl⟩ ?_
                  · go_simp
                    refine gives_enter rfl ?_
                    refine (at_any R C i k nn cap A xs _ hiR hkC hR6 hC6 HN.out (hr.below ((hx0.trans hxI).trans hw'.undrew))).mono ?_
                    rintro e w2 ⟨rfl, hx⟩
                    exact ⟨_, rfl, hGo _ _ hx (congrArg (Value.int .i64) HZ.out.symm) trivial⟩
                  intro v hv
                  obtain rfl : v = (.int .i64 z) := hv
                  simp only [Act.put, List.setIfInBounds_toArray, List.set_cons_zero, List.set_cons_succ]
                  refine' wpT_det (o := ⟨some 59, Op.binOp BinOp.mul 2 (Operand.tmp 54) (Operand.tmp 58) 2, 2, "l06_integers.go:561", #[{ on := 4, ground := Ground.data }, { on := 8, ground := Ground.data }], none⟩) rfl (by rfl) (by rfl) (fun w' hw' => ?_) ?_; rotate_left
                  · go_simp <;> first | rfl | exact ⟨rfl, rfl⟩
                  simp only [Act.put, List.setIfInBounds_toArray, List.set_cons_zero, List.set_cons_succ]
                  refine' wpT_det (o := ⟨some 60, Op.binOp BinOp.add 2 (Operand.tmp 53) (Operand.tmp 59) 2, 2, "l06_integers.go:561", #[{ on := 3, ground := Ground.data }, { on := 9, ground := Ground.data }], none⟩) rfl (by rfl) (by rfl) (fun w' hw' => ?_) ?_; rotate_left
                  · go_simp <;> first | rfl | exact ⟨rfl, rfl⟩
                  simp only [Act.put, List.setIfInBounds_toArray, List.set_cons_zero, List.set_cons_succ]
                  refine wpT_nil (fun w9 hw' hF => ?_)
                  show wpList _ _ _ [(⟨some 61, Op.indexAddr 22 (Operand.tmp 50) (Operand.tmp 51), 0, "l06_integers.go:561", #[{ on := 0, ground := Ground.data }, { on := 1, ground := Ground.data }, { on := 0, ground := Ground.phase }, { on := 1, ground := Ground.phase }, { on := 2, ground := Ground.phase }, { on := 3, ground := Ground.phase }, { on := 4, ground := Ground.phase }, { on := 5, ground := Ground.phase }, { on := 6, ground := Ground.phase }, { on := 7, ground := Ground.phase }, { on := 8, ground := Ground.phase }, { on := 9, ground := Ground.phase }, { on := 10, ground := Ground.phase }], none⟩ : Oper), (⟨none, Op.store 2 (Operand.tmp 61) (Operand.tmp 60), 0, "l06_integers.go:561", #[{ on := 11, ground := Ground.data }, { on := 10, ground := Ground.data }, { on := 8, ground := Ground.chain }, { on := 0, ground := Ground.phase }, { on := 1, ground := Ground.phase }, { on := 2, ground := Ground.phase }, { on := 3, ground := Ground.phase }, { on := 4, ground := Ground.phase }, { on := 5, ground := Ground.phase }, { on := 6, ground := Ground.phase }, { on := 7, ground := Ground.phase }, { on := 8, ground := Ground.phase }, { on := 9, ground := Ground.phase }, { on := 10, ground := Ground.phase }], none⟩ : Oper)] _ _
                  have hx9 := hw'.undrew
                  obtain ⟨hcs9, hfz9⟩ := (os.ext hx9).at_ k hkC
                  obtain ⟨hc8, _⟩ := os.at_ k hkC
                  rw [← hc8, hcs] at hcs9
                  obtain ⟨hs1, hs2⟩ := (os.ext hx9).stored k (.int .i64 (s + f * z))
                  rw [← ints_set, HPS.out] at hs1
                  have hS := Lib.hid hs1
                  clear hF hw' c0 c1 c2 hcs hfz hcf hc8 hs1
                  go_wp2_with fail
                  go_roundw
                  case rel => exact ⟨i + 1, by omega, by go_num, hS.out, (hW.trans (Wr.of_ext hx9 _)).trans hs2⟩
                  case measure => simp [intOf]; omega
                · obtain rfl : R = i := by omega
                  rw [psum_row] at os
                  obtain ⟨hcs, hfz⟩ := os.at_ k hkC
                  rw [ints_get (by rw [lstI_length]; exact hkC), lstI_rd hkC, psum_done] at hcs
                  have hv := vec_bound (n := n) (i := R) hρ3 hR4 HA.out hkC (Nat.le_refl _)
                  have hNQ : Hid (sqI (vecN (fun i k => atI xs C i k) ρ R n) (k + 1) = q + vecN (fun i k => atI xs C i k) ρ R n k * vecN (fun i k => atI xs C i k) ρ R n k) := by show _ = _; rw [HQ.out]; rfl
                  have hv2 : -1200 ≤ vecN (fun i k => atI xs C i k) ρ R n k ∧ vecN (fun i k => atI xs C i k) ρ R n k ≤ 1200 := hv
                  obtain ⟨y, hy⟩ : ∃ y, y = vecN (fun i k => atI xs C i k) ρ R n k := ⟨_, rfl⟩
                  rw [← hy] at hcs hv2 hNQ
                  clear hv hy
                  have hyy := mul_bound hv2
                  have g3 : IntKind.i64.wrap (y * y) = y * y := IntWalk.i64_in _ (by omega)
                  have g4 : IntKind.i64.wrap (q + y * y) = q + y * y := IntWalk.i64_in _ (by omega)
                  go_upto_region 15 with (fail)
                  refine wp_region_T (cs := []) [0, 1, 2, 3, 4, 5, 6, 7, 8, 9, 10, 11] [] [] [] (fun _ _ => False) (fun _ _ _ => True) (by kernel_rfl) (by kernel_rfl) (fun _ _ _ _ _ _ => trivial) ?_
                  refine' wpT_det (o := ⟨some 63, Op.move (Operand.tmp 11), 2, "l06_integers.go:563", #[], none⟩) rfl (by rfl) (by rfl) (fun w' hw' => ?_) ?_; rotate_left
                  · go_simp <;> first | rfl | exact ⟨rfl, rfl⟩
                  simp only [Act.put, List.setIfInBounds_toArray, List.set_cons_zero, List.set_cons_succ]
                  refine' wpT_det (o := ⟨some 64, Op.move (Operand.tmp 10), 22, "l06_integers.go:563", #[], none⟩) rfl (by rfl) (by rfl) (fun w' hw' => ?_) ?_; rotate_left
                  · go_simp <;> first | rfl | exact ⟨rfl, rfl⟩
                  simp only [Act.put, List.setIfInBounds_toArray, List.set_cons_zero, List.set_cons_succ]
                  refine' wpT_det (o := ⟨some 65, Op.move (Operand.tmp 12), 2, "l06_integers.go:563", #[], none⟩) rfl (by rfl) (by rfl) (fun w' hw' => ?_) ?_; rotate_left
                  · go_simp <;> first | rfl | exact ⟨rfl, rfl⟩
                  simp only [Act.put, List.setIfInBounds_toArray, List.set_cons_zero, List.set_cons_succ]
                  refine' wpT_det (o := ⟨some 66, Op.indexAddr 22 (Operand.tmp 64) (Operand.tmp 65), 0, "l06_integers.go:563", #[{ on := 1, ground := Ground.data }, { on := 2, ground := Ground.data }], none⟩) rfl (by rfl) (by rfl) (fun w' hw' => ?_) ?_; rotate_left
                  · go_simp <;> first | rfl | exact ⟨rfl, rfl⟩
                  simp only [Act.put, List.setIfInBounds_toArray, List.set_cons_zero, List.set_cons_succ]
                  refine' wpT_det (o := ⟨some 67, Op.load 2 (Operand.tmp 66), 2, "l06_integers.go:563", #[{ on := 3, ground := Ground.data }], none⟩) rfl (by rfl) (by rfl) (fun w' hw' => ?_) ?_; rotate_left
                  · have hcs_ := Ext.cell hw' hcs; go_simp <;> first | rfl | exact ⟨rfl, rfl⟩
                  simp only [Act.put, List.setIfInBounds_toArray, List.set_cons_zero, List.set_cons_succ]
                  refine' wpT_det (o := ⟨some 68, Op.move (Operand.tmp 10), 22, "l06_integers.go:563", #[], none⟩) rfl (by rfl) (by rfl) (fun w' hw' => ?_) ?_; rotate_left
                  · go_simp <;> first | rfl | exact ⟨rfl, rfl⟩
                  simp only [Act.put, List.setIfInBounds_toArray, List.set_cons_zero, List.set_cons_succ]
                  refine' wpT_det (o := ⟨some 69, Op.move (Operand.tmp 12), 2, "l06_integers.go:563", #[], none⟩) rfl (by rfl) (by rfl) (fun w' hw' => ?_) ?_; rotate_left
                  · go_simp <;> first | rfl | exact ⟨rfl, rfl⟩
                  simp only [Act.put, List.setIfInBounds_toArray, List.set_cons_zero, List.set_cons_succ]
                  refine' wpT_det (o := ⟨some 70, Op.indexAddr 22 (Operand.tmp 68) (Operand.tmp 69), 0, "l06_integers.go:563", #[{ on := 5, ground := Ground.data }, { on := 6, ground := Ground.data }], none⟩) rfl (by rfl) (by rfl) (fun w' hw' => ?_) ?_; rotate_left
                  · go_simp <;> first | rfl | exact ⟨rfl, rfl⟩
                  simp only [Act.put, List.setIfInBounds_toArray, List.set_cons_zero, List.set_cons_succ]
                  refine' wpT_det (o := ⟨some 71, Op.load 2 (Operand.tmp 70), 2, "l06_integers.go:563", #[{ on := 7, ground := Ground.data }], none⟩) rfl (by rfl) (by rfl) (fun w' hw' => ?_) ?_; rotate_left
                  · have hcs_ := Ext.cell hw' hcs; go_simp <;> first | rfl | exact ⟨rfl, rfl⟩
                  simp only [Act.put, List.setIfInBounds_toArray, List.set_cons_zero, List.set_cons_succ]
                  refine' wpT_det (o := ⟨some 72, Op.binOp BinOp.mul 2 (Operand.tmp 67) (Operand.tmp 71) 2, 2, "l06_integers.go:563", #[{ on := 4, ground := Ground.data }, { on := 8, ground := Ground.data }], none⟩) rfl (by rfl) (by rfl) (fun w' hw' => ?_) ?_; rotate_left
                  · go_simp <;> first | rfl | exact ⟨rfl, rfl⟩
                  simp only [Act.put, List.setIfInBounds_toArray, List.set_cons_zero, List.set_cons_succ]
                  refine' wpT_det (o := ⟨some 73, Op.binOp BinOp.add 2 (Operand.tmp 63) (Operand.tmp 72) 2, 2, "l06_integers.go:563", #[{ on := 0, ground := Ground.data }, { on := 9, ground := Ground.data }], none⟩) rfl (by rfl) (by rfl) (fun w' hw' => ?_) ?_; rotate_left
                  · go_simp <;> first | rfl | exact ⟨rfl, rfl⟩
                  simp only [Act.put, List.setIfInBounds_toArray, List.set_cons_zero, List.set_cons_succ]
                  refine' wpT_det (o := ⟨some 11, Op.assign (Operand.tmp 73), 2, "l06_integers.go:563", #[{ on := 10, ground := Ground.data }, { on := 0, ground := Ground.phase }, { on := 1, ground := Ground.phase }, { on := 2, ground := Ground.phase }, { on := 3, ground := Ground.phase }, { on := 4, ground := Ground.phase }, { on := 5, ground := Ground.phase }, { on := 6, ground := Ground.phase }, { on := 7, ground := Ground.phase }, { on := 8, ground := Ground.phase }, { on := 9, ground := Ground.phase }, { on := 10, ground := Ground.phase }], none⟩) rfl (by rfl) (by rfl) (fun w' hw' => ?_) ?_; rotate_left
                  · go_simp <;> first | rfl | exact ⟨rfl, rfl⟩
                  simp only [Act.put, List.setIfInBounds_toArray, List.set_cons_zero, List.set_cons_succ]
                  refine wpT_nil (fun w9 hw' hF => ?_)
                  refine wpList_nil ?_
                  have hx9 := hw'.undrew
                  replace os := os.ext hx9
                  have hW9 := hW.trans (Wr.of_ext hx9 _)
                  clear hF hw' hcs hfz hW hxI
                  go_wp2_with fail
                  go_roundw
                  case rel => exact ⟨k + 1, by omega, by go_num, by rw [hNQ.out], os, hW9⟩
                  case measure => simp [intOf]; omega
            · obtain rfl : C = k := by omega
              rw [psum_end] at os
              have hsz := sq_bound (n := n) (C := C) hρ3 hR4 hC6 HA.out (Nat.le_refl _)
              replace of := of.other hW (.inr (by simpa [Value.ownBlock] using hfs))
              have hx := hW.ext hxM OS0.out
              have hBK := HBM.out wK hW
              clear hW hxM
              have HSZ : Hid (sqI (vecN (fun i k => atI xs C i k) ρ R n) C = sizN (fun i k => atI xs C i k) ρ R C n) := rfl
              rw [HSZ.out] at hsz
              rw [HSZ.out]
              obtain ⟨z, hz⟩ : ∃ z, z = sizN (fun i k => atI xs C i k) ρ R C n := ⟨_, rfl⟩
              rw [← hz] at hsz
              rw [← hz]
              have hn1_ := nil_eq1
              have hn2_ := nil_eq2
              have hn3_ := nil_ne1
              have hn4_ := nil_ne2
              by_cases hpos : 0 < z
              · cases hbn : bestN (fun i k => atI xs C i k) ρ R C n with
                | none =>
                  have HB := Lib.hid (show BS wB (fun i k => atI xs C i k) ρ R C (bestN (fun i k => atI xs C i k) ρ R C (n + 1)) fb (.slice (some ⟨sb, 0, none⟩) C C) (.int .i64 z) wK from by
                    rw [hz] at hpos
                    rw [bestN_take hpos (fun p h => by rw [hbn] at h; cases h), hz]
                    exact ⟨sb, rfl, rfl, os, hfs.symm⟩)
                  rw [hbn] at hBK
                  obtain ⟨rfl, rfl⟩ := hBK
                  clear hz hbn os HBM
                  go_upto_region 19 with (fail)
                  rw [← odo_zero ρ R n] at of
                  have HT0 := Lib.hid (trail_zero (2 * ρ + 1) n)
                  go_wp2_with fail
                  go_loopw [15] (fun v wr => ∃ m : Nat, m ≤ R ∧ v = .int .i64 ((R : Int) - 1 - m) ∧ Hid (trail (2 * ρ + 1) n m) ∧ Own wr wB.heap.size 2 (.slice (some ⟨fb, 0, none⟩) R R) (ints (lstI R (odo ρ R n m))) ∧ Wr wK wr (.slice (some ⟨fb, 0, none⟩) R R)) (fun v _ => (intOf v + 1).toNat)
                  case atStart => exact ⟨0, Nat.zero_le _, by go_num, HT0, of, Wr.refl _ _⟩
                  case round =>
                    rename World => wO
                    obtain ⟨m, hm, rfl, HT, of2, hW⟩ := hrel
                    replace hx := hW.ext hx of
                    clear of
                    have g0 : IntKind.i64.wrap (-(ρ : Int)) = -(ρ : Int) := IntWalk.i64_in _ (by omega)
                    by_cases hmR : m < R
                    · have hp1 : (0 : Int) ≤ (R : Int) - 1 - m := by omega
                      have hp2 : ((R : Int) - 1 - m).toNat = R - 1 - m := by omega
                      have hp3 : (R : Int) - 1 - m < R := by omega
                      have g1 : IntKind.i64.wrap ((R : Int) - 1 - m - 1) = (R : Int) - 1 - m - 1 := IntWalk.i64_in _ (by omega)
                      obtain ⟨hcf, hff⟩ := of2.at_ (R - 1 - m) (by omega)
                      rw [ints_get (by rw [lstI_length]; omega), lstI_rd (by omega), odo_at hmR] at hcf
                      by_cases hq : facI ρ R n (R - 1 - m) = ρ
                      · have HT2 := Lib.hid (trail_step (by omega) HT.out (fac_full hmR hq))
                        obtain ⟨s1, s2⟩ := of2.stored (R - 1 - m) (.int .i64 (-(ρ : Int)))
                        rw [← ints_set, odo_set hmR] at s1
                        rw [hq] at hcf
                        clear of2 hq hx
                        go_wp2_with fail
                        go_roundw
                        case rel => exact ⟨m + 1, by omega, by go_num, HT2, s1, hW.trans s2⟩
                        case measure => simp [intOf]; omega
                      · have hne : (facI ρ R n (R - 1 - m) == (ρ : Int)) = false := by simpa using hq
                        have hrf := facI_range ρ R n (R - 1 - m)
                        have g2 : IntKind.i64.wrap (facI ρ R n (R - 1 - m) + 1) = facI ρ R n (R - 1 - m) + 1 := IntWalk.i64_in _ (by omega)
                        obtain ⟨s1, s2⟩ := of2.stored (R - 1 - m) (.int .i64 (facI ρ R n (R - 1 - m) + 1))
                        rw [← ints_set, odo_inc hmR HT.out (fac_less hmR hq)] at s1
                        have hx2 := s2.ext hx of2
                        have hlt2 : n + 1 < allN ρ R := by
                          have h1 := dgt_not_all (R := R) (by omega) HT.out (fac_less hmR hq) hmR
                          unfold allN at hn ⊢
                          omega
                        have HB2 := Lib.hid ((HB.out.wr hW).wr s2)
                        obtain ⟨ff, hfq⟩ : ∃ ff, ff = facI ρ R n (R - 1 - m) := ⟨_, rfl⟩
                        rw [← hfq] at s1 s2 hx2 HB2 hcf hne g2
                        clear of2 hq hrf hW hx hfq
                        go_wp2_with fail
                        go_roundg (allN ρ R - (n + 1) - 1)
                        case measure => omega
                        case rel => exact ⟨n + 1, hlt2, by omega, HB2.out, s1, hx2⟩
                    · obtain rfl : R = m := by omega
                      have hall : n + 1 = allN ρ R := trail_all HT.out hn
                      have HB2 := HB.out.wr hW
                      rw [hall] at HB2
                      have hneg : (R : Int) - 1 - R = -1 := by omega
                      rw [hneg]
                      clear of2 hW hall
                      cases hbz : bestN (fun i k => atI xs C i k) ρ R C (allN ρ R) with
                      | none => rw [hbz] at HB2; obtain ⟨e, _⟩ := HB2; cases e
                      | some p9 =>
                        rw [hbz] at HB2
                        obtain ⟨g9, e1, e2, ob, _⟩ := HB2
                        rw [← e1] at ob
                        have HV := Lib.hid e2
                        have hD : Hid (D = (lstI C (vecN (fun i k => atI xs C i k) ρ R p9.1), p9.2, true)) := HD.out.trans (shoV_some hbz)
                        clear e1 e2 hbz
                        go_wp2_with fail
                        refine bodyPost_ret (v := .tuple #[.slice (some ⟨sb, 0, none⟩) C C, .int .i64 z, .bool true]) (by simp only [results, Try.results15]; simp [go_sem]) rfl ?_
                        rw [hD.out]
                        have hw3 : (lstI C (vecN (fun i k => atI xs C i k) ρ R p9.1)).length = C := by rw [lstI_length]
                        refine ⟨some ⟨sb, 0, none⟩, C, ?_, ?_, hx0.trans hx⟩
                        · rw [HV.out]
                          show _ = Ending.returned (.tuple #[.slice _ (lstI C (vecN (fun i k => atI xs C i k) ρ R p9.1)).length C, _, _])
                          rw [hw3]
                        · show Own _ _ _ (.slice _ (lstI C (vecN (fun i k => atI xs C i k) ρ R p9.1)).length C) _
                          rw [hw3]
                          exact ob.base hx0.size
                | some p =>
                  by_cases hl : z < p.2
                  · have HB := Lib.hid (show BS wB (fun i k => atI xs C i k) ρ R C (bestN (fun i k => atI xs C i k) ρ R C (n + 1)) fb (.slice (some ⟨sb, 0, none⟩) C C) (.int .i64 z) wK from by
                      rw [hz] at hpos hl
                      rw [bestN_take hpos (fun p' h => by rw [hbn] at h; cases h; exact hl), hz]
                      exact ⟨sb, rfl, rfl, os, hfs.symm⟩)
                    rw [hbn] at hBK
                    obtain ⟨g8, rfl, rfl, _, _⟩ := hBK
                    clear hz hbn os HBM
                    go_upto_region 19 with (fail)
                    rw [← odo_zero ρ R n] at of
                    have HT0 := Lib.hid (trail_zero (2 * ρ + 1) n)
                    go_wp2_with fail
                    go_loopw [15] (fun v wr => ∃ m : Nat, m ≤ R ∧ v = .int .i64 ((R : Int) - 1 - m) ∧ Hid (trail (2 * ρ + 1) n m) ∧ Own wr wB.heap.size 2 (.slice (some ⟨fb, 0, none⟩) R R) (ints (lstI R (odo ρ R n m))) ∧ Wr wK wr (.slice (some ⟨fb, 0, none⟩) R R)) (fun v _ => (intOf v + 1).toNat)
                    case atStart => exact ⟨0, Nat.zero_le _, by go_num, HT0, of, Wr.refl _ _⟩
                    case round =>
                      rename World => wO
                      obtain ⟨m, hm, rfl, HT, of2, hW⟩ := hrel
                      replace hx := hW.ext hx of
                      clear of
                      have g0 : IntKind.i64.wrap (-(ρ : Int)) = -(ρ : Int) := IntWalk.i64_in _ (by omega)
                      by_cases hmR : m < R
                      · have hp1 : (0 : Int) ≤ (R : Int) - 1 - m := by omega
                        have hp2 : ((R : Int) - 1 - m).toNat = R - 1 - m := by omega
                        have hp3 : (R : Int) - 1 - m < R := by omega
                        have g1 : IntKind.i64.wrap ((R : Int) - 1 - m - 1) = (R : Int) - 1 - m - 1 := IntWalk.i64_in _ (by omega)
                        obtain ⟨hcf, hff⟩ := of2.at_ (R - 1 - m) (by omega)
                        rw [ints_get (by rw [lstI_length]; omega), lstI_rd (by omega), odo_at hmR] at hcf
                        by_cases hq : facI ρ R n (R - 1 - m) = ρ
                        · have HT2 := Lib.hid (trail_step (by omega) HT.out (fac_full hmR hq))
                          obtain ⟨s1, s2⟩ := of2.stored (R - 1 - m) (.int .i64 (-(ρ : Int)))
                          rw [← ints_set, odo_set hmR] at s1
                          rw [hq] at hcf
                          clear of2 hq hx
                          go_wp2_with fail
                          go_roundw
                          case rel => exact ⟨m + 1, by omega, by go_num, HT2, s1, hW.trans s2⟩
                          case measure => simp [intOf]; omega
                        · have hne : (facI ρ R n (R - 1 - m) == (ρ : Int)) = false := by simpa using hq
                          have hrf := facI_range ρ R n (R - 1 - m)
                          have g2 : IntKind.i64.wrap (facI ρ R n (R - 1 - m) + 1) = facI ρ R n (R - 1 - m) + 1 := IntWalk.i64_in _ (by omega)
                          obtain ⟨s1, s2⟩ := of2.stored (R - 1 - m) (.int .i64 (facI ρ R n (R - 1 - m) + 1))
                          rw [← ints_set, odo_inc hmR HT.out (fac_less hmR hq)] at s1
                          have hx2 := s2.ext hx of2
                          have hlt2 : n + 1 < allN ρ R := by
                            have h1 := dgt_not_all (R := R) (by omega) HT.out (fac_less hmR hq) hmR
                            unfold allN at hn ⊢
                            omega
                          have HB2 := Lib.hid ((HB.out.wr hW).wr s2)
                          obtain ⟨ff, hfq⟩ : ∃ ff, ff = facI ρ R n (R - 1 - m) := ⟨_, rfl⟩
                          rw [← hfq] at s1 s2 hx2 HB2 hcf hne g2
                          clear of2 hq hrf hW hx hfq
                          go_wp2_with fail
                          go_roundg (allN ρ R - (n + 1) - 1)
                          case measure => omega
                          case rel => exact ⟨n + 1, hlt2, by omega, HB2.out, s1, hx2⟩
                      · obtain rfl : R = m := by omega
                        have hall : n + 1 = allN ρ R := trail_all HT.out hn
                        have HB2 := HB.out.wr hW
                        rw [hall] at HB2
                        have hneg : (R : Int) - 1 - R = -1 := by omega
                        rw [hneg]
                        clear of2 hW hall
                        cases hbz : bestN (fun i k => atI xs C i k) ρ R C (allN ρ R) with
                        | none => rw [hbz] at HB2; obtain ⟨e, _⟩ := HB2; cases e
                        | some p9 =>
                          rw [hbz] at HB2
                          obtain ⟨g9, e1, e2, ob, _⟩ := HB2
                          rw [← e1] at ob
                          have HV := Lib.hid e2
                          have hD : Hid (D = (lstI C (vecN (fun i k => atI xs C i k) ρ R p9.1), p9.2, true)) := HD.out.trans (shoV_some hbz)
                          clear e1 e2 hbz
                          go_wp2_with fail
                          refine bodyPost_ret (v := .tuple #[.slice (some ⟨sb, 0, none⟩) C C, .int .i64 z, .bool true]) (by simp only [results, Try.results15]; simp [go_sem]) rfl ?_
                          rw [hD.out]
                          have hw3 : (lstI C (vecN (fun i k => atI xs C i k) ρ R p9.1)).length = C := by rw [lstI_length]
                          refine ⟨some ⟨sb, 0, none⟩, C, ?_, ?_, hx0.trans hx⟩
                          · rw [HV.out]
                            show _ = Ending.returned (.tuple #[.slice _ (lstI C (vecN (fun i k => atI xs C i k) ρ R p9.1)).length C, _, _])
                            rw [hw3]
                          · show Own _ _ _ (.slice _ (lstI C (vecN (fun i k => atI xs C i k) ρ R p9.1)).length C) _
                            rw [hw3]
                            exact ob.base hx0.size
                  · have HB := Lib.hid (show BS wB (fun i k => atI xs C i k) ρ R C (bestN (fun i k => atI xs C i k) ρ R C (n + 1)) fb u7 u8 wK from by
                      rw [hz] at hl
                      rw [bestN_keep (.inr ⟨p, hbn, hl⟩)]
                      exact hBK)
                    rw [hbn] at hBK
                    obtain ⟨g8, rfl, rfl, _, _⟩ := hBK
                    clear hz hbn os HBM
                    go_upto_region 19 with (fail)
                    rw [← odo_zero ρ R n] at of
                    have HT0 := Lib.hid (trail_zero (2 * ρ + 1) n)
                    go_wp2_with fail
                    go_loopw [15] (fun v wr => ∃ m : Nat, m ≤ R ∧ v = .int .i64 ((R : Int) - 1 - m) ∧ Hid (trail (2 * ρ + 1) n m) ∧ Own wr wB.heap.size 2 (.slice (some ⟨fb, 0, none⟩) R R) (ints (lstI R (odo ρ R n m))) ∧ Wr wK wr (.slice (some ⟨fb, 0, none⟩) R R)) (fun v _ => (intOf v + 1).toNat)
                    case atStart => exact ⟨0, Nat.zero_le _, by go_num, HT0, of, Wr.refl _ _⟩
                    case round =>
                      rename World => wO
                      obtain ⟨m, hm, rfl, HT, of2, hW⟩ := hrel
                      replace hx := hW.ext hx of
                      clear of
                      have g0 : IntKind.i64.wrap (-(ρ : Int)) = -(ρ : Int) := IntWalk.i64_in _ (by omega)
                      by_cases hmR : m < R
                      · have hp1 : (0 : Int) ≤ (R : Int) - 1 - m := by omega
                        have hp2 : ((R : Int) - 1 - m).toNat = R - 1 - m := by omega
                        have hp3 : (R : Int) - 1 - m < R := by omega
                        have g1 : IntKind.i64.wrap ((R : Int) - 1 - m - 1) = (R : Int) - 1 - m - 1 := IntWalk.i64_in _ (by omega)
                        obtain ⟨hcf, hff⟩ := of2.at_ (R - 1 - m) (by omega)
                        rw [ints_get (by rw [lstI_length]; omega), lstI_rd (by omega), odo_at hmR] at hcf
                        by_cases hq : facI ρ R n (R - 1 - m) = ρ
                        · have HT2 := Lib.hid (trail_step (by omega) HT.out (fac_full hmR hq))
                          obtain ⟨s1, s2⟩ := of2.stored (R - 1 - m) (.int .i64 (-(ρ : Int)))
                          rw [← ints_set, odo_set hmR] at s1
                          rw [hq] at hcf
                          clear of2 hq hx
                          go_wp2_with fail
                          go_roundw
                          case rel => exact ⟨m + 1, by omega, by go_num, HT2, s1, hW.trans s2⟩
                          case measure => simp [intOf]; omega
                        · have hne : (facI ρ R n (R - 1 - m) == (ρ : Int)) = false := by simpa using hq
                          have hrf := facI_range ρ R n (R - 1 - m)
                          have g2 : IntKind.i64.wrap (facI ρ R n (R - 1 - m) + 1) = facI ρ R n (R - 1 - m) + 1 := IntWalk.i64_in _ (by omega)
                          obtain ⟨s1, s2⟩ := of2.stored (R - 1 - m) (.int .i64 (facI ρ R n (R - 1 - m) + 1))
                          rw [← ints_set, odo_inc hmR HT.out (fac_less hmR hq)] at s1
                          have hx2 := s2.ext hx of2
                          have hlt2 : n + 1 < allN ρ R := by
                            have h1 := dgt_not_all (R := R) (by omega) HT.out (fac_less hmR hq) hmR
                            unfold allN at hn ⊢
                            omega
                          have HB2 := Lib.hid ((HB.out.wr hW).wr s2)
                          obtain ⟨ff, hfq⟩ : ∃ ff, ff = facI ρ R n (R - 1 - m) := ⟨_, rfl⟩
                          rw [← hfq] at s1 s2 hx2 HB2 hcf hne g2
                          clear of2 hq hrf hW hx hfq
                          go_wp2_with fail
                          go_roundg (allN ρ R - (n + 1) - 1)
                          case measure => omega
                          case rel => exact ⟨n + 1, hlt2, by omega, HB2.out, s1, hx2⟩
                      · obtain rfl : R = m := by omega
                        have hall : n + 1 = allN ρ R := trail_all HT.out hn
                        have HB2 := HB.out.wr hW
                        rw [hall] at HB2
                        have hneg : (R : Int) - 1 - R = -1 := by omega
                        rw [hneg]
                        clear of2 hW hall
                        cases hbz : bestN (fun i k => atI xs C i k) ρ R C (allN ρ R) with
                        | none => rw [hbz] at HB2; obtain ⟨e, _⟩ := HB2; cases e
                        | some p9 =>
                          rw [hbz] at HB2
                          obtain ⟨g9, e1, e2, ob, _⟩ := HB2
                          rw [← e1] at ob
                          have HV := Lib.hid e2
                          have hD : Hid (D = (lstI C (vecN (fun i k => atI xs C i k) ρ R p9.1), p9.2, true)) := HD.out.trans (shoV_some hbz)
                          clear e1 e2 hbz
                          go_wp2_with fail
                          refine bodyPost_ret (v := .tuple #[.slice (some ⟨g8, 0, none⟩) C C, .int .i64 p.2, .bool true]) (by simp only [results, Try.results15]; simp [go_sem]) rfl ?_
                          rw [hD.out]
                          have hw3 : (lstI C (vecN (fun i k => atI xs C i k) ρ R p9.1)).length = C := by rw [lstI_length]
                          refine ⟨some ⟨g8, 0, none⟩, C, ?_, ?_, hx0.trans hx⟩
                          · rw [HV.out]
                            show _ = Ending.returned (.tuple #[.slice _ (lstI C (vecN (fun i k => atI xs C i k) ρ R p9.1)).length C, _, _])
                            rw [hw3]
                          · show Own _ _ _ (.slice _ (lstI C (vecN (fun i k => atI xs C i k) ρ R p9.1)).length C) _
                            rw [hw3]
                            exact ob.base hx0.size
              · have HB := Lib.hid (show BS wB (fun i k => atI xs C i k) ρ R C (bestN (fun i k => atI xs C i k) ρ R C (n + 1)) fb u7 u8 wK from by
                  rw [hz] at hpos
                  rw [bestN_keep (.inl hpos)]
                  exact hBK)
                cases hbn : bestN (fun i k => atI xs C i k) ρ R C n with
                | none =>
                  rw [hbn] at hBK
                  obtain ⟨rfl, rfl⟩ := hBK
                  clear hz hbn os HBM
                  go_upto_region 19 with (fail)
                  rw [← odo_zero ρ R n] at of
                  have HT0 := Lib.hid (trail_zero (2 * ρ + 1) n)
                  go_wp2_with fail
                  go_loopw [15] (fun v wr => ∃ m : Nat, m ≤ R ∧ v = .int .i64 ((R : Int) - 1 - m) ∧ Hid (trail (2 * ρ + 1) n m) ∧ Own wr wB.heap.size 2 (.slice (some ⟨fb, 0, none⟩) R R) (ints (lstI R (odo ρ R n m))) ∧ Wr wK wr (.slice (some ⟨fb, 0, none⟩) R R)) (fun v _ => (intOf v + 1).toNat)
                  case atStart => exact ⟨0, Nat.zero_le _, by go_num, HT0, of, Wr.refl _ _⟩
                  case round =>
                    rename World => wO
                    obtain ⟨m, hm, rfl, HT, of2, hW⟩ := hrel
                    replace hx := hW.ext hx of
                    clear of
                    have g0 : IntKind.i64.wrap (-(ρ : Int)) = -(ρ : Int) := IntWalk.i64_in _ (by omega)
                    by_cases hmR : m < R
                    · have hp1 : (0 : Int) ≤ (R : Int) - 1 - m := by omega
                      have hp2 : ((R : Int) - 1 - m).toNat = R - 1 - m := by omega
                      have hp3 : (R : Int) - 1 - m < R := by omega
                      have g1 : IntKind.i64.wrap ((R : Int) - 1 - m - 1) = (R : Int) - 1 - m - 1 := IntWalk.i64_in _ (by omega)
                      obtain ⟨hcf, hff⟩ := of2.at_ (R - 1 - m) (by omega)
                      rw [ints_get (by rw [lstI_length]; omega), lstI_rd (by omega), odo_at hmR] at hcf
                      by_cases hq : facI ρ R n (R - 1 - m) = ρ
                      · have HT2 := Lib.hid (trail_step (by omega) HT.out (fac_full hmR hq))
                        obtain ⟨s1, s2⟩ := of2.stored (R - 1 - m) (.int .i64 (-(ρ : Int)))
                        rw [← ints_set, odo_set hmR] at s1
                        rw [hq] at hcf
                        clear of2 hq hx
                        go_wp2_with fail
                        go_roundw
                        case rel => exact ⟨m + 1, by omega, by go_num, HT2, s1, hW.trans s2⟩
                        case measure => simp [intOf]; omega
                      · have hne : (facI ρ R n (R - 1 - m) == (ρ : Int)) = false := by simpa using hq
                        have hrf := facI_range ρ R n (R - 1 - m)
                        have g2 : IntKind.i64.wrap (facI ρ R n (R - 1 - m) + 1) = facI ρ R n (R - 1 - m) + 1 := IntWalk.i64_in _ (by omega)
                        obtain ⟨s1, s2⟩ := of2.stored (R - 1 - m) (.int .i64 (facI ρ R n (R - 1 - m) + 1))
                        rw [← ints_set, odo_inc hmR HT.out (fac_less hmR hq)] at s1
                        have hx2 := s2.ext hx of2
                        have hlt2 : n + 1 < allN ρ R := by
                          have h1 := dgt_not_all (R := R) (by omega) HT.out (fac_less hmR hq) hmR
                          unfold allN at hn ⊢
                          omega
                        have HB2 := Lib.hid ((HB.out.wr hW).wr s2)
                        obtain ⟨ff, hfq⟩ : ∃ ff, ff = facI ρ R n (R - 1 - m) := ⟨_, rfl⟩
                        rw [← hfq] at s1 s2 hx2 HB2 hcf hne g2
                        clear of2 hq hrf hW hx hfq
                        go_wp2_with fail
                        go_roundg (allN ρ R - (n + 1) - 1)
                        case measure => omega
                        case rel => exact ⟨n + 1, hlt2, by omega, HB2.out, s1, hx2⟩
                    · obtain rfl : R = m := by omega
                      have hall : n + 1 = allN ρ R := trail_all HT.out hn
                      have HB2 := HB.out.wr hW
                      rw [hall] at HB2
                      have hneg : (R : Int) - 1 - R = -1 := by omega
                      rw [hneg]
                      clear of2 hW hall
                      cases hbz : bestN (fun i k => atI xs C i k) ρ R C (allN ρ R) with
                      | some p9 => rw [hbz] at HB2; obtain ⟨g9, e1, _⟩ := HB2; cases e1
                      | none =>
                        have hD : Hid (D = ([], 0, false)) := HD.out.trans (shoV_none hbz)
                        clear hbz HB2
                        go_wp2_with fail
                        refine bodyPost_ret (v := .tuple #[.slice none 0 0, .int .i64 0, .bool false]) (by simp only [results, Try.results15]; simp [go_sem]) rfl ?_
                        rw [hD.out]
                        exact ⟨none, 0, rfl, own_nil _ _ _, hx0.trans hx⟩
                | some p =>
                  rw [hbn] at hBK
                  obtain ⟨g8, rfl, rfl, _, _⟩ := hBK
                  clear hz hbn os HBM
                  go_upto_region 19 with (fail)
                  rw [← odo_zero ρ R n] at of
                  have HT0 := Lib.hid (trail_zero (2 * ρ + 1) n)
                  go_wp2_with fail
                  go_loopw [15] (fun v wr => ∃ m : Nat, m ≤ R ∧ v = .int .i64 ((R : Int) - 1 - m) ∧ Hid (trail (2 * ρ + 1) n m) ∧ Own wr wB.heap.size 2 (.slice (some ⟨fb, 0, none⟩) R R) (ints (lstI R (odo ρ R n m))) ∧ Wr wK wr (.slice (some ⟨fb, 0, none⟩) R R)) (fun v _ => (intOf v + 1).toNat)
                  case atStart => exact ⟨0, Nat.zero_le _, by go_num, HT0, of, Wr.refl _ _⟩
                  case round =>
                    rename World => wO
                    obtain ⟨m, hm, rfl, HT, of2, hW⟩ := hrel
                    replace hx := hW.ext hx of
                    clear of
                    have g0 : IntKind.i64.wrap (-(ρ : Int)) = -(ρ : Int) := IntWalk.i64_in _ (by omega)
                    by_cases hmR : m < R
                    · have hp1 : (0 : Int) ≤ (R : Int) - 1 - m := by omega
                      have hp2 : ((R : Int) - 1 - m).toNat = R - 1 - m := by omega
                      have hp3 : (R : Int) - 1 - m < R := by omega
                      have g1 : IntKind.i64.wrap ((R : Int) - 1 - m - 1) = (R : Int) - 1 - m - 1 := IntWalk.i64_in _ (by omega)
                      obtain ⟨hcf, hff⟩ := of2.at_ (R - 1 - m) (by omega)
                      rw [ints_get (by rw [lstI_length]; omega), lstI_rd (by omega), odo_at hmR] at hcf
                      by_cases hq : facI ρ R n (R - 1 - m) = ρ
                      · have HT2 := Lib.hid (trail_step (by omega) HT.out (fac_full hmR hq))
                        obtain ⟨s1, s2⟩ := of2.stored (R - 1 - m) (.int .i64 (-(ρ : Int)))
                        rw [← ints_set, odo_set hmR] at s1
                        rw [hq] at hcf
                        clear of2 hq hx
                        go_wp2_with fail
                        go_roundw
                        case rel => exact ⟨m + 1, by omega, by go_num, HT2, s1, hW.trans s2⟩
                        case measure => simp [intOf]; omega
                      · have hne : (facI ρ R n (R - 1 - m) == (ρ : Int)) = false := by simpa using hq
                        have hrf := facI_range ρ R n (R - 1 - m)
                        have g2 : IntKind.i64.wrap (facI ρ R n (R - 1 - m) + 1) = facI ρ R n (R - 1 - m) + 1 := IntWalk.i64_in _ (by omega)
                        obtain ⟨s1, s2⟩ := of2.stored (R - 1 - m) (.int .i64 (facI ρ R n (R - 1 - m) + 1))
                        rw [← ints_set, odo_inc hmR HT.out (fac_less hmR hq)] at s1
                        have hx2 := s2.ext hx of2
                        have hlt2 : n + 1 < allN ρ R := by
                          have h1 := dgt_not_all (R := R) (by omega) HT.out (fac_less hmR hq) hmR
                          unfold allN at hn ⊢
                          omega
                        have HB2 := Lib.hid ((HB.out.wr hW).wr s2)
                        obtain ⟨ff, hfq⟩ : ∃ ff, ff = facI ρ R n (R - 1 - m) := ⟨_, rfl⟩
                        rw [← hfq] at s1 s2 hx2 HB2 hcf hne g2
                        clear of2 hq hrf hW hx hfq
                        go_wp2_with fail
                        go_roundg (allN ρ R - (n + 1) - 1)
                        case measure => omega
                        case rel => exact ⟨n + 1, hlt2, by omega, HB2.out, s1, hx2⟩
                    · obtain rfl : R = m := by omega
                      have hall : n + 1 = allN ρ R := trail_all HT.out hn
                      have HB2 := HB.out.wr hW
                      rw [hall] at HB2
                      have hneg : (R : Int) - 1 - R = -1 := by omega
                      rw [hneg]
                      clear of2 hW hall
                      cases hbz : bestN (fun i k => atI xs C i k) ρ R C (allN ρ R) with
                      | none => rw [hbz] at HB2; obtain ⟨e, _⟩ := HB2; cases e
                      | some p9 =>
                        rw [hbz] at HB2
                        obtain ⟨g9, e1, e2, ob, _⟩ := HB2
                        rw [← e1] at ob
                        have HV := Lib.hid e2
                        have hD : Hid (D = (lstI C (vecN (fun i k => atI xs C i k) ρ R p9.1), p9.2, true)) := HD.out.trans (shoV_some hbz)
                        clear e1 e2 hbz
                        go_wp2_with fail
                        refine bodyPost_ret (v := .tuple #[.slice (some ⟨g8, 0, none⟩) C C, .int .i64 p.2, .bool true]) (by simp only [results, Try.results15]; simp [go_sem]) rfl ?_
                        rw [hD.out]
                        have hw3 : (lstI C (vecN (fun i k => atI xs C i k) ρ R p9.1)).length = C := by rw [lstI_length]
                        refine ⟨some ⟨g8, 0, none⟩, C, ?_, ?_, hx0.trans hx⟩
                        · rw [HV.out]
                          show _ = Ending.returned (.tuple #[.slice _ (lstI C (vecN (fun i k => atI xs C i k) ρ R p9.1)).length C, _, _])
                          rw [hw3]
                        · show Own _ _ _ (.slice _ (lstI C (vecN (fun i k => atI xs C i k) ρ R p9.1)).length C) _
                          rw [hw3]
                          exact ob.base hx0.size


end Go.Proofs.Ytdmeobffijhloaa
