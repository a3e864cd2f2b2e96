import Derived.Test.YtgjfdfmbknmpaaaM41
set_option linter.unusedVariables false
set_option linter.unusedSimpArgs false
namespace Go.Proofs.Ytgjfdfmbknmpaaa
open Go.RowKit

/-- All values of a chain. -/
def valsL (xs ys : List Nat) (j : Nat) : List Nat := (List.range j).map fun (k : Nat) => (valD xs ys (k : Int)).1
def valsD (xs ys : List Nat) : List Nat × Bool := if isCh xs ys && (List.range xs.length).all (fun (k : Nat) => (valD xs ys (k : Int)).2) then (valsL xs ys xs.length, true) else ([], false)
theorem valsL_succ (xs ys : List Nat) (j : Nat) : valsL xs ys (j + 1) = valsL xs ys j ++ [(valD xs ys (j : Int)).1] := by
  unfold valsL
  rw [List.range_succ, List.map_append]
  rfl
theorem valsL_length (xs ys : List Nat) (j : Nat) : (valsL xs ys j).length = j := by simp [valsL]
theorem vals_bad {xs ys : List Nat} {j : Nat} (hj : j < xs.length) (h : (valD xs ys (j : Int)).2 = false) : valsD xs ys = ([], false) := by
  unfold valsD
  rw [if_neg]
  intro hc
  rw [Bool.and_eq_true, List.all_eq_true] at hc
  have := hc.2 j (by simpa using hj)
  rw [h] at this
  cases this
theorem vals_good {xs ys : List Nat} (hc : isCh xs ys = true) (h : ∀ j, j < xs.length → (valD xs ys ((j : Nat) : Int)).2 = true) : valsD xs ys = (valsL xs ys xs.length, true) := by
  unfold valsD
  rw [if_pos]
  rw [hc, Bool.true_and, List.all_eq_true]
  intro j hj
  exact h j (by simpa using hj)
theorem vals_no {xs ys : List Nat} (hc : isCh xs ys = false) : valsD xs ys = ([], false) := by simp [valsD, hc]
theorem val_in {xs ys : List Nat} {j n : Nat} (hc : isCh xs ys = true) (hn : xs.length = n) (hj : j < n) : halvD xs ys (j : Int) = valD xs ys (j : Int) := by
  rw [val_yes]
  rw [hc, hn, Bool.true_and, inR_iff]
  omega
/-- The list that grows. -/
def VO (xs ys : List Nat) (w : World) (j : Nat) (u : Value) (wr : World) : Prop := ∃ A c zs, u = .slice A j c ∧ Own wr w.heap.size 39 (.slice A j c) (flts zs) ∧ Hid (zs = valsL xs ys j ∧ ∀ k, k < j → (valD xs ys ((k : Nat) : Int)).2 = true) ∧ Ext w wr
theorem VO.start (xs ys : List Nat) (w : World) : VO xs ys w 0 (.slice (some ⟨w.heap.size, 0, none⟩) 0 0) (w.alloc (.cells #[] 39)) := ⟨_, _, [], rfl, Own.empty _ _, ⟨rfl, fun k h => absurd h (Nat.not_lt_zero _)⟩, (Ext.refl _).alloc _⟩
theorem VO.more {xs ys zs : List Nat} {j v : Nat} (h : zs = valsL xs ys j ∧ ∀ k, k < j → (valD xs ys ((k : Nat) : Int)).2 = true) (hv : (v, true) = valD xs ys (j : Int)) : zs ++ [v] = valsL xs ys (j + 1) ∧ ∀ k, k < j + 1 → (valD xs ys ((k : Nat) : Int)).2 = true := by
  refine ⟨by rw [valsL_succ, ← hv, h.1], fun k hk => ?_⟩
  by_cases e : k = j
  · subst e; rw [← hv]
  · exact h.2 k (by omega)

set_option maxRecDepth 20000 in
set_option maxHeartbeats 8000000 in
theorem specValuesOfChain_any (A : Option Addr) (n cap : Nat) (B : Option Addr) (m cap' : Nat) (xs ys : List Nat) (w : World) (hr : Rds w A n (flts xs)) (hq : Rds w B m (flts ys)) (_hwx : ∀ x ∈ xs, x < 4294967296) (hwf : ∀ x ∈ ys, x < 4294967296) :
    Calls Try.prog 96 #[.agg #[.slice A n cap, .slice B m cap']] w (RetLD w (valsD xs ys)) := by
  have HL := Lib.hid hr.flen
  have Hwf := Lib.hid hwf
  have hs1 := hr.small
  clear hwf _hwx
  obtain ⟨d, hd⟩ : ∃ d, d = valsD xs ys := ⟨_, rfl⟩
  have Hd := Lib.hid hd
  rw [← hd]
  clear hd
  cases hc : isCh xs ys with
  | false =>
    have hd : d = ([], false) := Hd.out.trans (vals_no hc)
    go_enter Try.func96, Try.ntmps96
    go_upto_region 1 with (fail)
    obtain ⟨w0, hw0⟩ : ∃ w0, w0 = (w.alloc (.cells #[.slice A n cap, .slice B m cap'] 27)) := ⟨_, rfl⟩
    have hx0 : Ext w w0 := by subst hw0; exact (Ext.refl _).alloc _
    have ba : Blk w0 (w.heap.size) #[.slice A n cap, .slice B m cap'] 27 := by subst hw0; exact (Blk.new w _ _)
    rw [← hw0]
    clear hw0
    go_wp2_with fail
    refine (l04Is_any _ A n cap B m cap' xs ys _ (CAt.of ba (hr.below hx0) (hq.below hx0))).mono ?_
    rintro e w1 ⟨rfl, hx⟩
    rw [hc]
    go_wp2_with fail
    go_ret2
    exact RetLDb.bad hd (hx0.trans hx)
  | true =>
    have Hc := Lib.hid hc
    have hn12 := (ch_nat hc).2.2
    rw [HL.out] at hn12
    go_enter Try.func96, Try.ntmps96
    go_upto_region 1 with (fail)
    obtain ⟨w0, hw0⟩ : ∃ w0, w0 = (w.alloc (.cells #[.slice A n cap, .slice B m cap'] 27)) := ⟨_, rfl⟩
    have hx0 : Ext w w0 := by subst hw0; exact (Ext.refl _).alloc _
    have ba : Blk w0 (w.heap.size) #[.slice A n cap, .slice B m cap'] 27 := by subst hw0; exact (Blk.new w _ _)
    rw [← hw0]
    clear hw0
    go_wp2_with fail
    refine (l04Is_any _ A n cap B m cap' xs ys _ (CAt.of ba (hr.below hx0) (hq.below hx0))).mono ?_
    rintro e w1 ⟨rfl, hx⟩
    rw [hc]
    replace hx0 := hx0.trans hx
    replace ba := ba.ext hx
    clear hx hc
    go_wp2_with fail
    go_loopw [4, 5] (fun u v wr => ∃ j : Nat, j ≤ n ∧ v = .int .i64 j ∧ VO xs ys w1 j u wr) (fun _ v _ => n - (intOf v).toNat)
    case atStart => exact ⟨0, Nat.zero_le _, rfl, VO.start xs ys w1⟩
    case round =>
      obtain ⟨j, hj, rfl, A', c, zs, rfl, ho, HZ, hx⟩ := hrel
      have b1 := ba.ext hx
      have a0 := b1.cell 0 rfl
      by_cases hlt : j < n
      · go_wp2_with fail
        refine (l04Value_any _ A n cap B m cap' xs ys (j : Int) _ ((CAt.of ba (hr.below hx0) (hq.below hx0)).ext hx) Hc.out Hwf.out).mono ?_
        rw [val_in Hc.out HL.out hlt]
        obtain ⟨⟨v, ok⟩, hv⟩ : ∃ d, d = valD xs ys (j : Int) := ⟨_, rfl⟩
        rw [← hv]
        rintro e w2 ⟨rfl, hx2⟩
        have HV := Lib.hid hv
        replace ho := ho.ext hx2
        replace hx := hx.trans hx2
        clear hx2 hv a0 b1
        cases ok with
        | false =>
          have hd : d = ([], false) := Hd.out.trans (vals_bad (j := j) (by rw [HL.out]; exact hlt) (by rw [← HV.out]))
          go_wp2_with fail
          go_ret2
          exact RetLDb.bad hd (hx0.trans hx)
        | true =>
          have ho' := ho.ext ((Ext.refl w2).alloc (.cells #[.float .f32 (v)] 39))
          have hsz := hx.size
          have hl := ho.len
          go_wp2_with (first | fail | (at_builtin; go_loud (refine wpList_app1 rfl _ _ _ rfl (w2.alloc (.cells #[.float .f32 (v)] 39)) w1.heap.size 39 (.float .f32 0) 4 Try.underlying22 info_f32 rfl (by decide) (.slice A' j c) (flts zs) rfl w2.heap.size (.float .f32 (v)) rfl (One.new _ _ _) ho' rfl (by omega) (by simp; omega) ?_); rw [hl]; intro A' c' w4 h5 h6 h7))
          go_roundw
          case rel => exact ⟨j + 1, by omega, by go_num, _, _, zs ++ [v], rfl, by rw [flts_append]; exact h5, VO.more HZ.out HV.out, h6.ext (hx.alloc _) ho'⟩
          case measure => simp [intOf]; omega
      · obtain rfl : j = n := by omega
        have hd : d = (zs, true) := by rw [Hd.out, vals_good Hc.out (by rw [HL.out]; exact HZ.out.2), HL.out, HZ.out.1]
        have hzl : zs.length = j := ho.reads.flen
        subst hd
        go_wp2_with fail
        go_ret2
        exact ⟨A', c, by simp only [hzl]; rfl, by simp only [hzl]; exact ho.base hx0.size, hx0.trans hx⟩

set_option maxRecDepth 20000 in
set_option maxHeartbeats 8000000 in
theorem implValuesOfChain_any (A : Option Addr) (n cap : Nat) (B : Option Addr) (m cap' : Nat) (xs ys : List Nat) (w : World) (hr : Rds w A n (flts xs)) (hq : Rds w B m (flts ys)) :
    Calls Try.prog 97 #[.agg #[.slice A n cap, .slice B m cap']] w (RetLD w (valsD xs ys)) := by
  have HL := Lib.hid hr.flen
  have hs1 := hr.small
  obtain ⟨d, hd⟩ : ∃ d, d = valsD xs ys := ⟨_, rfl⟩
  have Hd := Lib.hid hd
  rw [← hd]
  clear hd
  cases hc : isCh xs ys with
  | false =>
    have hd : d = ([], false) := Hd.out.trans (vals_no hc)
    go_enter Try.func97, Try.ntmps97
    go_upto_region 1 with (fail)
    obtain ⟨w0, hw0⟩ : ∃ w0, w0 = (w.alloc (.cells #[.slice A n cap, .slice B m cap'] 27)) := ⟨_, rfl⟩
    have hx0 : Ext w w0 := by subst hw0; exact (Ext.refl _).alloc _
    have ba : Blk w0 (w.heap.size) #[.slice A n cap, .slice B m cap'] 27 := by subst hw0; exact (Blk.new w _ _)
    rw [← hw0]
    clear hw0
    have a0 := ba.cell 0 rfl
    have a1 := ba.cell 1 rfl
    go_wp2_with fail
    refine (implValidChain_any A n cap B m cap' xs ys _ (hr.below hx0) (hq.below hx0)).mono ?_
    rintro e w1 ⟨rfl, hx⟩
    rw [hc]
    go_wp2_with fail
    go_ret2
    exact RetLDb.bad hd (hx0.trans hx)
  | true =>
    have Hc := Lib.hid hc
    have hn12 := (ch_nat hc).2.2
    rw [HL.out] at hn12
    go_enter Try.func97, Try.ntmps97
    go_upto_region 1 with (fail)
    obtain ⟨w0, hw0⟩ : ∃ w0, w0 = (w.alloc (.cells #[.slice A n cap, .slice B m cap'] 27)) := ⟨_, rfl⟩
    have hx0 : Ext w w0 := by subst hw0; exact (Ext.refl _).alloc _
    have ba : Blk w0 (w.heap.size) #[.slice A n cap, .slice B m cap'] 27 := by subst hw0; exact (Blk.new w _ _)
    rw [← hw0]
    clear hw0
    have a0 := ba.cell 0 rfl
    have a1 := ba.cell 1 rfl
    go_wp2_with fail
    refine (implValidChain_any A n cap B m cap' xs ys _ (hr.below hx0) (hq.below hx0)).mono ?_
    rintro e w1 ⟨rfl, hx⟩
    rw [hc]
    replace hx0 := hx0.trans hx
    replace ba := ba.ext hx
    clear hx hc a0 a1
    have a0 := (ba.ext ((Ext.refl w1).alloc (.cells #[] 39))).cell 0 rfl
    go_wp2_with fail
    go_loopw [4, 15] (fun u v wr => ∃ j : Nat, j ≤ n ∧ v = .int .i64 j ∧ VO xs ys w1 j u wr) (fun _ v _ => n - (intOf v).toNat)
    case atStart => exact ⟨0, Nat.zero_le _, rfl, VO.start xs ys w1⟩
    case round =>
      clear a0
      obtain ⟨j, hj, rfl, A', c, zs, rfl, ho, HZ, hx⟩ := hrel
      have b1 := ba.ext hx
      have a0 := b1.cell 0 rfl
      have a1 := b1.cell 1 rfl
      by_cases hlt : j < n
      · go_wp2_with fail
        refine (implValueOfChain_any A n cap B m cap' (j : Int) xs ys _ ((hr.below hx0).below hx) ((hq.below hx0).below hx)).mono ?_
        obtain ⟨⟨v, ok⟩, hv⟩ : ∃ d, d = valD xs ys (j : Int) := ⟨_, rfl⟩
        rw [← hv]
        rintro e w2 ⟨rfl, hx2⟩
        have HV := Lib.hid hv
        replace ho := ho.ext hx2
        replace hx := hx.trans hx2
        clear hx2 hv a0 a1 b1
        cases ok with
        | false =>
          have hd : d = ([], false) := Hd.out.trans (vals_bad (j := j) (by rw [HL.out]; exact hlt) (by rw [← HV.out]))
          go_wp2_with fail
          go_ret2
          exact RetLDb.bad hd (hx0.trans hx)
        | true =>
          have ho' := ho.ext ((Ext.refl w2).alloc (.cells #[.float .f32 (v)] 39))
          have hsz := hx.size
          have hl := ho.len
          go_wp2_with (first | fail | (at_builtin; go_loud (refine wpList_app1 rfl _ _ _ rfl (w2.alloc (.cells #[.float .f32 (v)] 39)) w1.heap.size 39 (.float .f32 0) 4 Try.underlying22 info_f32 rfl (by decide) (.slice A' j c) (flts zs) rfl w2.heap.size (.float .f32 (v)) rfl (One.new _ _ _) ho' rfl (by omega) (by simp; omega) ?_); rw [hl]; intro A' c' w4 h5 h6 h7))
          go_roundw
          case rel => exact ⟨j + 1, by omega, by go_num, _, _, zs ++ [v], rfl, by rw [flts_append]; exact h5, VO.more HZ.out HV.out, h6.ext (hx.alloc _) ho'⟩
          case measure => simp [intOf]; omega
      · obtain rfl : j = n := by omega
        have hd : d = (zs, true) := by rw [Hd.out, vals_good Hc.out (by rw [HL.out]; exact HZ.out.2), HL.out, HZ.out.1]
        have hzl : zs.length = j := ho.reads.flen
        subst hd
        clear a0 a1
        go_wp2_with fail
        go_ret2
        exact ⟨A', c, by simp only [hzl]; rfl, by simp only [hzl]; exact ho.base hx0.size, hx0.trans hx⟩

end Go.Proofs.Ytgjfdfmbknmpaaa
