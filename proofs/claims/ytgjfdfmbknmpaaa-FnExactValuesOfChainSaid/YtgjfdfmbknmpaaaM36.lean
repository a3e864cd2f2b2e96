import Derived.Test.YtgjfdfmbknmpaaaM35
set_option linter.unusedVariables false
set_option linter.unusedSimpArgs false
namespace Go.Proofs.Ytgjfdfmbknmpaaa
open Go.RowKit

def rnD (r c : Int) (xs : List Nat) : Nat × Bool := if isMat r c xs then giveF (rnF xs c.toNat r.toNat) else (0, false)
theorem rnD_fin (r c : Int) (xs : List Nat) : isFin .f32 (rnD r c xs).1 = true := by
  unfold rnD
  split
  · exact giveF_fin _
  · decide

set_option maxRecDepth 20000 in
set_option maxHeartbeats 4000000 in
theorem implRowNorm_any (r c : Int) (A : Option Addr) (n cap : Nat) (xs : List Nat) (w : World) (hr : Rds w A n (flts xs)) :
    Calls Try.prog 53 #[.agg #[.int .i64 r, .int .i64 c, .slice A n cap]] w (RetND w (rnD r c xs)) := by
  have HL := Lib.hid hr.flen
  cases hv : isMat r c xs with
  | false =>
    have hd : rnD r c xs = (0, false) := by simp [rnD, hv]
    rw [hd]
    go_enter Try.func53, Try.ntmps53
    go_upto_region 1 with (fail)
    obtain ⟨w0, hw0⟩ : ∃ w0, w0 = (w.alloc (.cells #[.int .i64 r, .int .i64 c, .slice A n cap] 35)) := ⟨_, rfl⟩
    have hx0 : Ext w w0 := by subst hw0; exact (Ext.refl _).alloc _
    have ba : Blk w0 (w.heap.size) #[.int .i64 r, .int .i64 c, .slice A n cap] 35 := by subst hw0; exact (Blk.new w _ _)
    rw [← hw0]
    clear hw0
    obtain ⟨c0, c1, c2, hr1⟩ := MAt.blk ba (hr.below hx0)
    go_wp2_with fail
    refine (ValidMatrix_any r c A n cap xs _ hr1).mono ?_
    rintro e w1 ⟨rfl, hx⟩
    rw [hv]
    replace hx0 := hx0.trans hx
    clear c0 c1 c2 hx
    go_wp2_with fail
    go_ret2
    exact ⟨rfl, hx0⟩
  | true =>
    obtain ⟨R, C, rfl, rfl, p1, p2, p3, p4, p5⟩ := mat_nat hv
    have hd : rnD R C xs = giveF (rnF xs C R) := by simp [rnD, hv]
    have Hn : Hid (n = R * C) := by have := HL.out; show n = _; omega
    have hfin : Hid (∀ i k, i < R → k < C → isFin .f32 (at_ xs C i k) = true) := fun i k hi hk => at_fin (mat_fin hv) HL.out hi hk p2 p4 Hn.out
    rw [hd]
    clear hd p5
    go_enter Try.func53, Try.ntmps53
    go_upto_region 1 with (fail)
    obtain ⟨w0, hw0⟩ : ∃ w0, w0 = (w.alloc (.cells #[.int .i64 R, .int .i64 C, .slice A n cap] 35)) := ⟨_, rfl⟩
    have hx0 : Ext w w0 := by subst hw0; exact (Ext.refl _).alloc _
    have ba : Blk w0 (w.heap.size) #[.int .i64 R, .int .i64 C, .slice A n cap] 35 := by subst hw0; exact (Blk.new w _ _)
    rw [← hw0]
    clear hw0
    obtain ⟨c0, c1, c2, hr1⟩ := MAt.blk ba (hr.below hx0)
    go_wp2_with fail
    refine (ValidMatrix_any _ _ A n cap xs _ hr1).mono ?_
    rintro e w1 ⟨rfl, hx⟩
    rw [hv]
    replace ba := ba.ext hx
    replace hx0 := hx0.trans hx
    clear c0 c1 c2 hr1 hx
    obtain ⟨c0, c1, c2, hr1⟩ := MAt.blk ba (hr.below hx0)
    go_wp2_with fail
    refine (rowNorm_any R C n cap A xs _ p2 p4 Hn.out hr1 hfin.out).mono ?_
    rintro e w6 ⟨l, rfl, hlo, hx6⟩
    clear c0 c1 c2
    go_wp2_with fail
    refine (finite_any l _).mono ?_
    rw [hlo]
    intro e w3 h3
    obtain ⟨he, hx3⟩ := h3.nd
    subst he
    go_wp2_with fail
    go_ret2
    exact ⟨rfl, (hx0.trans hx6).trans hx3⟩

set_option maxRecDepth 20000 in
set_option maxHeartbeats 4000000 in
theorem specRowNorm_any (r c : Int) (A : Option Addr) (n cap : Nat) (xs : List Nat) (w : World) (hr : Rds w A n (flts xs)) (hwf : ∀ x ∈ xs, x < 4294967296) :
    Calls Try.prog 52 #[.agg #[.int .i64 r, .int .i64 c, .slice A n cap]] w (RetND w (rnD r c xs)) := by
  have HL := Lib.hid hr.flen
  cases hv : isMat r c xs with
  | false =>
    have hd : rnD r c xs = (0, false) := by simp [rnD, hv]
    rw [hd]
    go_enter Try.func52, Try.ntmps52
    go_upto_region 1 with (fail)
    obtain ⟨w0, hw0⟩ : ∃ w0, w0 = (w.alloc (.cells #[.int .i64 r, .int .i64 c, .slice A n cap] 35)) := ⟨_, rfl⟩
    have hx0 : Ext w w0 := by subst hw0; exact (Ext.refl _).alloc _
    have ba : Blk w0 (w.heap.size) #[.int .i64 r, .int .i64 c, .slice A n cap] 35 := by subst hw0; exact (Blk.new w _ _)
    rw [← hw0]
    clear hw0
    go_wp2_with fail
    refine (l02Is_any _ r c A n cap xs _ (MAt.blk ba (hr.below hx0))).mono ?_
    rintro e w1 ⟨rfl, hx⟩
    rw [hv]
    replace hx0 := hx0.trans hx
    clear  hx
    go_wp2_with fail
    go_ret2
    exact ⟨rfl, hx0⟩
  | true =>
    obtain ⟨R, C, rfl, rfl, p1, p2, p3, p4, p5⟩ := mat_nat hv
    have hd : rnD R C xs = giveF (rnF xs C R) := by simp [rnD, hv]
    have Hn : Hid (n = R * C) := by have := HL.out; show n = _; omega
    have hfin : Hid (∀ i k, i < R → k < C → isFin .f32 (at_ xs C i k) = true) := fun i k hi hk => at_fin (mat_fin hv) HL.out hi hk p2 p4 Hn.out
    have Hwf := Lib.hid hwf
    rw [hd]
    clear hd p5 hwf
    go_enter Try.func52, Try.ntmps52
    go_upto_region 1 with (fail)
    obtain ⟨w0, hw0⟩ : ∃ w0, w0 = (w.alloc (.cells #[.int .i64 R, .int .i64 C, .slice A n cap] 35)) := ⟨_, rfl⟩
    have hx0 : Ext w w0 := by subst hw0; exact (Ext.refl _).alloc _
    have ba : Blk w0 (w.heap.size) #[.int .i64 R, .int .i64 C, .slice A n cap] 35 := by subst hw0; exact (Blk.new w _ _)
    rw [← hw0]
    clear hw0
    go_wp2_with fail
    refine (l02Is_any _ _ _ A n cap xs _ (MAt.blk ba (hr.below hx0))).mono ?_
    rintro e w1 ⟨rfl, hx⟩
    rw [hv]
    replace ba := ba.ext hx
    replace hx0 := hx0.trans hx
    clear  hx
    go_wp2_with fail
    refine (l02RowNorm_any _ R C n cap A xs _ p2 p4 Hn.out (MAt.blk ba (hr.below hx0)) hfin.out Hwf.out).mono ?_
    rintro e w6 ⟨l, rfl, hlo, hx6⟩
    go_wp2_with fail
    refine (l02Number_any l _).mono ?_
    rw [hlo]
    intro e w3 h3
    obtain ⟨he, hx3⟩ := h3.nd
    subst he
    go_wp2_with fail
    go_ret2
    exact ⟨rfl, (hx0.trans hx6).trans hx3⟩

end Go.Proofs.Ytgjfdfmbknmpaaa
