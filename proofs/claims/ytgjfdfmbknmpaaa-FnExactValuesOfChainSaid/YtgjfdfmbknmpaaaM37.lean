import Derived.Test.YtgjfdfmbknmpaaaM36
set_option linter.unusedVariables false
set_option linter.unusedSimpArgs false
namespace Go.Proofs.Ytgjfdfmbknmpaaa
open Go.RowKit

def flW (R C : Nat) (xs : List Nat) : List Nat := wordsL (flipF R C xs)
def cnD (r c : Int) (xs : List Nat) : Nat × Bool := if isMat r c xs then giveF (rnF (flW r.toNat c.toNat xs) r.toNat c.toNat) else (0, false)
theorem cnD_fin (r c : Int) (xs : List Nat) : isFin .f32 (cnD r c xs).1 = true := by
  unfold cnD
  split
  · exact giveF_fin _
  · decide
theorem flW_of {R C : Nat} {xs ys : List Nat} (hm : isMat R C xs = true) (h2 : R ≤ 12) (h4 : C ≤ 12) (h5 : xs.length = R * C) (h : cfs ys = flipF R C xs) : ys = flW R C xs ∧ (flW R C xs).length = C * R ∧ finL (flW R C xs) = true := by
  have hfin := mat_fin hm
  have hall : (flipF R C xs).all finO = true := tab_all (fun a b ha hb => finO_c32 (at_fin hfin rfl hb ha h2 h4 h5))
  have e : ys = flW R C xs := cfs_all h hall
  refine ⟨e, by unfold flW wordsL flipF; rw [List.length_map, tab_length], ?_⟩
  rw [← e, ← all_cfs, h]
  exact hall
theorem flW_wf {R C : Nat} {xs : List Nat} (hwf : ∀ x ∈ xs, x < 4294967296) : ∀ y ∈ flW R C xs, y < 4294967296 := by
  intro y hy
  unfold flW wordsL at hy
  rw [List.mem_map] at hy
  obtain ⟨o, ho, rfl⟩ := hy
  unfold flipF at ho
  obtain ⟨j, _, rfl⟩ := mem_tab ho
  show (c32 _).getD 0 < _
  cases hc : c32 (at_ xs C (j % R) (j / R)) with
  | none => show 0 < _; omega
  | some v =>
    obtain ⟨rfl, _⟩ := cf_some hc
    exact rdf_wf hwf _

set_option maxRecDepth 20000 in
set_option maxHeartbeats 4000000 in
theorem implColumnNorm_any (r c : Int) (A : Option Addr) (n cap : Nat) (xs : List Nat) (w : World) (hr : Rds w A n (flts xs)) :
    Calls Try.prog 75 #[.agg #[.int .i64 r, .int .i64 c, .slice A n cap]] w (RetND w (cnD r c xs)) := by
  have HL := Lib.hid hr.flen
  cases hv : isMat r c xs with
  | false =>
    have hd : cnD r c xs = (0, false) := by simp [cnD, hv]
    rw [hd]
    go_enter Try.func75, Try.ntmps75
    go_upto_region 1 with (fail)
    obtain ⟨w0, hw0⟩ : ∃ w0, w0 = (w.alloc (.cells #[.int .i64 r, .int .i64 c, .slice A n cap] 35)) := ⟨_, rfl⟩
    have hx0 : Ext w w0 := by subst hw0; exact (Ext.refl _).alloc _
    have ba : Blk w0 (w.heap.size) #[.int .i64 r, .int .i64 c, .slice A n cap] 35 := by subst hw0; exact (Blk.new w _ _)
    rw [← hw0]
    clear hw0
    obtain ⟨c0, c1, c2, hr1⟩ := MAt.blk ba (hr.below hx0)
    go_wp2_with fail
    refine (ValidMatrix_any r c A n cap xs _ hr1).mono ?_
    rintro e w1 ⟨rfl, hx⟩
    rw [hv]
    replace hx0 := hx0.trans hx
    clear c0 c1 c2 hx
    go_wp2_with fail
    go_ret2
    exact ⟨rfl, hx0⟩
  | true =>
    obtain ⟨R, C, rfl, rfl, p1, p2, p3, p4, p5⟩ := mat_nat hv
    have hd : cnD R C xs = giveF (rnF (flW R C xs) R C) := by simp [cnD, hv]
    have Hn : Hid (n = R * C) := by have := HL.out; show n = _; omega
    have HF := Lib.hid (fun (ys : List Nat) (h : cfs ys = flipF R C xs) => flW_of hv p2 p4 (by rw [HL.out]; exact Hn.out) h)
    rw [hd]
    clear hd p5
    go_enter Try.func75, Try.ntmps75
    go_upto_region 1 with (fail)
    obtain ⟨w0, hw0⟩ : ∃ w0, w0 = (w.alloc (.cells #[.int .i64 R, .int .i64 C, .slice A n cap] 35)) := ⟨_, rfl⟩
    have hx0 : Ext w w0 := by subst hw0; exact (Ext.refl _).alloc _
    have ba : Blk w0 (w.heap.size) #[.int .i64 R, .int .i64 C, .slice A n cap] 35 := by subst hw0; exact (Blk.new w _ _)
    rw [← hw0]
    clear hw0
    obtain ⟨c0, c1, c2, hr1⟩ := MAt.blk ba (hr.below hx0)
    go_wp2_with fail
    refine (ValidMatrix_any _ _ A n cap xs _ hr1).mono ?_
    rintro e w1 ⟨rfl, hx⟩
    rw [hv]
    replace ba := ba.ext hx
    replace hx0 := hx0.trans hx
    clear c0 c1 c2 hr1 hx
    obtain ⟨c0, c1, c2, hr1⟩ := MAt.blk ba (hr.below hx0)
    go_wp2_with fail
    refine (flip_any R C n cap A xs _ p2 p4 Hn.out hr1).mono ?_
    rintro e w5 ⟨A5, k5, ys, hy, rfl, ho, hx5⟩
    obtain ⟨rfl, hyl, hyf⟩ := HF.out ys hy
    have hfin : Hid (∀ i k, i < C → k < R → isFin .f32 (at_ (flW R C xs) R i k) = true) := fun i k hi hk => at_fin hyf hyl hi hk p4 p2 rfl
    clear c0 c1 c2 hr1 hyl hyf hy
    go_wp2_with fail
    refine (rowNorm_any C R (C * R) k5 A5 (flW R C xs) _ p4 p2 rfl ho.reads hfin.out).mono ?_
    rintro e w6 ⟨l, rfl, hlo, hx6⟩
    go_wp2_with fail
    refine (finite_any l _).mono ?_
    rw [hlo]
    intro e w3 h3
    obtain ⟨he, hx3⟩ := h3.nd
    subst he
    go_wp2_with fail
    go_ret2
    exact ⟨rfl, ((hx0.trans hx5).trans hx6).trans hx3⟩

set_option maxRecDepth 20000 in
set_option maxHeartbeats 4000000 in
theorem specColumnNorm_any (r c : Int) (A : Option Addr) (n cap : Nat) (xs : List Nat) (w : World) (hr : Rds w A n (flts xs)) (hwf : ∀ x ∈ xs, x < 4294967296) :
    Calls Try.prog 74 #[.agg #[.int .i64 r, .int .i64 c, .slice A n cap]] w (RetND w (cnD r c xs)) := by
  have HL := Lib.hid hr.flen
  cases hv : isMat r c xs with
  | false =>
    have hd : cnD r c xs = (0, false) := by simp [cnD, hv]
    rw [hd]
    go_enter Try.func74, Try.ntmps74
    go_upto_region 1 with (fail)
    obtain ⟨w0, hw0⟩ : ∃ w0, w0 = (w.alloc (.cells #[.int .i64 r, .int .i64 c, .slice A n cap] 35)) := ⟨_, rfl⟩
    have hx0 : Ext w w0 := by subst hw0; exact (Ext.refl _).alloc _
    have ba : Blk w0 (w.heap.size) #[.int .i64 r, .int .i64 c, .slice A n cap] 35 := by subst hw0; exact (Blk.new w _ _)
    rw [← hw0]
    clear hw0
    go_wp2_with fail
    refine (l02Is_any _ r c A n cap xs _ (MAt.blk ba (hr.below hx0))).mono ?_
    rintro e w1 ⟨rfl, hx⟩
    rw [hv]
    replace hx0 := hx0.trans hx
    clear  hx
    go_wp2_with fail
    go_ret2
    exact ⟨rfl, hx0⟩
  | true =>
    obtain ⟨R, C, rfl, rfl, p1, p2, p3, p4, p5⟩ := mat_nat hv
    have hd : cnD R C xs = giveF (rnF (flW R C xs) R C) := by simp [cnD, hv]
    have Hn : Hid (n = R * C) := by have := HL.out; show n = _; omega
    have HF := Lib.hid (fun (ys : List Nat) (h : cfs ys = flipF R C xs) => flW_of hv p2 p4 (by rw [HL.out]; exact Hn.out) h)
    have Hwf := Lib.hid hwf
    rw [hd]
    clear hd p5 hwf
    go_enter Try.func74, Try.ntmps74
    go_upto_region 1 with (fail)
    obtain ⟨w0, hw0⟩ : ∃ w0, w0 = (w.alloc (.cells #[.int .i64 R, .int .i64 C, .slice A n cap] 35)) := ⟨_, rfl⟩
    have hx0 : Ext w w0 := by subst hw0; exact (Ext.refl _).alloc _
    have ba : Blk w0 (w.heap.size) #[.int .i64 R, .int .i64 C, .slice A n cap] 35 := by subst hw0; exact (Blk.new w _ _)
    rw [← hw0]
    clear hw0
    go_wp2_with fail
    refine (l02Is_any _ _ _ A n cap xs _ (MAt.blk ba (hr.below hx0))).mono ?_
    rintro e w1 ⟨rfl, hx⟩
    rw [hv]
    replace ba := ba.ext hx
    replace hx0 := hx0.trans hx
    clear  hx
    go_wp2_with fail
    refine (l02Flip_any _ R C n cap A xs _ p2 p4 Hn.out (MAt.blk ba (hr.below hx0))).mono ?_
    rintro e w5 ⟨A5, k5, ys, hy, rfl, ho, hx5⟩
    obtain ⟨rfl, hyl, hyf⟩ := HF.out ys hy
    have hfin : Hid (∀ i k, i < C → k < R → isFin .f32 (at_ (flW R C xs) R i k) = true) := fun i k hi hk => at_fin hyf hyl hi hk p4 p2 rfl
    have hor := ho.reads
    clear hyl hyf hy ba
    go_wp2_with fail
    refine (l02RowNorm_any _ C R (C * R) k5 A5 (flW R C xs) _ p4 p2 rfl (MAt.new hor _) hfin.out (flW_wf Hwf.out)).mono ?_
    rintro e w6 ⟨l, rfl, hlo, hx6⟩
    go_wp2_with fail
    refine (l02Number_any l _).mono ?_
    rw [hlo]
    intro e w3 h3
    obtain ⟨he, hx3⟩ := h3.nd
    subst he
    go_wp2_with fail
    go_ret2
    exact ⟨rfl, ((hx0.trans (hx5.alloc _)).trans hx6).trans hx3⟩

end Go.Proofs.Ytgjfdfmbknmpaaa
