import Derived.Test.YtgjfdfmbknmpaaaM15
set_option linter.unusedVariables false
set_option linter.unusedSimpArgs false
namespace Go.Proofs.Ytgjfdfmbknmpaaa
open Go.RowKit

/-- A sum, from the left. -/
def accF (f : Nat → Option Nat) : Nat → Option Nat
  | 0 => some 0
  | n + 1 => fadd (accF f n) (f n)
/-- A number, if it is finite. -/
def giveF (d : Option Nat) : Nat × Bool := if finO d then (d.getD 0, true) else (0, false)
theorem giveF_fin (d : Option Nat) : isFin .f32 (giveF d).1 = true := by
  unfold giveF
  cases h : finO d with
  | false =>
    have h0 : isFin .f32 0 = true := by decide
    exact h0
  | true =>
    cases d with
    | none => cases h
    | some x => exact h
def RetND (w : World) (d : Nat × Bool) (e : Ending) (w' : World) : Prop := e = .returned (.tuple #[.float .f32 d.1, .bool d.2]) ∧ Ext w w'
theorem RetFB.nd {w : World} {d : Option Nat} {e : Ending} {w' : World} (h : RetFB w d e w') : RetND w (giveF d) e w' := by
  obtain ⟨r, rfl, hr, hx⟩ := h
  refine ⟨?_, hx⟩
  rw [hr]
  unfold giveF
  cases finO d <;> rfl
/-- A finite number among those of f64. -/
theorem conv_fin {x : Nat} (h : isFin .f32 x = true) : ∃ y, ∀ w, (convert 39 43 (.float .f32 x)).run Try.prog w = .ok (.float .f64 y) w := by
  cases hw : wide x with
  | none =>
    have h1 := wide_none hw
    unfold isFin at h
    split at h
    · rename_i hd; rw [hd] at h1; cases h1
    · cases h
  | some y => exact ⟨y, fun w => run_convert_float_float w _ _ .f32 .f64 x y (by rw [u32f]; rfl) u64f hw⟩

def traceD (r c : Int) (xs : List Nat) : Nat × Bool := if isSq r c xs then giveF (accF (fun i => c32 (at_ xs r.toNat i i)) r.toNat) else (0, false)
theorem traceD_fin (r c : Int) (xs : List Nat) : isFin .f32 (traceD r c xs).1 = true := by
  unfold traceD
  split
  · exact giveF_fin _
  · decide

set_option maxRecDepth 20000 in
set_option maxHeartbeats 2000000 in
theorem trace_any (R n cap : Nat) (A : Option Addr) (xs : List Nat) (w : World) (hR : R ≤ 12) (hn : n = R * R) (hr : Rds w A n (flts xs)) :
    Calls Try.prog 110 #[.agg #[.int .i64 R, .int .i64 R, .slice A n cap]] w (RetF w (accF (fun i => c32 (at_ xs R i i)) R)) := by
  have Hn := Lib.hid hn
  clear hn
  go_enter Try.func110, Try.ntmps110
  go_upto_region 1 with (fail)
  obtain ⟨w0, hw0⟩ : ∃ w0, w0 = (w.alloc (.cells #[.int .i64 R, .int .i64 R, .slice A n cap] 35)) := ⟨_, rfl⟩
  have hx0 : Ext w w0 := by subst hw0; exact (Ext.refl _).alloc _
  have ba : Blk w0 (w.heap.size) #[.int .i64 R, .int .i64 R, .slice A n cap] 35 := by subst hw0; exact (Blk.new w _ _)
  rw [← hw0]
  clear hw0
  obtain ⟨c0, c1, c2, hr1⟩ := MAt.blk ba (hr.below hx0)
  go_wp2_with fail
  go_loopw [3, 7] (fun u v wr => ∃ i : Nat, i ≤ R ∧ v = .int .i64 i ∧ ∃ s, u = .float .f32 s ∧ c32 s = accF (fun i => c32 (at_ xs R i i)) i ∧ Ext w0 wr) (fun _ v _ => R - (intOf v).toNat)
  case atStart => exact ⟨0, Nat.zero_le _, rfl, 0, rfl, c32_0, Ext.refl _⟩
  case round =>
    clear c0 c1 c2 hr1
    obtain ⟨i, hi, rfl, s, rfl, hs, hx⟩ := hrel
    obtain ⟨c0, c1, c2, hr1⟩ := (MAt.blk ba (hr.below hx0)).ext hx
    by_cases hlt : i < R
    · go_wp2_with fail
      refine (at_any R R i i n cap A xs _ hlt hlt hR hR Hn.out hr1).mono ?_
      rintro e w2 ⟨rfl, hx2⟩
      obtain ⟨r, w3, hrr, hx3, hc⟩ := run_fop (P := Try.prog) w2 .add (.inl rfl) 39 .f32 s (at_ xs R i i)
      clear c0 c1 c2 hr1
      go_wp2_with (simp only [hrr])
      go_roundw
      case rel => exact ⟨i + 1, by omega, by go_num, r, rfl, hc.trans (by show fadd (c32 s) _ = _; rw [hs]; rfl), (hx.trans hx2).trans hx3⟩
      case measure => simp [intOf]; omega
    · obtain rfl : i = R := by omega
      go_wp2_with fail
      go_ret
      exact ⟨s, rfl, hs, hx0.trans hx⟩

set_option maxRecDepth 20000 in
set_option maxHeartbeats 2000000 in
theorem implTraceOf_any (r c : Int) (A : Option Addr) (n cap : Nat) (xs : List Nat) (w : World) (hr : Rds w A n (flts xs)) :
    Calls Try.prog 41 #[.agg #[.int .i64 r, .int .i64 c, .slice A n cap]] w (RetND w (traceD r c xs)) := by
  have HL := Lib.hid hr.flen
  cases hv : isSq r c xs with
  | false =>
    have hd : traceD r c xs = (0, false) := by simp [traceD, hv]
    rw [hd]
    go_enter Try.func41, Try.ntmps41
    go_upto_region 1 with (fail)
    obtain ⟨w0, hw0⟩ : ∃ w0, w0 = (w.alloc (.cells #[.int .i64 r, .int .i64 c, .slice A n cap] 35)) := ⟨_, rfl⟩
    have hx0 : Ext w w0 := by subst hw0; exact (Ext.refl _).alloc _
    have ba : Blk w0 (w.heap.size) #[.int .i64 r, .int .i64 c, .slice A n cap] 35 := by subst hw0; exact (Blk.new w _ _)
    rw [← hw0]
    clear hw0
    obtain ⟨c0, c1, c2, hr1⟩ := MAt.blk ba (hr.below hx0)
    go_wp2_with fail
    refine (isSquare_any r c A n cap xs _ hr1).mono ?_
    rintro e w1 ⟨rfl, hx⟩
    rw [hv]
    replace hx0 := hx0.trans hx
    clear c0 c1 c2 hx
    go_wp2_with fail
    go_ret2
    exact ⟨rfl, hx0⟩
  | true =>
    obtain ⟨hv', rfl⟩ := sq_nat hv
    obtain ⟨R, C, rfl, e1, u1, u2, _, _, u5⟩ := mat_nat hv'
    obtain rfl : C = R := by omega
    have hd : traceD C C xs = giveF (accF (fun i => c32 (at_ xs C i i)) C) := by simp [traceD, hv]
    have Hn : Hid (n = C * C) := by have := HL.out; show n = _; omega
    rw [hd]
    clear hd u5 e1
    go_enter Try.func41, Try.ntmps41
    go_upto_region 1 with (fail)
    obtain ⟨w0, hw0⟩ : ∃ w0, w0 = (w.alloc (.cells #[.int .i64 C, .int .i64 C, .slice A n cap] 35)) := ⟨_, rfl⟩
    have hx0 : Ext w w0 := by subst hw0; exact (Ext.refl _).alloc _
    have ba : Blk w0 (w.heap.size) #[.int .i64 C, .int .i64 C, .slice A n cap] 35 := by subst hw0; exact (Blk.new w _ _)
    rw [← hw0]
    clear hw0
    obtain ⟨c0, c1, c2, hr1⟩ := MAt.blk ba (hr.below hx0)
    go_wp2_with fail
    refine (isSquare_any _ _ A n cap xs _ hr1).mono ?_
    rintro e w1 ⟨rfl, hx⟩
    rw [hv]
    replace ba := ba.ext hx
    replace hx0 := hx0.trans hx
    clear c0 c1 c2 hr1 hx
    obtain ⟨c0, c1, c2, hr1⟩ := MAt.blk ba (hr.below hx0)
    go_wp2_with fail
    refine (trace_any C n cap A xs _ u2 Hn.out hr1).mono ?_
    rintro e w2 ⟨s, rfl, hs, hx⟩
    replace ba := ba.ext hx
    replace hx0 := hx0.trans hx
    clear c0 c1 c2 hr1 hx
    go_wp2_with fail
    refine (finite_any s _).mono ?_
    rw [hs]
    intro e w3 h3
    obtain ⟨he, hx⟩ := h3.nd
    subst he
    go_wp2_with fail
    go_ret2
    exact ⟨rfl, hx0.trans hx⟩

set_option maxRecDepth 20000 in
set_option maxHeartbeats 2000000 in
theorem specTraceOf_any (r c : Int) (A : Option Addr) (n cap : Nat) (xs : List Nat) (w : World) (hr : Rds w A n (flts xs)) :
    Calls Try.prog 40 #[.agg #[.int .i64 r, .int .i64 c, .slice A n cap]] w (RetND w (traceD r c xs)) := by
  have HL := Lib.hid hr.flen
  cases hv : isSq r c xs with
  | false =>
    have hd : traceD r c xs = (0, false) := by simp [traceD, hv]
    rw [hd]
    go_enter Try.func40, Try.ntmps40
    go_upto_region 1 with (fail)
    obtain ⟨w0, hw0⟩ : ∃ w0, w0 = (w.alloc (.cells #[.int .i64 r, .int .i64 c, .slice A n cap] 35)) := ⟨_, rfl⟩
    have hx0 : Ext w w0 := by subst hw0; exact (Ext.refl _).alloc _
    have ba : Blk w0 (w.heap.size) #[.int .i64 r, .int .i64 c, .slice A n cap] 35 := by subst hw0; exact (Blk.new w _ _)
    rw [← hw0]
    clear hw0
    go_wp2_with fail
    refine (l02Square_any _ r c A n cap xs _ (MAt.blk ba (hr.below hx0))).mono ?_
    rintro e w1 ⟨rfl, hx⟩
    rw [hv]
    replace hx0 := hx0.trans hx
    clear  hx
    go_wp2_with fail
    go_ret2
    exact ⟨rfl, hx0⟩
  | true =>
    obtain ⟨hv', rfl⟩ := sq_nat hv
    obtain ⟨R, C, rfl, e1, u1, u2, _, _, u5⟩ := mat_nat hv'
    obtain rfl : C = R := by omega
    have hd : traceD C C xs = giveF (accF (fun i => c32 (at_ xs C i i)) C) := by simp [traceD, hv]
    have Hn : Hid (n = C * C) := by have := HL.out; show n = _; omega
    rw [hd]
    clear hd u5 e1
    go_enter Try.func40, Try.ntmps40
    go_upto_region 1 with (fail)
    obtain ⟨w0, hw0⟩ : ∃ w0, w0 = (w.alloc (.cells #[.int .i64 C, .int .i64 C, .slice A n cap] 35)) := ⟨_, rfl⟩
    have hx0 : Ext w w0 := by subst hw0; exact (Ext.refl _).alloc _
    have ba : Blk w0 (w.heap.size) #[.int .i64 C, .int .i64 C, .slice A n cap] 35 := by subst hw0; exact (Blk.new w _ _)
    rw [← hw0]
    clear hw0
    go_wp2_with fail
    refine (l02Square_any _ _ _ A n cap xs _ (MAt.blk ba (hr.below hx0))).mono ?_
    rintro e w1 ⟨rfl, hx⟩
    rw [hv]
    replace ba := ba.ext hx
    replace hx0 := hx0.trans hx
    clear  hx
    go_wp2_with fail
    go_loopw [4, 5] (fun u v wr => ∃ i : Nat, i ≤ C ∧ v = .int .i64 i ∧ ∃ s, u = .float .f32 s ∧ c32 s = accF (fun i => c32 (at_ xs C i i)) i ∧ Ext w1 wr) (fun _ v _ => C - (intOf v).toNat)
    case atStart => exact ⟨0, Nat.zero_le _, rfl, 0, rfl, c32_0, Ext.refl _⟩
    case round =>
      obtain ⟨i, hi, rfl, s, rfl, hs, hx⟩ := hrel
      have ha := (MAt.blk ba (hr.below hx0)).ext hx
      obtain ⟨c0, c1, c2, hr1⟩ := ha
      clear c1 c2 hr1
      by_cases hlt : i < C
      · go_wp2_with fail
        refine (l02At_any _ C C i i n cap A xs _ hlt hlt u2 u2 Hn.out ((MAt.blk ba (hr.below hx0)).ext hx)).mono ?_
        rintro e w2 ⟨rfl, hx2⟩
        obtain ⟨r, w3, hrr, hx3, hc⟩ := run_fop (P := Try.prog) w2 .add (.inl rfl) 39 .f32 s (at_ xs C i i)
        clear c0
        go_wp2_with (simp only [hrr])
        go_roundw
        case rel => exact ⟨i + 1, by omega, by go_num, r, rfl, hc.trans (by show fadd (c32 s) _ = _; rw [hs]; rfl), (hx.trans hx2).trans hx3⟩
        case measure => simp [intOf]; omega
      · obtain rfl : i = C := by omega
        go_wp2_with fail
        refine (l02Number_any s _).mono ?_
        rw [hs]
        intro e w3 h3
        obtain ⟨he, hx3⟩ := h3.nd
        subst he
        clear c0
        go_wp2_with fail
        go_ret2
        exact ⟨rfl, (hx0.trans hx).trans hx3⟩

/-! ### IsSymmetric -/
def sameAt (xs : List Nat) (R i k : Nat) : Bool := FloatKind.f32.format.order (at_ xs R i k) (at_ xs R k i) == some .eq
def isSymB (r c : Int) (xs : List Nat) : Bool := isSq r c xs && (List.range r.toNat).all fun i => (List.range i).all fun k => sameAt xs r.toNat i k
theorem sym_true {R : Nat} {xs : List Nat} (h : isSq R R xs = true) (hs : ∀ i k, i < R → k < i → sameAt xs R i k = true) : isSymB R R xs = true := by
  unfold isSymB
  rw [h]
  simp only [Bool.true_and, List.all_eq_true, List.mem_range, Int.toNat_natCast]
  exact fun i hi k hk => hs i k hi hk
theorem sym_false {R i k : Nat} {xs : List Nat} (hi : i < R) (hk : k < i) (hs : sameAt xs R i k = false) : isSymB R R xs = false := by
  unfold isSymB
  rw [Bool.and_eq_false_iff]
  right
  rw [List.all_eq_false]
  refine ⟨i, by simpa using hi, ?_⟩
  simp only [Bool.not_eq_true, List.all_eq_false, List.mem_range, Int.toNat_natCast]
  exact ⟨k, hk, hs⟩

end Go.Proofs.Ytgjfdfmbknmpaaa
