import Derived.Test.YtgjfdfmbknmpaaaM9
import Derived.Test.YtgjfdfmbknmpaaaM29
import Derived.Test.YtgjfdfmbknmpaaaM35
set_option linter.unusedVariables false
set_option linter.unusedSimpArgs false
namespace Go.Proofs.Ytgjfdfmbknmpaaa
open Go.RowKit

/-- The bounds of all values of a chain. -/
def befW (ys : List Nat) (i : Nat) : Nat := if i = 0 then 0 else absW (rdf ys ((i : Int) - 1))
def behW (ys : List Nat) (i : Nat) : Nat := if i < ys.length then absW (rdf ys i) else 0
def rchF (ys : List Nat) (i : Nat) : Option Nat := fadd (c32 (befW ys i)) (c32 (behW ys i))
def ltO (a b : Option Nat) : Bool := fcmp a b == some .lt
def gtO (a b : Option Nat) : Bool := fcmp a b == some .gt
def lowF (xs ys : List Nat) : Nat → Option Nat
  | 0 => some 0
  | i + 1 => if decide (i = 0) || ltO (fsub (c32 (rdf xs i)) (rchF ys i)) (lowF xs ys i) then fsub (c32 (rdf xs i)) (rchF ys i) else lowF xs ys i
def highF (xs ys : List Nat) : Nat → Option Nat
  | 0 => some 0
  | i + 1 => if decide (i = 0) || gtO (fadd (c32 (rdf xs i)) (rchF ys i)) (highF xs ys i) then fadd (c32 (rdf xs i)) (rchF ys i) else highF xs ys i
theorem low_0 {xs ys : List Nat} {i r : Nat} (hi : i = 0) (hr : c32 r = fsub (c32 (rdf xs i)) (rchF ys i)) : c32 r = lowF xs ys (i + 1) := by
  rw [lowF, decide_eq_true hi, Bool.true_or, if_pos rfl, hr]
theorem high_0 {xs ys : List Nat} {i r : Nat} (hi : i = 0) (hr : c32 r = fadd (c32 (rdf xs i)) (rchF ys i)) : c32 r = highF xs ys (i + 1) := by
  rw [highF, decide_eq_true hi, Bool.true_or, if_pos rfl, hr]
theorem low_t {xs ys : List Nat} {i l r : Nat} (hl : c32 l = lowF xs ys i) (hr : c32 r = fsub (c32 (rdf xs i)) (rchF ys i)) (h : (FloatKind.f32.format.order r l == some .lt) = true) : c32 r = lowF xs ys (i + 1) := by
  rw [← fcmp_cf, hr, hl] at h
  rw [lowF, if_pos (by unfold ltO; rw [h, Bool.or_true]), hr]
theorem low_f {xs ys : List Nat} {i l r : Nat} (hi : i ≠ 0) (hl : c32 l = lowF xs ys i) (hr : c32 r = fsub (c32 (rdf xs i)) (rchF ys i)) (h : (FloatKind.f32.format.order r l == some .lt) = false) : c32 l = lowF xs ys (i + 1) := by
  rw [← fcmp_cf, hr, hl] at h
  rw [lowF, if_neg (by unfold ltO; rw [h, decide_eq_false hi]; simp), hl]
theorem high_t {xs ys : List Nat} {i l r : Nat} (hl : c32 l = highF xs ys i) (hr : c32 r = fadd (c32 (rdf xs i)) (rchF ys i)) (h : (FloatKind.f32.format.order r l == some .gt) = true) : c32 r = highF xs ys (i + 1) := by
  rw [← fcmp_cf, hr, hl] at h
  rw [highF, if_pos (by unfold gtO; rw [h, Bool.or_true]), hr]
theorem high_f {xs ys : List Nat} {i l r : Nat} (hi : i ≠ 0) (hl : c32 l = highF xs ys i) (hr : c32 r = fadd (c32 (rdf xs i)) (rchF ys i)) (h : (FloatKind.f32.format.order r l == some .gt) = false) : c32 l = highF xs ys (i + 1) := by
  rw [← fcmp_cf, hr, hl] at h
  rw [highF, if_neg (by unfold gtO; rw [h, decide_eq_false hi]; simp), hl]
theorem c32_abs {x : Nat} (h : isFin .f32 x = true) : c32 (absW x) = some (absW x) := nn_c32 (nn_abs h)

/-- Two floats that come back. -/
def RetFF (w : World) (d d' : Option Nat) (e : Ending) (w' : World) : Prop := ∃ r r', e = .returned (.tuple #[.float .f32 r, .float .f32 r']) ∧ c32 r = d ∧ c32 r' = d' ∧ Ext w w'

set_option maxRecDepth 20000 in
set_option maxHeartbeats 8000000 in
theorem l04Span_any (b : Nat) (A : Option Addr) (n cap : Nat) (B : Option Addr) (m cap' : Nat) (xs ys : List Nat) (w : World) (ha : CAt w b A n cap B m cap' xs ys) (hnm : m + 1 = n) (hn12 : n ≤ 12) (hfy : finL ys = true) (hwf : ∀ x ∈ ys, x < 4294967296) :
    Calls Try.prog 132 #[.pointer (some ⟨b, 0, none⟩)] w (RetFF w (lowF xs ys n) (highF xs ys n)) := by
  have HM := Lib.hid ha.rdq.flen
  have Hwf := Lib.hid hwf
  have Hfy := Lib.hid hfy
  clear hwf hfy
  go_enter Try.func132, Try.ntmps132
  go_upto_region 1 with (fail)
  go_wp2_with fail
  go_loopw [4, 5, 6] (fun a c u wr => ∃ i l h : Nat, i ≤ n ∧ a = .float .f32 l ∧ c = .float .f32 h ∧ u = .int .i64 i ∧ Hid (c32 l = lowF xs ys i ∧ c32 h = highF xs ys i) ∧ Ext w wr) (fun _ _ u _ => n - (intOf u).toNat)
  case atStart => exact ⟨0, 0, 0, Nat.zero_le _, rfl, rfl, rfl, ⟨c32_0, c32_0⟩, Ext.refl _⟩
  case round =>
    obtain ⟨i, l, h, hi, rfl, rfl, rfl, HLH, hx⟩ := hrel
    obtain ⟨c0, c1, hrd, hrq⟩ := ha.ext hx
    by_cases hlt : i < n
    · obtain ⟨ad, rfl, hca⟩ := hrd.fltN i hlt
      obtain ⟨q, hq⟩ : ∃ q, q = rdf xs i := ⟨_, rfl⟩
      rw [← hq] at hca
      have HQ := Lib.hid hq
      clear hq
      by_cases hi0 : i = 0
      · have hb0 : ((i : Int) == 0) = true := by simp [hi0]
        have hp0 : ¬ (0 : Int) < i := by omega
        by_cases him : i < m
        · have him' : (i : Int) < m := by omega
          have HB : Hid (0 = befW ys i) := by show _ = _; unfold befW; rw [if_pos hi0]
          obtain ⟨ad', rfl, hcd⟩ := hrq.fltN i him
          have fy : isFin .f32 (rdf ys i) = true := fin_rdf Hfy.out (by omega) (by rw [HM.out]; omega)
          have wy := rdf_wf Hwf.out (i : Int)
          obtain ⟨y, hy⟩ : ∃ y, y = rdf ys i := ⟨_, rfl⟩
          rw [← hy] at hcd fy wy
          have HY := Lib.hid hy
          have HD : Hid (absW y = behW ys i) := by show _ = _; unfold behW; rw [if_pos (by rw [HM.out]; exact him), ← HY.out]
          clear hy
          have hcd0 : wr.cell? ad' = some (.float .f32 y) := by have h' := hcd; rw [hi0] at h'; rwa [show ad'.add 0 = ad' by cases ad'; simp [Addr.add]] at h'
          clear hrd hrq
          have hex1 := hx
          go_wp2_with fail
          refine (l02Size_any y wy fy _).mono ?_
          rintro e w2 ⟨t2, rfl, ho, hxb⟩
          obtain rfl : t2 = absW y := (cf_some ho).1
          clear ho
          have hex2 := hex1.trans hxb
          have a0 := hxb.cell c0
          have aca := hxb.cell hca
          clear hcd hcd0 c0 c1 hca hxb
          have aca0 : w2.cell? ad = some (.float .f32 q) := by have h' := aca; rw [hi0] at h'; rwa [show ad.add 0 = ad by cases ad; simp [Addr.add]] at h'
          obtain ⟨r1, w3, hrr1, hx3, hc1⟩ := run_fop (P := Try.prog) w2 .add (.inl rfl) 39 .f32 0 (absW y)
          obtain ⟨r2, w4, hrr2, hx4, hc2⟩ := run_fop (P := Try.prog) w3 .sub (.inr (.inl rfl)) 39 .f32 q r1
          obtain ⟨r3, w5, hrr3, hx5, hc3⟩ := run_fop (P := Try.prog) w4 .add (.inl rfl) 39 .f32 0 (absW y)
          obtain ⟨r4, w6, hrr4, hx6, hc4⟩ := run_fop (P := Try.prog) w5 .add (.inl rfl) 39 .f32 q r3
          have hex := (((hex2.trans hx3).trans hx4).trans hx5).trans hx6
          have d0 := (hx3.trans hx4).cell a0
          have dca := (hx3.trans hx4).cell aca
          have dca0 := (hx3.trans hx4).cell aca0
          have h3 : c32 r3 = rchF ys i := by rw [rchF, ← HB.out, ← HD.out]; exact hc3
          have hcH : c32 r4 = fadd (c32 (rdf xs i)) (rchF ys i) := by rw [← HQ.out, ← h3]; exact hc4
          clear h3 hc3 hc4 hx5 hx6
          have hcL : c32 r2 = fsub (c32 (rdf xs i)) (rchF ys i) := by rw [← HQ.out, rchF, ← HB.out, ← HD.out]; exact hc2.trans (congrArg (fop .sub .f32 _) hc1)
          clear hc1 hc2 hx3 hx4
          have HN := Lib.hid (And.intro (low_0 hi0 hcL) (high_0 hi0 hcH))
          clear hcL hcH
          go_wp2_with (simp only [hrr1, hrr2, hrr3, hrr4])
          go_roundw
          case rel => exact ⟨i + 1, _, _, by omega, rfl, rfl, by go_num, HN.out, hex⟩
          case measure => simp [intOf]; omega
        · have him' : ¬ (i : Int) < m := by omega
          have HB : Hid (0 = befW ys i) := by show _ = _; unfold befW; rw [if_pos hi0]
          have HD : Hid (0 = behW ys i) := by show _ = _; unfold behW; rw [if_neg (by rw [HM.out]; exact him)]
          clear hrd hrq
          have hex1 := hx
          have hex2 := hex1
          have a0 := c0
          have aca := hca
          clear hca c0
          have aca0 : wr.cell? ad = some (.float .f32 q) := by have h' := aca; rw [hi0] at h'; rwa [show ad.add 0 = ad by cases ad; simp [Addr.add]] at h'
          obtain ⟨r1, w3, hrr1, hx3, hc1⟩ := run_fop (P := Try.prog) wr .add (.inl rfl) 39 .f32 0 0
          obtain ⟨r2, w4, hrr2, hx4, hc2⟩ := run_fop (P := Try.prog) w3 .sub (.inr (.inl rfl)) 39 .f32 q r1
          obtain ⟨r3, w5, hrr3, hx5, hc3⟩ := run_fop (P := Try.prog) w4 .add (.inl rfl) 39 .f32 0 0
          obtain ⟨r4, w6, hrr4, hx6, hc4⟩ := run_fop (P := Try.prog) w5 .add (.inl rfl) 39 .f32 q r3
          have hex := (((hex2.trans hx3).trans hx4).trans hx5).trans hx6
          have d0 := (hx3.trans hx4).cell a0
          have dca := (hx3.trans hx4).cell aca
          have dca0 := (hx3.trans hx4).cell aca0
          have h3 : c32 r3 = rchF ys i := by rw [rchF, ← HB.out, ← HD.out]; exact hc3
          have hcH : c32 r4 = fadd (c32 (rdf xs i)) (rchF ys i) := by rw [← HQ.out, ← h3]; exact hc4
          clear h3 hc3 hc4 hx5 hx6
          have hcL : c32 r2 = fsub (c32 (rdf xs i)) (rchF ys i) := by rw [← HQ.out, rchF, ← HB.out, ← HD.out]; exact hc2.trans (congrArg (fop .sub .f32 _) hc1)
          clear hc1 hc2 hx3 hx4
          have HN := Lib.hid (And.intro (low_0 hi0 hcL) (high_0 hi0 hcH))
          clear hcL hcH
          go_wp2_with (simp only [hrr1, hrr2, hrr3, hrr4])
          go_roundw
          case rel => exact ⟨i + 1, _, _, by omega, rfl, rfl, by go_num, HN.out, hex⟩
          case measure => simp [intOf]; omega
      · have hb0 : ((i : Int) == 0) = false := by simp; omega
        have hp0 : (0 : Int) < i := by omega
        by_cases him : i < m
        · have him' : (i : Int) < m := by omega
          obtain ⟨ad', rfl, hcb⟩ := hrq.fltN (i - 1) (by omega)
          have ei : (((i - 1 : Nat) : Nat) : Int) = (i : Int) - 1 := by omega
          rw [ei] at hcb
          have fz : isFin .f32 (rdf ys ((i : Int) - 1)) = true := fin_rdf Hfy.out (by omega) (by rw [HM.out]; omega)
          have wz := rdf_wf Hwf.out ((i : Int) - 1)
          obtain ⟨z, hz⟩ : ∃ z, z = rdf ys ((i : Int) - 1) := ⟨_, rfl⟩
          rw [← hz] at hcb fz wz
          have HZ := Lib.hid hz
          have HB : Hid (absW z = befW ys i) := by show _ = _; unfold befW; rw [if_neg hi0, ← HZ.out]
          clear hz ei
          have g1 : IntKind.i64.wrap ((i : Int) - 1) = (i : Int) - 1 := IntWalk.i64_in _ (by omega)
          have g2 : (1 : Int) ≤ (i : Int) := by omega
          have g3 : (i : Int) - 1 < (m : Int) := by omega
          obtain ⟨ad2, hAd, hcd⟩ := hrq.fltN i him
          obtain rfl := Option.some.inj hAd
          clear hAd
          have fy : isFin .f32 (rdf ys i) = true := fin_rdf Hfy.out (by omega) (by rw [HM.out]; omega)
          have wy := rdf_wf Hwf.out (i : Int)
          obtain ⟨y, hy⟩ : ∃ y, y = rdf ys i := ⟨_, rfl⟩
          rw [← hy] at hcd fy wy
          have HY := Lib.hid hy
          have HD : Hid (absW y = behW ys i) := by show _ = _; unfold behW; rw [if_pos (by rw [HM.out]; exact him), ← HY.out]
          clear hy
          clear hrd hrq
          go_wp2_with fail
          refine (l02Size_any z wz fz _).mono ?_
          rintro e w1 ⟨t1, rfl, ho, hxa⟩
          obtain rfl : t1 = absW z := (cf_some ho).1
          clear ho
          have hex1 := hx.trans hxa
          replace c0 := hxa.cell c0
          replace c1 := hxa.cell c1
          replace hca := hxa.cell hca
          replace hcd := hxa.cell hcd
          clear hcb hxa g1 g2 g3
          go_wp2_with fail
          refine (l02Size_any y wy fy _).mono ?_
          rintro e w2 ⟨t2, rfl, ho, hxb⟩
          obtain rfl : t2 = absW y := (cf_some ho).1
          clear ho
          have hex2 := hex1.trans hxb
          have a0 := hxb.cell c0
          have aca := hxb.cell hca
          clear hcd c0 c1 hca hxb
          obtain ⟨r1, w3, hrr1, hx3, hc1⟩ := run_fop (P := Try.prog) w2 .add (.inl rfl) 39 .f32 (absW z) (absW y)
          obtain ⟨r2, w4, hrr2, hx4, hc2⟩ := run_fop (P := Try.prog) w3 .sub (.inr (.inl rfl)) 39 .f32 q r1
          obtain ⟨r3, w5, hrr3, hx5, hc3⟩ := run_fop (P := Try.prog) w4 .add (.inl rfl) 39 .f32 (absW z) (absW y)
          obtain ⟨r4, w6, hrr4, hx6, hc4⟩ := run_fop (P := Try.prog) w5 .add (.inl rfl) 39 .f32 q r3
          have hex := (((hex2.trans hx3).trans hx4).trans hx5).trans hx6
          have d0 := (hx3.trans hx4).cell a0
          have dca := (hx3.trans hx4).cell aca
          have h3 : c32 r3 = rchF ys i := by rw [rchF, ← HB.out, ← HD.out]; exact hc3
          have hcH : c32 r4 = fadd (c32 (rdf xs i)) (rchF ys i) := by rw [← HQ.out, ← h3]; exact hc4
          clear h3 hc3 hc4 hx5 hx6
          have hcL : c32 r2 = fsub (c32 (rdf xs i)) (rchF ys i) := by rw [← HQ.out, rchF, ← HB.out, ← HD.out]; exact hc2.trans (congrArg (fop .sub .f32 _) hc1)
          clear hc1 hc2 hx3 hx4
          cases o1 : (FloatKind.f32.format.order r2 l == some .lt) with
          | true =>
            cases o2 : (FloatKind.f32.format.order r4 h == some .gt) with
            | true =>
              have HN := Lib.hid (And.intro (low_t HLH.out.1 hcL o1) (high_t HLH.out.2 hcH o2))
              clear hcL hcH
              go_wp2_with (simp only [hrr1, hrr2, hrr3, hrr4])
              go_roundw
              case rel => exact ⟨i + 1, _, _, by omega, rfl, rfl, by go_num, HN.out, hex⟩
              case measure => simp [intOf]; omega
            | false =>
              have HN := Lib.hid (And.intro (low_t HLH.out.1 hcL o1) (high_f hi0 HLH.out.2 hcH o2))
              clear hcL hcH
              go_wp2_with (simp only [hrr1, hrr2, hrr3, hrr4])
              go_roundw
              case rel => exact ⟨i + 1, _, _, by omega, rfl, rfl, by go_num, HN.out, hex⟩
              case measure => simp [intOf]; omega
          | false =>
            cases o2 : (FloatKind.f32.format.order r4 h == some .gt) with
            | true =>
              have HN := Lib.hid (And.intro (low_f hi0 HLH.out.1 hcL o1) (high_t HLH.out.2 hcH o2))
              clear hcL hcH
              go_wp2_with (simp only [hrr1, hrr2, hrr3, hrr4])
              go_roundw
              case rel => exact ⟨i + 1, _, _, by omega, rfl, rfl, by go_num, HN.out, hex⟩
              case measure => simp [intOf]; omega
            | false =>
              have HN := Lib.hid (And.intro (low_f hi0 HLH.out.1 hcL o1) (high_f hi0 HLH.out.2 hcH o2))
              clear hcL hcH
              go_wp2_with (simp only [hrr1, hrr2, hrr3, hrr4])
              go_roundw
              case rel => exact ⟨i + 1, _, _, by omega, rfl, rfl, by go_num, HN.out, hex⟩
              case measure => simp [intOf]; omega
        · have him' : ¬ (i : Int) < m := by omega
          obtain ⟨ad', rfl, hcb⟩ := hrq.fltN (i - 1) (by omega)
          have ei : (((i - 1 : Nat) : Nat) : Int) = (i : Int) - 1 := by omega
          rw [ei] at hcb
          have fz : isFin .f32 (rdf ys ((i : Int) - 1)) = true := fin_rdf Hfy.out (by omega) (by rw [HM.out]; omega)
          have wz := rdf_wf Hwf.out ((i : Int) - 1)
          obtain ⟨z, hz⟩ : ∃ z, z = rdf ys ((i : Int) - 1) := ⟨_, rfl⟩
          rw [← hz] at hcb fz wz
          have HZ := Lib.hid hz
          have HB : Hid (absW z = befW ys i) := by show _ = _; unfold befW; rw [if_neg hi0, ← HZ.out]
          clear hz ei
          have g1 : IntKind.i64.wrap ((i : Int) - 1) = (i : Int) - 1 := IntWalk.i64_in _ (by omega)
          have g2 : (1 : Int) ≤ (i : Int) := by omega
          have g3 : (i : Int) - 1 < (m : Int) := by omega
          have HD : Hid (0 = behW ys i) := by show _ = _; unfold behW; rw [if_neg (by rw [HM.out]; exact him)]
          clear hrd hrq
          go_wp2_with fail
          refine (l02Size_any z wz fz _).mono ?_
          rintro e w1 ⟨t1, rfl, ho, hxa⟩
          obtain rfl : t1 = absW z := (cf_some ho).1
          clear ho
          have hex1 := hx.trans hxa
          replace c0 := hxa.cell c0
          replace c1 := hxa.cell c1
          replace hca := hxa.cell hca
          clear hcb hxa g1 g2 g3
          have hex2 := hex1
          have a0 := c0
          have aca := hca
          clear hca c0
          obtain ⟨r1, w3, hrr1, hx3, hc1⟩ := run_fop (P := Try.prog) w1 .add (.inl rfl) 39 .f32 (absW z) 0
          obtain ⟨r2, w4, hrr2, hx4, hc2⟩ := run_fop (P := Try.prog) w3 .sub (.inr (.inl rfl)) 39 .f32 q r1
          obtain ⟨r3, w5, hrr3, hx5, hc3⟩ := run_fop (P := Try.prog) w4 .add (.inl rfl) 39 .f32 (absW z) 0
          obtain ⟨r4, w6, hrr4, hx6, hc4⟩ := run_fop (P := Try.prog) w5 .add (.inl rfl) 39 .f32 q r3
          have hex := (((hex2.trans hx3).trans hx4).trans hx5).trans hx6
          have d0 := (hx3.trans hx4).cell a0
          have dca := (hx3.trans hx4).cell aca
          have h3 : c32 r3 = rchF ys i := by rw [rchF, ← HB.out, ← HD.out]; exact hc3
          have hcH : c32 r4 = fadd (c32 (rdf xs i)) (rchF ys i) := by rw [← HQ.out, ← h3]; exact hc4
          clear h3 hc3 hc4 hx5 hx6
          have hcL : c32 r2 = fsub (c32 (rdf xs i)) (rchF ys i) := by rw [← HQ.out, rchF, ← HB.out, ← HD.out]; exact hc2.trans (congrArg (fop .sub .f32 _) hc1)
          clear hc1 hc2 hx3 hx4
          cases o1 : (FloatKind.f32.format.order r2 l == some .lt) with
          | true =>
            cases o2 : (FloatKind.f32.format.order r4 h == some .gt) with
            | true =>
              have HN := Lib.hid (And.intro (low_t HLH.out.1 hcL o1) (high_t HLH.out.2 hcH o2))
              clear hcL hcH
              go_wp2_with (simp only [hrr1, hrr2, hrr3, hrr4])
              go_roundw
              case rel => exact ⟨i + 1, _, _, by omega, rfl, rfl, by go_num, HN.out, hex⟩
              case measure => simp [intOf]; omega
            | false =>
              have HN := Lib.hid (And.intro (low_t HLH.out.1 hcL o1) (high_f hi0 HLH.out.2 hcH o2))
              clear hcL hcH
              go_wp2_with (simp only [hrr1, hrr2, hrr3, hrr4])
              go_roundw
              case rel => exact ⟨i + 1, _, _, by omega, rfl, rfl, by go_num, HN.out, hex⟩
              case measure => simp [intOf]; omega
          | false =>
            cases o2 : (FloatKind.f32.format.order r4 h == some .gt) with
            | true =>
              have HN := Lib.hid (And.intro (low_f hi0 HLH.out.1 hcL o1) (high_t HLH.out.2 hcH o2))
              clear hcL hcH
              go_wp2_with (simp only [hrr1, hrr2, hrr3, hrr4])
              go_roundw
              case rel => exact ⟨i + 1, _, _, by omega, rfl, rfl, by go_num, HN.out, hex⟩
              case measure => simp [intOf]; omega
            | false =>
              have HN := Lib.hid (And.intro (low_f hi0 HLH.out.1 hcL o1) (high_f hi0 HLH.out.2 hcH o2))
              clear hcL hcH
              go_wp2_with (simp only [hrr1, hrr2, hrr3, hrr4])
              go_roundw
              case rel => exact ⟨i + 1, _, _, by omega, rfl, rfl, by go_num, HN.out, hex⟩
              case measure => simp [intOf]; omega
    · obtain rfl : i = n := by omega
      clear hrd hrq c1
      go_wp2_with fail
      go_ret2
      exact ⟨l, h, rfl, HLH.out.1, HLH.out.2, hx⟩

set_option maxRecDepth 20000 in
set_option maxHeartbeats 8000000 in
theorem span_any (A : Option Addr) (n cap : Nat) (B : Option Addr) (m cap' : Nat) (xs ys : List Nat) (w : World) (hr : Rds w A n (flts xs)) (hq : Rds w B m (flts ys)) (hnm : m + 1 = n) (hn12 : n ≤ 12) (hfy : finL ys = true) :
    Calls Try.prog 133 #[.agg #[.slice A n cap, .slice B m cap']] w (RetFF w (lowF xs ys n) (highF xs ys n)) := by
  have HM := Lib.hid hq.flen
  have Hfy := Lib.hid hfy
  have hs1 := hr.small
  have hs2 := hq.small
  clear hfy
  go_enter Try.func133, Try.ntmps133
  go_upto_region 1 with (fail)
  obtain ⟨w0, hw0⟩ : ∃ w0, w0 = (w.alloc (.cells #[.slice A n cap, .slice B m cap'] 27)) := ⟨_, rfl⟩
  have hx0 : Ext w w0 := by subst hw0; exact (Ext.refl _).alloc _
  have ba : Blk w0 (w.heap.size) #[.slice A n cap, .slice B m cap'] 27 := by subst hw0; exact (Blk.new w _ _)
  rw [← hw0]
  clear hw0
  have a0 := ba.cell 0 rfl
  go_wp2_with fail
  go_loopw [4, 5, 16] (fun a c u wr => ∃ i l h : Nat, i ≤ n ∧ a = .float .f32 l ∧ c = .float .f32 h ∧ u = .int .i64 i ∧ Hid (c32 l = lowF xs ys i ∧ c32 h = highF xs ys i) ∧ Ext w0 wr) (fun _ _ u _ => n - (intOf u).toNat)
  case atStart => exact ⟨0, 0, 0, Nat.zero_le _, rfl, rfl, rfl, ⟨c32_0, c32_0⟩, Ext.refl _⟩
  case round =>
    clear a0
    obtain ⟨i, l, h, hi, rfl, rfl, rfl, HLH, hx⟩ := hrel
    obtain ⟨c0, c1, hrd, hrq⟩ := (CAt.of ba (hr.below hx0) (hq.below hx0)).ext hx
    by_cases hlt : i < n
    · obtain ⟨ad, rfl, hca⟩ := hrd.fltN i hlt
      obtain ⟨q, hq⟩ : ∃ q, q = rdf xs i := ⟨_, rfl⟩
      rw [← hq] at hca
      have HQ := Lib.hid hq
      clear hq
      by_cases hi0 : i = 0
      · have hb0 : ((i : Int) == 0) = true := by simp [hi0]
        have hp0 : ¬ (0 : Int) < i := by omega
        by_cases him : i < m
        · have him' : (i : Int) < m := by omega
          have HB : Hid (0 = befW ys i) := by show _ = _; unfold befW; rw [if_pos hi0]
          obtain ⟨ad', rfl, hcd⟩ := hrq.fltN i him
          have fy : isFin .f32 (rdf ys i) = true := fin_rdf Hfy.out (by omega) (by rw [HM.out]; omega)
          skip
          obtain ⟨y, hy⟩ : ∃ y, y = rdf ys i := ⟨_, rfl⟩
          rw [← hy] at hcd fy
          have HY := Lib.hid hy
          have HD : Hid (absW y = behW ys i) := by show _ = _; unfold behW; rw [if_pos (by rw [HM.out]; exact him), ← HY.out]
          clear hy
          have hcd0 : wr.cell? ad' = some (.float .f32 y) := by have h' := hcd; rw [hi0] at h'; rwa [show ad'.add 0 = ad' by cases ad'; simp [Addr.add]] at h'
          clear hrd hrq
          have hca0 : wr.cell? ad = some (.float .f32 q) := by have h' := hca; rw [hi0] at h'; rwa [show ad.add 0 = ad by cases ad; simp [Addr.add]] at h'
          have hex1 := hx
          go_wp2_with fail
          refine (absolute_any y (fin_nn fy) _).mono ?_
          rintro e w2 ⟨rfl, hxb⟩
          have hex2 := hex1.trans hxb
          have a0 := hxb.cell c0
          have aca := hxb.cell hca
          clear hcd hcd0 hca0 c0 c1 hca hxb
          have aca0 : w2.cell? ad = some (.float .f32 q) := by have h' := aca; rw [hi0] at h'; rwa [show ad.add 0 = ad by cases ad; simp [Addr.add]] at h'
          obtain ⟨r1, w3, hrr1, hx3, hc1⟩ := run_fop (P := Try.prog) w2 .add (.inl rfl) 39 .f32 0 (absW y)
          obtain ⟨r2, w4, hrr2, hx4, hc2⟩ := run_fop (P := Try.prog) w3 .sub (.inr (.inl rfl)) 39 .f32 q r1
          obtain ⟨r4, w6, hrr4, hx6, hc4⟩ := run_fop (P := Try.prog) w4 .add (.inl rfl) 39 .f32 q r1
          have hex := ((hex2.trans hx3).trans hx4).trans hx6
          have hcH : c32 r4 = fadd (c32 (rdf xs i)) (rchF ys i) := by rw [← HQ.out, rchF, ← HB.out, ← HD.out]; exact hc4.trans (congrArg (fop .add .f32 _) hc1)
          clear hc4 hx6
          have hcL : c32 r2 = fsub (c32 (rdf xs i)) (rchF ys i) := by rw [← HQ.out, rchF, ← HB.out, ← HD.out]; exact hc2.trans (congrArg (fop .sub .f32 _) hc1)
          clear hc1 hc2 hx3 hx4
          have HN := Lib.hid (And.intro (low_0 hi0 hcL) (high_0 hi0 hcH))
          clear hcL hcH
          go_wp2_with (simp only [hrr1, hrr2, hrr4])
          go_roundw
          case rel => exact ⟨i + 1, _, _, by omega, rfl, rfl, by go_num, HN.out, hex⟩
          case measure => simp [intOf]; omega
        · have him' : ¬ (i : Int) < m := by omega
          have HB : Hid (0 = befW ys i) := by show _ = _; unfold befW; rw [if_pos hi0]
          have HD : Hid (0 = behW ys i) := by show _ = _; unfold behW; rw [if_neg (by rw [HM.out]; exact him)]
          clear hrd hrq
          have hca0 : wr.cell? ad = some (.float .f32 q) := by have h' := hca; rw [hi0] at h'; rwa [show ad.add 0 = ad by cases ad; simp [Addr.add]] at h'
          have hex1 := hx
          have hex2 := hex1
          have a0 := c0
          have aca := hca
          clear hca c0
          have aca0 : wr.cell? ad = some (.float .f32 q) := by have h' := aca; rw [hi0] at h'; rwa [show ad.add 0 = ad by cases ad; simp [Addr.add]] at h'
          obtain ⟨r1, w3, hrr1, hx3, hc1⟩ := run_fop (P := Try.prog) wr .add (.inl rfl) 39 .f32 0 0
          obtain ⟨r2, w4, hrr2, hx4, hc2⟩ := run_fop (P := Try.prog) w3 .sub (.inr (.inl rfl)) 39 .f32 q r1
          obtain ⟨r4, w6, hrr4, hx6, hc4⟩ := run_fop (P := Try.prog) w4 .add (.inl rfl) 39 .f32 q r1
          have hex := ((hex2.trans hx3).trans hx4).trans hx6
          have hcH : c32 r4 = fadd (c32 (rdf xs i)) (rchF ys i) := by rw [← HQ.out, rchF, ← HB.out, ← HD.out]; exact hc4.trans (congrArg (fop .add .f32 _) hc1)
          clear hc4 hx6
          have hcL : c32 r2 = fsub (c32 (rdf xs i)) (rchF ys i) := by rw [← HQ.out, rchF, ← HB.out, ← HD.out]; exact hc2.trans (congrArg (fop .sub .f32 _) hc1)
          clear hc1 hc2 hx3 hx4
          have HN := Lib.hid (And.intro (low_0 hi0 hcL) (high_0 hi0 hcH))
          clear hcL hcH
          go_wp2_with (simp only [hrr1, hrr2, hrr4])
          go_roundw
          case rel => exact ⟨i + 1, _, _, by omega, rfl, rfl, by go_num, HN.out, hex⟩
          case measure => simp [intOf]; omega
      · have hb0 : ((i : Int) == 0) = false := by simp; omega
        have hp0 : (0 : Int) < i := by omega
        by_cases him : i < m
        · have him' : (i : Int) < m := by omega
          obtain ⟨ad', rfl, hcb⟩ := hrq.fltN (i - 1) (by omega)
          have ei : (((i - 1 : Nat) : Nat) : Int) = (i : Int) - 1 := by omega
          rw [ei] at hcb
          have fz : isFin .f32 (rdf ys ((i : Int) - 1)) = true := fin_rdf Hfy.out (by omega) (by rw [HM.out]; omega)
          skip
          obtain ⟨z, hz⟩ : ∃ z, z = rdf ys ((i : Int) - 1) := ⟨_, rfl⟩
          rw [← hz] at hcb fz
          have HZ := Lib.hid hz
          have HB : Hid (absW z = befW ys i) := by show _ = _; unfold befW; rw [if_neg hi0, ← HZ.out]
          clear hz ei
          have g1 : IntKind.i64.wrap ((i : Int) - 1) = (i : Int) - 1 := IntWalk.i64_in _ (by omega)
          have g2 : (1 : Int) ≤ (i : Int) := by omega
          have g3 : (i : Int) - 1 < (m : Int) := by omega
          obtain ⟨ad2, hAd, hcd⟩ := hrq.fltN i him
          obtain rfl := Option.some.inj hAd
          clear hAd
          have fy : isFin .f32 (rdf ys i) = true := fin_rdf Hfy.out (by omega) (by rw [HM.out]; omega)
          skip
          obtain ⟨y, hy⟩ : ∃ y, y = rdf ys i := ⟨_, rfl⟩
          rw [← hy] at hcd fy
          have HY := Lib.hid hy
          have HD : Hid (absW y = behW ys i) := by show _ = _; unfold behW; rw [if_pos (by rw [HM.out]; exact him), ← HY.out]
          clear hy
          clear hrd hrq
          go_wp2_with fail
          refine (absolute_any z (fin_nn fz) _).mono ?_
          rintro e w1 ⟨rfl, hxa⟩
          have hex1 := hx.trans hxa
          replace c0 := hxa.cell c0
          replace c1 := hxa.cell c1
          replace hca := hxa.cell hca
          replace hcd := hxa.cell hcd
          clear hcb hxa g1 g2 g3
          go_wp2_with fail
          refine (absolute_any y (fin_nn fy) _).mono ?_
          rintro e w2 ⟨rfl, hxb⟩
          have hex2 := hex1.trans hxb
          have a0 := hxb.cell c0
          have aca := hxb.cell hca
          clear hcd c0 c1 hca hxb
          obtain ⟨r1, w3, hrr1, hx3, hc1⟩ := run_fop (P := Try.prog) w2 .add (.inl rfl) 39 .f32 (absW z) (absW y)
          obtain ⟨r2, w4, hrr2, hx4, hc2⟩ := run_fop (P := Try.prog) w3 .sub (.inr (.inl rfl)) 39 .f32 q r1
          obtain ⟨r4, w6, hrr4, hx6, hc4⟩ := run_fop (P := Try.prog) w4 .add (.inl rfl) 39 .f32 q r1
          have hex := ((hex2.trans hx3).trans hx4).trans hx6
          have hcH : c32 r4 = fadd (c32 (rdf xs i)) (rchF ys i) := by rw [← HQ.out, rchF, ← HB.out, ← HD.out]; exact hc4.trans (congrArg (fop .add .f32 _) hc1)
          clear hc4 hx6
          have hcL : c32 r2 = fsub (c32 (rdf xs i)) (rchF ys i) := by rw [← HQ.out, rchF, ← HB.out, ← HD.out]; exact hc2.trans (congrArg (fop .sub .f32 _) hc1)
          clear hc1 hc2 hx3 hx4
          cases o1 : (FloatKind.f32.format.order r2 l == some .lt) with
          | true =>
            cases o2 : (FloatKind.f32.format.order r4 h == some .gt) with
            | true =>
              have HN := Lib.hid (And.intro (low_t HLH.out.1 hcL o1) (high_t HLH.out.2 hcH o2))
              clear hcL hcH
              go_wp2_with (simp only [hrr1, hrr2, hrr4])
              go_roundw
              case rel => exact ⟨i + 1, _, _, by omega, rfl, rfl, by go_num, HN.out, hex⟩
              case measure => simp [intOf]; omega
            | false =>
              have HN := Lib.hid (And.intro (low_t HLH.out.1 hcL o1) (high_f hi0 HLH.out.2 hcH o2))
              clear hcL hcH
              go_wp2_with (simp only [hrr1, hrr2, hrr4])
              go_roundw
              case rel => exact ⟨i + 1, _, _, by omega, rfl, rfl, by go_num, HN.out, hex⟩
              case measure => simp [intOf]; omega
          | false =>
            cases o2 : (FloatKind.f32.format.order r4 h == some .gt) with
            | true =>
              have HN := Lib.hid (And.intro (low_f hi0 HLH.out.1 hcL o1) (high_t HLH.out.2 hcH o2))
              clear hcL hcH
              go_wp2_with (simp only [hrr1, hrr2, hrr4])
              go_roundw
              case rel => exact ⟨i + 1, _, _, by omega, rfl, rfl, by go_num, HN.out, hex⟩
              case measure => simp [intOf]; omega
            | false =>
              have HN := Lib.hid (And.intro (low_f hi0 HLH.out.1 hcL o1) (high_f hi0 HLH.out.2 hcH o2))
              clear hcL hcH
              go_wp2_with (simp only [hrr1, hrr2, hrr4])
              go_roundw
              case rel => exact ⟨i + 1, _, _, by omega, rfl, rfl, by go_num, HN.out, hex⟩
              case measure => simp [intOf]; omega
        · have him' : ¬ (i : Int) < m := by omega
          obtain ⟨ad', rfl, hcb⟩ := hrq.fltN (i - 1) (by omega)
          have ei : (((i - 1 : Nat) : Nat) : Int) = (i : Int) - 1 := by omega
          rw [ei] at hcb
          have fz : isFin .f32 (rdf ys ((i : Int) - 1)) = true := fin_rdf Hfy.out (by omega) (by rw [HM.out]; omega)
          skip
          obtain ⟨z, hz⟩ : ∃ z, z = rdf ys ((i : Int) - 1) := ⟨_, rfl⟩
          rw [← hz] at hcb fz
          have HZ := Lib.hid hz
          have HB : Hid (absW z = befW ys i) := by show _ = _; unfold befW; rw [if_neg hi0, ← HZ.out]
          clear hz ei
          have g1 : IntKind.i64.wrap ((i : Int) - 1) = (i : Int) - 1 := IntWalk.i64_in _ (by omega)
          have g2 : (1 : Int) ≤ (i : Int) := by omega
          have g3 : (i : Int) - 1 < (m : Int) := by omega
          have HD : Hid (0 = behW ys i) := by show _ = _; unfold behW; rw [if_neg (by rw [HM.out]; exact him)]
          clear hrd hrq
          go_wp2_with fail
          refine (absolute_any z (fin_nn fz) _).mono ?_
          rintro e w1 ⟨rfl, hxa⟩
          have hex1 := hx.trans hxa
          replace c0 := hxa.cell c0
          replace c1 := hxa.cell c1
          replace hca := hxa.cell hca
          clear hcb hxa g1 g2 g3
          have hex2 := hex1
          have a0 := c0
          have aca := hca
          clear hca c0
          obtain ⟨r1, w3, hrr1, hx3, hc1⟩ := run_fop (P := Try.prog) w1 .add (.inl rfl) 39 .f32 (absW z) 0
          obtain ⟨r2, w4, hrr2, hx4, hc2⟩ := run_fop (P := Try.prog) w3 .sub (.inr (.inl rfl)) 39 .f32 q r1
          obtain ⟨r4, w6, hrr4, hx6, hc4⟩ := run_fop (P := Try.prog) w4 .add (.inl rfl) 39 .f32 q r1
          have hex := ((hex2.trans hx3).trans hx4).trans hx6
          have hcH : c32 r4 = fadd (c32 (rdf xs i)) (rchF ys i) := by rw [← HQ.out, rchF, ← HB.out, ← HD.out]; exact hc4.trans (congrArg (fop .add .f32 _) hc1)
          clear hc4 hx6
          have hcL : c32 r2 = fsub (c32 (rdf xs i)) (rchF ys i) := by rw [← HQ.out, rchF, ← HB.out, ← HD.out]; exact hc2.trans (congrArg (fop .sub .f32 _) hc1)
          clear hc1 hc2 hx3 hx4
          cases o1 : (FloatKind.f32.format.order r2 l == some .lt) with
          | true =>
            cases o2 : (FloatKind.f32.format.order r4 h == some .gt) with
            | true =>
              have HN := Lib.hid (And.intro (low_t HLH.out.1 hcL o1) (high_t HLH.out.2 hcH o2))
              clear hcL hcH
              go_wp2_with (simp only [hrr1, hrr2, hrr4])
              go_roundw
              case rel => exact ⟨i + 1, _, _, by omega, rfl, rfl, by go_num, HN.out, hex⟩
              case measure => simp [intOf]; omega
            | false =>
              have HN := Lib.hid (And.intro (low_t HLH.out.1 hcL o1) (high_f hi0 HLH.out.2 hcH o2))
              clear hcL hcH
              go_wp2_with (simp only [hrr1, hrr2, hrr4])
              go_roundw
              case rel => exact ⟨i + 1, _, _, by omega, rfl, rfl, by go_num, HN.out, hex⟩
              case measure => simp [intOf]; omega
          | false =>
            cases o2 : (FloatKind.f32.format.order r4 h == some .gt) with
            | true =>
              have HN := Lib.hid (And.intro (low_f hi0 HLH.out.1 hcL o1) (high_t HLH.out.2 hcH o2))
              clear hcL hcH
              go_wp2_with (simp only [hrr1, hrr2, hrr4])
              go_roundw
              case rel => exact ⟨i + 1, _, _, by omega, rfl, rfl, by go_num, HN.out, hex⟩
              case measure => simp [intOf]; omega
            | false =>
              have HN := Lib.hid (And.intro (low_f hi0 HLH.out.1 hcL o1) (high_f hi0 HLH.out.2 hcH o2))
              clear hcL hcH
              go_wp2_with (simp only [hrr1, hrr2, hrr4])
              go_roundw
              case rel => exact ⟨i + 1, _, _, by omega, rfl, rfl, by go_num, HN.out, hex⟩
              case measure => simp [intOf]; omega
    · obtain rfl : i = n := by omega
      clear hrd hrq c1
      go_wp2_with fail
      go_ret2
      exact ⟨l, h, rfl, HLH.out.1, HLH.out.2, hx0.trans hx⟩

end Go.Proofs.Ytgjfdfmbknmpaaa
