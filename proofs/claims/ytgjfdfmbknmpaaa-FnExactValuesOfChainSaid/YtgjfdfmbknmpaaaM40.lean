import Derived.Test.YtgjfdfmbknmpaaaM39
set_option linter.unusedVariables false
set_option linter.unusedSimpArgs false
namespace Go.Proofs.Ytgjfdfmbknmpaaa
open Go.RowKit

/-- The middle of two numbers; halvings; the value of a number k. -/
def midF (lo hi : Nat) : Option Nat := fmul (some 1056964608) (fadd (c32 lo) (c32 hi))
def stepB (xs ys : List Nat) (k : Int) (p : Nat × Nat) : Option (Nat × Nat) :=
  match midF p.1 p.2 with
  | none => none
  | some m => if isFin .f32 m && (belowD xs ys m).2 then (if (belowD xs ys m).1 ≤ k then some (m, p.2) else some (p.1, m)) else none
def bisF (xs ys : List Nat) (k : Int) (p : Nat × Nat) : Nat → Option (Nat × Nat)
  | 0 => some p
  | j + 1 => (bisF xs ys k p j).bind (stepB xs ys k)
def lastB (o : Option (Nat × Nat)) : Nat × Bool := match o with
  | some p => (p.1, true)
  | none => (0, false)
def halvD (xs ys : List Nat) (k : Int) : Nat × Bool := if (spanD xs ys).2.2 then lastB (bisF xs ys k ((spanD xs ys).1, (spanD xs ys).2.1) 40) else (0, false)
def valD (xs ys : List Nat) (k : Int) : Nat × Bool := if isCh xs ys && inR 0 k ((xs.length : Int) - 1) then halvD xs ys k else (0, false)
theorem c32_half : c32 1056964608 = some 1056964608 := by decide
theorem step_cnt {xs ys : List Nat} {k : Int} {lo hi m : Nat} (hc : isCh xs ys = true) (hm : c32 m = midF lo hi) :
    stepB xs ys k (lo, hi) = if (cntD xs ys m).2 then (if (cntD xs ys m).1 ≤ k then some (m, hi) else some (lo, m)) else none := by
  unfold stepB
  show (match midF lo hi with | none => none | some m => if isFin .f32 m && (belowD xs ys m).2 then (if (belowD xs ys m).1 ≤ k then some (m, hi) else some (lo, m)) else none) = _
  rw [← hm]
  cases hf : isFin .f32 m with
  | false =>
    rw [cnt_bad (by rw [hf]; simp)]
    cases hcm : c32 m with
    | none => rfl
    | some m' =>
      obtain ⟨rfl, _⟩ := cf_some hcm
      simp [hf]
  | true =>
    rw [isFin_c32 hf, cnt_good (by rw [hc, hf]; rfl)]
    simp [hf]
theorem bis_none {xs ys : List Nat} {k : Int} {p : Nat × Nat} {j : Nat} (h : bisF xs ys k p j = none) : ∀ i, bisF xs ys k p (j + i) = none
  | 0 => h
  | i + 1 => by
    show (bisF xs ys k p (j + i)).bind _ = none
    rw [bis_none h i]
    rfl
theorem bis_step {xs ys : List Nat} {k : Int} {p q : Nat × Nat} {j : Nat} (h : bisF xs ys k p j = some q) : bisF xs ys k p (j + 1) = stepB xs ys k q := by
  show (bisF xs ys k p j).bind _ = _
  rw [h]
  rfl
theorem bis_bad {xs ys : List Nat} {k : Int} {p q : Nat × Nat} {j : Nat} (h : bisF xs ys k p j = some q) (hb : stepB xs ys k q = none) (hj : j < 40) : lastB (bisF xs ys k p 40) = (0, false) := by
  have h1 : bisF xs ys k p (j + 1) = none := by rw [bis_step h, hb]
  have h2 := bis_none h1 (39 - j)
  have e : j + 1 + (39 - j) = 40 := by omega
  rw [e] at h2
  rw [h2]
  rfl
theorem span_eq {xs ys : List Nat} {n l h : Nat} (hc : isCh xs ys = true) (hn : xs.length = n) (hl : c32 l = lowF xs ys n) (hh : c32 h = highF xs ys n) : spanD xs ys = giveFF (c32 l) (c32 h) := by
  unfold spanD
  rw [if_pos hc, hn, hl, hh]
theorem halv_bad {xs ys : List Nat} {k : Int} {l h : Nat} (hs : spanD xs ys = giveFF (c32 l) (c32 h)) (hf : (isFin .f32 l && isFin .f32 h) = false) : halvD xs ys k = (0, false) := by
  unfold halvD
  rw [hs, giveFF_bad hf]
  rfl
theorem halv_good {xs ys : List Nat} {k : Int} {l h : Nat} (hs : spanD xs ys = giveFF (c32 l) (c32 h)) (h1 : isFin .f32 l = true) (h2 : isFin .f32 h = true) : halvD xs ys k = lastB (bisF xs ys k (l, h) 40) := by
  unfold halvD
  rw [hs, giveFF_good h1 h2]
  rfl

set_option maxRecDepth 20000 in
set_option maxHeartbeats 8000000 in
theorem l04Value_any (b : Nat) (A : Option Addr) (n cap : Nat) (B : Option Addr) (m cap' : Nat) (xs ys : List Nat) (k : Int) (w : World) (ha : CAt w b A n cap B m cap' xs ys) (hc : isCh xs ys = true) (hwf : ∀ x ∈ ys, x < 4294967296) :
    Calls Try.prog 172 #[.pointer (some ⟨b, 0, none⟩), .int .i64 k] w (RetND w (halvD xs ys k)) := by
  have HL := Lib.hid ha.rds.flen
  have HL2 := Lib.hid ha.rdq.flen
  obtain ⟨hnm, hn1, hn12⟩ := ch_nat hc
  rw [HL.out] at hnm hn1 hn12
  rw [HL2.out] at hnm
  obtain ⟨d, hd⟩ : ∃ d, d = halvD xs ys k := ⟨_, rfl⟩
  have Hd := Lib.hid hd
  rw [← hd]
  have Hc := Lib.hid hc
  have Hwf := Lib.hid hwf
  clear hd hc hwf
  go_enter Try.func172, Try.ntmps172
  go_upto_region 1 with (fail)
  go_wp2_with fail
  refine (l04Span_any b A n cap B m cap' xs ys _ ha hnm hn12 (ch_fin Hc.out).2 Hwf.out).mono ?_
  rintro e w2 ⟨l, h, rfl, hl, hh, hx⟩
  have Hsp := Lib.hid (span_eq Hc.out HL.out hl hh)
  clear hl hh
  cases h1 : isFin .f32 l with
  | false =>
    have hD := halv_bad (k := k) Hsp.out (by rw [h1]; rfl)
    go_wp2_with fail
    refine (l01Finite_any l _).mono ?_
    rintro e w3 ⟨rfl, hx3⟩
    rw [h1]
    go_wp2_with fail
    go_ret2
    exact ⟨by rw [Hd.out, hD]; rfl, hx.trans hx3⟩
  | true =>
    cases h2 : isFin .f32 h with
    | false =>
      have hD := halv_bad (k := k) Hsp.out (by rw [h1, h2]; rfl)
      go_wp2_with fail
      refine (l01Finite_any l _).mono ?_
      rintro e w3 ⟨rfl, hx3⟩
      rw [h1]
      go_wp2_with fail
      refine (l01Finite_any h _).mono ?_
      rintro e w4 ⟨rfl, hx4⟩
      rw [h2]
      go_wp2_with fail
      go_ret2
      exact ⟨by rw [Hd.out, hD]; rfl, (hx.trans hx3).trans hx4⟩
    | true =>
      have HD := Lib.hid (halv_good (k := k) Hsp.out h1 h2)
      go_wp2_with fail
      refine (l01Finite_any l _).mono ?_
      rintro e w3 ⟨rfl, hx3⟩
      rw [h1]
      go_wp2_with fail
      refine (l01Finite_any h _).mono ?_
      rintro e w4 ⟨rfl, hx4⟩
      rw [h2]
      replace hx := (hx.trans hx3).trans hx4
      clear hx3 hx4 h1 h2
      go_wp2_with fail
      go_loopw [6, 7, 8] (fun a c u wr => ∃ j lo hi : Nat, j ≤ 40 ∧ a = .float .f32 lo ∧ c = .float .f32 hi ∧ u = .int .i64 j ∧ Hid (bisF xs ys k (l, h) j = some (lo, hi)) ∧ Ext w wr) (fun _ _ u _ => 40 - (intOf u).toNat)
      case atStart => exact ⟨0, l, h, by omega, rfl, rfl, rfl, rfl, hx⟩
      case round =>
        clear hx
        obtain ⟨j, lo, hi, hj, rfl, rfl, rfl, HB, hx⟩ := hrel
        by_cases hlt : j < 40
        · have hlt' : (j : Int) < 40 := by omega
          obtain ⟨r1, w5, hrr1, hx1, hc1⟩ := run_fop (P := Try.prog) wr .add (.inl rfl) 39 .f32 lo hi
          obtain ⟨mm, w6, hrr2, hx2, hc2⟩ := run_fop (P := Try.prog) w5 .mul (.inr (.inr (.inl rfl))) 39 .f32 1056964608 r1
          have hm : c32 mm = midF lo hi := by
            have e1 : c32 r1 = fadd (c32 lo) (c32 hi) := hc1
            have e2 : c32 mm = fmul (c32 1056964608) (c32 r1) := hc2
            rw [e2, e1, c32_half]
            rfl
          have HS := Lib.hid (step_cnt (k := k) Hc.out hm)
          replace hx := (hx.trans hx1).trans hx2
          clear hc1 hc2 hm hx1 hx2
          cases hf : isFin .f32 mm with
          | false =>
            have hD : d = (0, false) := by
              have hs := HS.out
              rw [cnt_bad (by rw [hf]; simp)] at hs
              rw [Hd.out, HD.out]
              exact bis_bad HB.out hs hlt
            go_wp2_with (simp only [hrr1, hrr2])
            refine (l01Finite_any mm _).mono ?_
            rintro e w7 ⟨rfl, hx7⟩
            rw [hf]
            go_wp2_with fail
            go_ret2
            exact ⟨by rw [hD]; rfl, hx.trans hx7⟩
          | true =>
            have hcd := cnt_good (xs := xs) (ys := ys) (x := mm) (by rw [Hc.out, hf]; rfl)
            have HS2 : Hid (stepB xs ys k (lo, hi) = if (belowD xs ys mm).2 then (if (belowD xs ys mm).1 ≤ k then some (mm, hi) else some (lo, mm)) else none) := by
              have hs := HS.out
              rw [hcd] at hs
              exact hs
            clear hcd
            go_wp2_with (simp only [hrr1, hrr2])
            refine (l01Finite_any mm _).mono ?_
            rintro e w7 ⟨rfl, hx7⟩
            rw [hf]
            replace hx := hx.trans hx7
            clear hx7
            go_wp2_with fail
            refine (l04Below_any b A n cap B m cap' xs ys mm _ (ha.ext hx) hnm hn12).mono ?_
            obtain ⟨⟨cnt, ok⟩, hd2⟩ : ∃ d, d = belowD xs ys mm := ⟨_, rfl⟩
            rw [← hd2]
            rintro e w8 ⟨rfl, hx8⟩
            have HS3 : Hid (stepB xs ys k (lo, hi) = if ok then (if cnt ≤ k then some (mm, hi) else some (lo, mm)) else none) := by
              have hs := HS2.out
              rw [← hd2] at hs
              exact hs
            replace hx := hx.trans hx8
            clear hx8 hd2
            cases ok with
            | false =>
              have hD : d = (0, false) := by
                rw [Hd.out, HD.out]
                exact bis_bad HB.out HS3.out hlt
              go_wp2_with fail
              go_ret2
              exact ⟨by rw [hD]; rfl, hx⟩
            | true =>
              by_cases hk : cnt ≤ k
              · have HN : Hid (bisF xs ys k (l, h) (j + 1) = some (mm, hi)) := by show _ = _; rw [bis_step HB.out, HS3.out, if_pos rfl, if_pos hk]
                go_wp2_with fail
                go_roundw
                case rel => exact ⟨j + 1, _, _, by omega, rfl, rfl, by go_num, HN, hx⟩
                case measure => simp [intOf]; omega
              · have HN : Hid (bisF xs ys k (l, h) (j + 1) = some (lo, mm)) := by show _ = _; rw [bis_step HB.out, HS3.out, if_pos rfl, if_neg hk]
                go_wp2_with fail
                go_roundw
                case rel => exact ⟨j + 1, _, _, by omega, rfl, rfl, by go_num, HN, hx⟩
                case measure => simp [intOf]; omega
        · obtain rfl : j = 40 := by omega
          have hD : d = (lo, true) := by rw [Hd.out, HD.out, HB.out]; rfl
          go_wp2_with fail
          go_ret2
          exact ⟨by rw [hD]; rfl, hx⟩

theorem val_no {xs ys : List Nat} {k : Int} (h : (isCh xs ys && inR 0 k ((xs.length : Int) - 1)) = false) : valD xs ys k = (0, false) := by simp [valD, h]
theorem val_yes {xs ys : List Nat} {k : Int} (h : (isCh xs ys && inR 0 k ((xs.length : Int) - 1)) = true) : valD xs ys k = halvD xs ys k := by simp [valD, h]

set_option maxRecDepth 20000 in
set_option maxHeartbeats 4000000 in
theorem specValueOfChain_any (A : Option Addr) (n cap : Nat) (B : Option Addr) (m cap' : Nat) (k : Int) (xs ys : List Nat) (w : World) (hr : Rds w A n (flts xs)) (hq : Rds w B m (flts ys)) (_hwx : ∀ x ∈ xs, x < 4294967296) (hwf : ∀ x ∈ ys, x < 4294967296) :
    Calls Try.prog 94 #[.agg #[.slice A n cap, .slice B m cap'], .int .i64 k] w (RetND w (valD xs ys k)) := by
  have HL := Lib.hid hr.flen
  have Hwf := Lib.hid hwf
  have hs1 := hr.small
  clear hwf _hwx
  cases hc : isCh xs ys with
  | false =>
    rw [val_no (by rw [hc]; rfl)]
    go_enter Try.func94, Try.ntmps94
    go_upto_region 1 with (fail)
    obtain ⟨w0, hw0⟩ : ∃ w0, w0 = (w.alloc (.cells #[.slice A n cap, .slice B m cap'] 27)) := ⟨_, rfl⟩
    have hx0 : Ext w w0 := by subst hw0; exact (Ext.refl _).alloc _
    have ba : Blk w0 (w.heap.size) #[.slice A n cap, .slice B m cap'] 27 := by subst hw0; exact (Blk.new w _ _)
    rw [← hw0]
    clear hw0
    go_wp2_with fail
    refine (l04Is_any _ A n cap B m cap' xs ys _ (CAt.of ba (hr.below hx0) (hq.below hx0))).mono ?_
    rintro e w1 ⟨rfl, hx⟩
    rw [hc]
    go_wp2_with fail
    go_ret2
    exact ⟨rfl, hx0.trans hx⟩
  | true =>
    cases hin : inR 0 k ((n : Int) - 1) with
    | false =>
      rw [val_no (by rw [hc, HL.out, hin]; rfl)]
      go_enter Try.func94, Try.ntmps94
      go_upto_region 1 with (fail)
      obtain ⟨w0, hw0⟩ : ∃ w0, w0 = (w.alloc (.cells #[.slice A n cap, .slice B m cap'] 27)) := ⟨_, rfl⟩
      have hx0 : Ext w w0 := by subst hw0; exact (Ext.refl _).alloc _
      have ba : Blk w0 (w.heap.size) #[.slice A n cap, .slice B m cap'] 27 := by subst hw0; exact (Blk.new w _ _)
      rw [← hw0]
      clear hw0
      go_wp2_with fail
      refine (l04Is_any _ A n cap B m cap' xs ys _ (CAt.of ba (hr.below hx0) (hq.below hx0))).mono ?_
      rintro e w1 ⟨rfl, hx⟩
      rw [hc]
      replace hx0 := hx0.trans hx
      replace ba := ba.ext hx
      clear hx
      have a0 := ba.cell 0 rfl
      go_wp2_with fail
      refine (l00In_any k 0 ((n : Int) - 1) _).mono ?_
      rintro e w2 ⟨rfl, rfl⟩
      rw [hin]
      go_wp2_with fail
      go_ret2
      exact ⟨rfl, hx0⟩
    | true =>
      rw [val_yes (by rw [hc, HL.out, hin]; rfl)]
      go_enter Try.func94, Try.ntmps94
      go_upto_region 1 with (fail)
      obtain ⟨w0, hw0⟩ : ∃ w0, w0 = (w.alloc (.cells #[.slice A n cap, .slice B m cap'] 27)) := ⟨_, rfl⟩
      have hx0 : Ext w w0 := by subst hw0; exact (Ext.refl _).alloc _
      have ba : Blk w0 (w.heap.size) #[.slice A n cap, .slice B m cap'] 27 := by subst hw0; exact (Blk.new w _ _)
      rw [← hw0]
      clear hw0
      go_wp2_with fail
      refine (l04Is_any _ A n cap B m cap' xs ys _ (CAt.of ba (hr.below hx0) (hq.below hx0))).mono ?_
      rintro e w1 ⟨rfl, hx⟩
      rw [hc]
      replace hx0 := hx0.trans hx
      replace ba := ba.ext hx
      clear hx
      have a0 := ba.cell 0 rfl
      go_wp2_with fail
      refine (l00In_any k 0 ((n : Int) - 1) _).mono ?_
      rintro e w2 ⟨rfl, rfl⟩
      rw [hin]
      clear a0
      go_wp2_with fail
      refine (l04Value_any _ A n cap B m cap' xs ys k _ (CAt.of ba (hr.below hx0) (hq.below hx0)) hc Hwf.out).mono ?_
      rintro e w3 ⟨rfl, hx⟩
      go_wp2_with fail
      go_ret2
      exact ⟨rfl, hx0.trans hx⟩

end Go.Proofs.Ytgjfdfmbknmpaaa
