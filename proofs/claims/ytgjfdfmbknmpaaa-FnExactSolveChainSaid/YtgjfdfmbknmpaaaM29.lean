import Derived.Test.YtgjfdfmbknmpaaaM4
set_option linter.unusedVariables false
set_option linter.unusedSimpArgs false
namespace Go.Proofs.Ytgjfdfmbknmpaaa
open Go.RowKit

/-- The test of a chain. -/
def isCh (xs ys : List Nat) : Bool := inR 1 xs.length 12 && decide ((ys.length : Int) = xs.length - 1) && finL xs && finL ys

/-- A chain in a block. -/
structure CAt (w : World) (b : Nat) (A : Option Addr) (n cap : Nat) (B : Option Addr) (m cap' : Nat) (xs ys : List Nat) : Prop where
  c0 : w.cell? ⟨b, 0, none⟩ = some (.slice A n cap)
  c1 : w.cell? ⟨b, 1, none⟩ = some (.slice B m cap')
  rds : Rds w A n (flts xs)
  rdq : Rds w B m (flts ys)
theorem CAt.ext {w w' : World} {b : Nat} {A : Option Addr} {n cap : Nat} {B : Option Addr} {m cap' : Nat} {xs ys : List Nat} (h : CAt w b A n cap B m cap' xs ys) (hx : Ext w w') : CAt w' b A n cap B m cap' xs ys :=
  ⟨hx.cell h.c0, hx.cell h.c1, h.rds.below hx, h.rdq.below hx⟩
theorem CAt.of {w : World} {b : Nat} {T : TypeId} {A : Option Addr} {n cap : Nat} {B : Option Addr} {m cap' : Nat} {xs ys : List Nat} (h : Blk w b #[.slice A n cap, .slice B m cap'] T) (hr : Rds w A n (flts xs)) (hq : Rds w B m (flts ys)) : CAt w b A n cap B m cap' xs ys :=
  ⟨h.cell 0 rfl, h.cell 1 rfl, hr, hq⟩

set_option maxRecDepth 20000 in
set_option maxHeartbeats 1000000 in
theorem implValidChain_any (A : Option Addr) (n cap : Nat) (B : Option Addr) (m cap' : Nat) (xs ys : List Nat) (w : World) (hr : Rds w A n (flts xs)) (hq : Rds w B m (flts ys)) :
    Calls Try.prog 33 #[.agg #[.slice A n cap, .slice B m cap']] w fun e w' => e = .returned (.bool (isCh xs ys)) ∧ Ext w w' := by
  have hs := hr.small
  have hs2 := hq.small
  obtain ⟨res, hres⟩ : ∃ res, res = isCh xs ys := ⟨_, rfl⟩
  rw [← hres]
  unfold isCh at hres
  rw [hr.flen, hq.flen] at hres
  have Hres := Lib.hid hres
  clear hres
  cases h1 : inR 1 n 12 with
  | false =>
    go_enter Try.func33, Try.ntmps33
    go_upto_region 1 with (fail)
    obtain ⟨w0, hw0⟩ : ∃ w0, w0 = (w.alloc (.cells #[.slice A n cap, .slice B m cap'] 27)) := ⟨_, rfl⟩
    have hx0 : Ext w w0 := by subst hw0; exact (Ext.refl _).alloc _
    have ba : Blk w0 (w.heap.size) #[.slice A n cap, .slice B m cap'] 27 := by subst hw0; exact (Blk.new w _ _)
    rw [← hw0]
    clear hw0
    have a0 := ba.cell 0 rfl
    go_wp2_with fail
    refine (lengthF_any A n cap hs _).mono ?_
    rintro e w1 ⟨rfl, rfl⟩
    go_wp2_with fail
    refine (isSide_any _ _).mono ?_
    rintro e w1 ⟨rfl, rfl⟩
    rw [h1]
    go_wp2_with fail
    go_ret
    exact ⟨ret_bool (by rw [Hres.out, h1]; rfl), hx0⟩
  | true =>
    have b1 := inR_iff.1 h1
    by_cases h3 : (m : Int) = n - 1
    · have h3' : ((m : Int) == (n : Int) - 1) = true := by simpa using h3
      have H3 := Lib.hid h3
      clear h3
      cases hf : finL xs with
      | false =>
        go_enter Try.func33, Try.ntmps33
        go_upto_region 1 with (fail)
        obtain ⟨w0, hw0⟩ : ∃ w0, w0 = (w.alloc (.cells #[.slice A n cap, .slice B m cap'] 27)) := ⟨_, rfl⟩
        have hx0 : Ext w w0 := by subst hw0; exact (Ext.refl _).alloc _
        have ba : Blk w0 (w.heap.size) #[.slice A n cap, .slice B m cap'] 27 := by subst hw0; exact (Blk.new w _ _)
        rw [← hw0]
        clear hw0
        have a0 := ba.cell 0 rfl
        have a1 := ba.cell 1 rfl
        go_wp2_with fail
        refine (lengthF_any A n cap hs _).mono ?_
        rintro e w1 ⟨rfl, rfl⟩
        go_wp2_with fail
        refine (isSide_any _ _).mono ?_
        rintro e w1 ⟨rfl, rfl⟩
        rw [h1]
        go_wp2_with fail
        refine (areFinite_any A n cap xs _ (hr.below hx0)).mono ?_
        rintro e w1 ⟨rfl, hx⟩
        rw [hf]
        go_wp2_with fail
        go_ret
        exact ⟨ret_bool (by rw [Hres.out, h1, hf, decide_eq_true H3.out]; rfl), hx0.trans hx⟩
      | true =>
        go_enter Try.func33, Try.ntmps33
        go_upto_region 1 with (fail)
        obtain ⟨w0, hw0⟩ : ∃ w0, w0 = (w.alloc (.cells #[.slice A n cap, .slice B m cap'] 27)) := ⟨_, rfl⟩
        have hx0 : Ext w w0 := by subst hw0; exact (Ext.refl _).alloc _
        have ba : Blk w0 (w.heap.size) #[.slice A n cap, .slice B m cap'] 27 := by subst hw0; exact (Blk.new w _ _)
        rw [← hw0]
        clear hw0
        have a0 := ba.cell 0 rfl
        have a1 := ba.cell 1 rfl
        go_wp2_with fail
        refine (lengthF_any A n cap hs _).mono ?_
        rintro e w1 ⟨rfl, rfl⟩
        go_wp2_with fail
        refine (isSide_any _ _).mono ?_
        rintro e w1 ⟨rfl, rfl⟩
        rw [h1]
        go_wp2_with fail
        refine (areFinite_any A n cap xs _ (hr.below hx0)).mono ?_
        rintro e w1 ⟨rfl, hx⟩
        rw [hf]
        replace hx0 := hx0.trans hx
        replace ba := ba.ext hx
        clear a0 a1 hx
        have a1 := ba.cell 1 rfl
        go_wp2_with fail
        refine (areFinite_any B m cap' ys _ (hq.below hx0)).mono ?_
        rintro e w2 ⟨rfl, hx⟩
        go_wp2_with fail
        go_ret
        exact ⟨ret_bool (by rw [Hres.out, h1, hf, decide_eq_true H3.out]; rfl), hx0.trans hx⟩
    · have h3' : ((m : Int) == (n : Int) - 1) = false := by simpa using h3
      have H3 := Lib.hid h3
      clear h3
      go_enter Try.func33, Try.ntmps33
      go_upto_region 1 with (fail)
      obtain ⟨w0, hw0⟩ : ∃ w0, w0 = (w.alloc (.cells #[.slice A n cap, .slice B m cap'] 27)) := ⟨_, rfl⟩
      have hx0 : Ext w w0 := by subst hw0; exact (Ext.refl _).alloc _
      have ba : Blk w0 (w.heap.size) #[.slice A n cap, .slice B m cap'] 27 := by subst hw0; exact (Blk.new w _ _)
      rw [← hw0]
      clear hw0
      have a0 := ba.cell 0 rfl
      have a1 := ba.cell 1 rfl
      go_wp2_with fail
      refine (lengthF_any A n cap hs _).mono ?_
      rintro e w1 ⟨rfl, rfl⟩
      go_wp2_with fail
      refine (isSide_any _ _).mono ?_
      rintro e w1 ⟨rfl, rfl⟩
      rw [h1]
      go_wp2_with fail
      go_ret
      exact ⟨ret_bool (by rw [Hres.out, h1, decide_eq_false H3.out]; rfl), hx0⟩

set_option maxRecDepth 20000 in
set_option maxHeartbeats 1000000 in
theorem l04Is_any (b : Nat) (A : Option Addr) (n cap : Nat) (B : Option Addr) (m cap' : Nat) (xs ys : List Nat) (w : World) (ha : CAt w b A n cap B m cap' xs ys) :
    Calls Try.prog 99 #[.pointer (some ⟨b, 0, none⟩)] w fun e w' => e = .returned (.bool (isCh xs ys)) ∧ Ext w w' := by
  have hs := ha.rds.small
  have hs2 := ha.rdq.small
  obtain ⟨res, hres⟩ : ∃ res, res = isCh xs ys := ⟨_, rfl⟩
  rw [← hres]
  unfold isCh at hres
  rw [ha.rds.flen, ha.rdq.flen] at hres
  have Hres := Lib.hid hres
  clear hres
  have a0 := ha.c0
  have a1 := ha.c1
  by_cases h1 : (1 : Int) ≤ n
  rotate_left
  · have h1' : inR 1 n 12 = false := by cases h : inR 1 n 12 with | false => rfl | true => exact absurd (inR_iff.1 h).1 h1
    go_enter Try.func99, Try.ntmps99
    go_upto_region 1 with (fail)
    go_wp2_with fail
    go_ret
    exact ⟨ret_bool (by rw [Hres.out, h1']; rfl), Ext.refl _⟩
  by_cases h2 : (n : Int) ≤ 12
  rotate_left
  · have h1' : inR 1 n 12 = false := by cases h : inR 1 n 12 with | false => rfl | true => exact absurd (inR_iff.1 h).2 h2
    go_enter Try.func99, Try.ntmps99
    go_upto_region 1 with (fail)
    go_wp2_with fail
    go_ret
    exact ⟨ret_bool (by rw [Hres.out, h1']; rfl), Ext.refl _⟩
  have h1' : inR 1 n 12 = true := inR_iff.2 ⟨h1, h2⟩
  by_cases h3 : (m : Int) = n - 1
  · have h3' : ((m : Int) == (n : Int) - 1) = true := by simpa using h3
    have H3 := Lib.hid h3
    clear h3
    cases hf : finL xs with
    | false =>
      go_enter Try.func99, Try.ntmps99
      go_upto_region 1 with (fail)
      go_wp2_with fail
      refine (l02Finite_any A n cap xs _ ha.rds).mono ?_
      rintro e w1 ⟨rfl, hx⟩
      rw [hf]
      go_wp2_with fail
      go_ret
      exact ⟨ret_bool (by rw [Hres.out, h1', hf, decide_eq_true H3.out]; rfl), hx⟩
    | true =>
      go_enter Try.func99, Try.ntmps99
      go_upto_region 1 with (fail)
      go_wp2_with fail
      refine (l02Finite_any A n cap xs _ ha.rds).mono ?_
      rintro e w1 ⟨rfl, hx⟩
      rw [hf]
      clear a0 a1
      have a1 := (ha.ext hx).c1
      go_wp2_with fail
      refine (l02Finite_any B m cap' ys _ (ha.ext hx).rdq).mono ?_
      rintro e w2 ⟨rfl, hx2⟩
      go_wp2_with fail
      go_ret
      exact ⟨ret_bool (by rw [Hres.out, h1', hf, decide_eq_true H3.out]; rfl), hx.trans hx2⟩
  · have h3' : ((m : Int) == (n : Int) - 1) = false := by simpa using h3
    have H3 := Lib.hid h3
    clear h3
    go_enter Try.func99, Try.ntmps99
    go_upto_region 1 with (fail)
    go_wp2_with fail
    go_ret
    exact ⟨ret_bool (by rw [Hres.out, h1', decide_eq_false H3.out]; rfl), Ext.refl _⟩

set_option maxRecDepth 20000 in
set_option maxHeartbeats 1000000 in
theorem specValidChain_any (A : Option Addr) (n cap : Nat) (B : Option Addr) (m cap' : Nat) (xs ys : List Nat) (w : World) (hr : Rds w A n (flts xs)) (hq : Rds w B m (flts ys)) :
    Calls Try.prog 31 #[.agg #[.slice A n cap, .slice B m cap']] w fun e w' => e = .returned (.bool (isCh xs ys)) ∧ Ext w w' := by
  go_enter Try.func31, Try.ntmps31
  go_upto_region 1 with (fail)
  obtain ⟨w0, hw0⟩ : ∃ w0, w0 = (w.alloc (.cells #[.slice A n cap, .slice B m cap'] 27)) := ⟨_, rfl⟩
  have hx0 : Ext w w0 := by subst hw0; exact (Ext.refl _).alloc _
  have ba : Blk w0 (w.heap.size) #[.slice A n cap, .slice B m cap'] 27 := by subst hw0; exact (Blk.new w _ _)
  rw [← hw0]
  clear hw0
  go_wp2_with fail
  refine (l04Is_any _ A n cap B m cap' xs ys _ (CAt.of ba (hr.below hx0) (hq.below hx0))).mono ?_
  rintro e w1 ⟨rfl, hx⟩
  go_wp2_with fail
  go_ret
  exact ⟨rfl, hx0.trans hx⟩

end Go.Proofs.Ytgjfdfmbknmpaaa
