import Derived.Test.YtcfimkjkolgboaaD2
set_option linter.unusedVariables false
set_option linter.unusedSimpArgs false
namespace Go.Proofs.Ytcfimkjkolgboaa
open Go.RowKit

/-- The content of the first k. -/
def cont (xs : List Int) (k : Nat) : Int := (xs.take k).foldl gcdI 0
theorem cont_zero (xs : List Int) : cont xs 0 = 0 := by simp [cont]
theorem cont_succ {xs : List Int} {k : Nat} (h : k < xs.length) : cont xs (k + 1) = gcdI (cont xs k) (rd xs k) := by
  unfold cont
  rw [List.take_succ_eq_append_getElem h, List.foldl_append, rd_get h]
  rfl
theorem allR {lo hi : Int} {xs : List Int} (h : (xs.all fun x => inR lo x hi) = true) {k : Nat} (hk : k < xs.length) : lo ≤ rd xs k ∧ rd xs k ≤ hi := by
  rw [List.all_eq_true] at h
  have := h _ (List.getElem_mem hk)
  rw [rd_get hk]
  exact inR_iff.1 this
theorem cont_bd {xs : List Int} (h : (xs.all fun x => inR (-1000000) x 1000000) = true) (k : Nat) : k ≤ xs.length → -1000000 ≤ cont xs k ∧ cont xs k ≤ 1000000 := by
  induction k with
  | zero => intro _; rw [cont_zero]; omega
  | succ k ih =>
    intro hk
    rw [cont_succ (by omega)]
    have := gcdI_bd (ih (by omega)) (allR h (show k < xs.length by omega))
    omega
theorem isWholeB_all {r c : Int} {xs : List Int} {most : Int} (h : isWholeB r c xs most = true) : (1 ≤ r ∧ r ≤ 6) ∧ (1 ≤ c ∧ c ≤ 6) ∧ (xs.length : Int) = r * c ∧ (xs.all fun x => inR (-most) x most) = true := by
  unfold isWholeB at h
  simp only [Bool.and_eq_true, decide_eq_true_eq] at h
  exact ⟨inR_iff.1 h.1.1.1, inR_iff.1 h.1.1.2, h.1.2, h.2⟩

/-- What ContentOf answers. -/
def contentD (r c : Int) (xs : List Int) : Int × Bool := if isWholeB r c xs 1000000 then (cont xs xs.length, true) else (0, false)

theorem ret_tup2 {a b : Int} {p q : Bool} (h : a = b) (g : p = q) : Ending.returned (.tuple #[.int .i64 a, .bool p]) = .returned (.tuple #[.int .i64 b, .bool q]) := by rw [h, g]

set_option maxHeartbeats 2000000 in
theorem specContentOf_any (r c : Int) (A : Option Addr) (n cap : Nat) (xs : List Int) (w : World) (hr : Rds w A n (ints xs)) :
    Calls Try.prog 35 #[.agg #[.int .i64 r, .int .i64 c, .slice A n cap]] w fun e w' => e = .returned (.tuple #[.int .i64 (contentD r c xs).1, .bool (contentD r c xs).2]) ∧ Ext w w' := by
  have hl := hr.ilen
  have hs := hr.small
  cases hv : isWholeB r c xs 1000000 with
  | false =>
    have e0 : contentD r c xs = (0, false) := by simp [contentD, hv]
    rw [e0]
    clear e0
    go_enter Try.func35, Try.ntmps35
    go_wp2_with fail
    refine (l06Is_any _ r c _ A n cap xs _ (by simp) (by simp) (by simp) (hr.below ((Ext.refl _).alloc _)) (by omega)).mono ?_
    rintro e w1 ⟨rfl, hx⟩
    rw [hv]
    go_wp2_with fail
    go_ret2
    exact ⟨rfl, ((Ext.refl _).alloc _).trans hx⟩
  | true =>
    have hall := (isWholeB_all hv).2.2.2
    obtain ⟨res, hres⟩ : ∃ res, res = contentD r c xs := ⟨_, rfl⟩
    rw [← hres]
    have e0 : res = (cont xs xs.length, true) := by simp [hres, contentD, hv]
    have E0 := Lib.hid e0
    clear hres e0
    go_enter Try.func35, Try.ntmps35
    go_wp2_with fail
    have hx0 : Ext w (w.alloc (.cells #[.int .i64 r, .int .i64 c, .slice A n cap] 31)) := (Ext.refl _).alloc _
    refine (l06Is_any _ r c _ A n cap xs _ (by simp) (by simp) (by simp) (hr.below hx0) (by omega)).mono ?_
    rintro e w1 ⟨rfl, hx⟩
    rw [hv]
    have hc2 : w1.cell? ⟨w.heap.size, 2, none⟩ = some (.slice A n cap) := hx.cell (by simp)
    replace hx0 := hx0.trans hx
    clear hx
    go_wp2_with fail
    go_loopw [4, 5] (fun u v wr => ∃ k : Nat, k ≤ n ∧ u = .int .i64 (cont xs k) ∧ v = .int .i64 k ∧ Ext w1 wr) (fun _ v _ => n - (intOf v).toNat)
    case atStart => exact ⟨0, Nat.zero_le _, by rw [cont_zero], rfl, Ext.refl _⟩
    case round =>
      obtain ⟨k, hk, rfl, rfl, hx⟩ := hrel
      have hc2' := hx.cell hc2
      by_cases hlt : k < n
      · obtain ⟨ad, rfl, hc⟩ := (hr.below (hx0.trans hx)).intN k hlt
        have hcs := cont_succ (xs := xs) (k := k) (by omega)
        have b1 := cont_bd hall k (by omega)
        have b2 := allR hall (show k < xs.length by omega)
        obtain ⟨cur, hcur⟩ : ∃ cur, cur = cont xs k := ⟨_, rfl⟩
        rw [← hcur] at hcs b1 ⊢
        obtain ⟨nx, hnx⟩ : ∃ nx, nx = rd xs k := ⟨_, rfl⟩
        rw [← hnx] at hcs b2 hc
        have HS := Lib.hid hcs
        clear hcs hcur hnx
        go_wp2_with fail
        refine (l06Gcd_any _ _ b1 b2 _).mono ?_
        rintro e w2 ⟨rfl, hx2⟩
        go_wp2_with fail
        go_roundw
        case rel => exact ⟨k + 1, by omega, by rw [HS.out], by go_num, hx.trans hx2⟩
        case measure => simp [intOf]; omega
      · have : k = n := by omega
        subst this
        go_wp2_with fail
        go_ret2
        refine ⟨?_, hx0.trans hx⟩
        rw [E0.out, hl]
        rfl

set_option maxHeartbeats 2000000 in
theorem implContentOf_any (r c : Int) (A : Option Addr) (n cap : Nat) (xs : List Int) (w : World) (hr : Rds w A n (ints xs)) :
    Calls Try.prog 36 #[.agg #[.int .i64 r, .int .i64 c, .slice A n cap]] w fun e w' => e = .returned (.tuple #[.int .i64 (contentD r c xs).1, .bool (contentD r c xs).2]) ∧ Ext w w' := by
  have hl := hr.ilen
  have hs := hr.small
  cases hv : isWholeB r c xs 1000000 with
  | false =>
    have e0 : contentD r c xs = (0, false) := by simp [contentD, hv]
    rw [e0]
    clear e0
    go_enter Try.func36, Try.ntmps36
    go_wp2_with fail
    refine (implValidWhole_any r c A n cap xs _ (hr.below ((Ext.refl _).alloc _))).mono ?_
    rintro e w1 ⟨rfl, hx⟩
    rw [hv]
    go_wp2_with fail
    go_ret2
    exact ⟨rfl, ((Ext.refl _).alloc _).trans hx⟩
  | true =>
    have hall := (isWholeB_all hv).2.2.2
    obtain ⟨res, hres⟩ : ∃ res, res = contentD r c xs := ⟨_, rfl⟩
    rw [← hres]
    have e0 : res = (cont xs xs.length, true) := by simp [hres, contentD, hv]
    have E0 := Lib.hid e0
    clear hres e0
    go_enter Try.func36, Try.ntmps36
    go_wp2_with fail
    have hx0 : Ext w (w.alloc (.cells #[.int .i64 r, .int .i64 c, .slice A n cap] 31)) := (Ext.refl _).alloc _
    refine (implValidWhole_any r c A n cap xs _ (hr.below hx0)).mono ?_
    rintro e w1 ⟨rfl, hx⟩
    rw [hv]
    have hc2 : w1.cell? ⟨w.heap.size, 2, none⟩ = some (.slice A n cap) := hx.cell (by simp)
    replace hx0 := hx0.trans hx
    clear hx
    go_wp2_with fail
    go_loopw [4, 13] (fun u v wr => ∃ k : Nat, k ≤ n ∧ u = .int .i64 (cont xs k) ∧ v = .int .i64 k ∧ Ext w1 wr) (fun _ v _ => n - (intOf v).toNat)
    case atStart => exact ⟨0, Nat.zero_le _, by rw [cont_zero], rfl, Ext.refl _⟩
    case round =>
      obtain ⟨k, hk, rfl, rfl, hx⟩ := hrel
      have hc2' := hx.cell hc2
      by_cases hlt : k < n
      · obtain ⟨ad, rfl, hc⟩ := (hr.below (hx0.trans hx)).intN k hlt
        have hcs := cont_succ (xs := xs) (k := k) (by omega)
        have b1 := cont_bd hall k (by omega)
        have b2 := allR hall (show k < xs.length by omega)
        obtain ⟨cur, hcur⟩ : ∃ cur, cur = cont xs k := ⟨_, rfl⟩
        rw [← hcur] at hcs b1 ⊢
        obtain ⟨nx, hnx⟩ : ∃ nx, nx = rd xs k := ⟨_, rfl⟩
        rw [← hnx] at hcs b2 hc
        have HS := Lib.hid hcs
        clear hcs hcur hnx
        go_wp2_with fail
        refine (gcd_any _ _ b1 b2 _).mono ?_
        rintro e w2 ⟨rfl, hx2⟩
        go_wp2_with fail
        go_roundw
        case rel => exact ⟨k + 1, by omega, by rw [HS.out], by go_num, hx.trans hx2⟩
        case measure => simp [intOf]; omega
      · have : k = n := by omega
        subst this
        go_wp2_with fail
        go_ret2
        refine ⟨?_, hx0.trans hx⟩
        rw [E0.out, hl]
        rfl

end Go.Proofs.Ytcfimkjkolgboaa
