import Derived.Test.YtgjfdfmbknmpaaaM12
set_option linter.unusedVariables false
set_option linter.unusedSimpArgs false
namespace Go.Proofs.Ytgjfdfmbknmpaaa
open Go.RowKit

/-- Whether a part lies in a matrix. -/
def inPart (r c row col rs cs : Int) : Bool := inR 1 rs 12 && inR 1 cs 12 && inR 0 row (r - rs) && inR 0 col (c - cs)
theorem wrap_sub {r rs : Int} (h : inR 1 r 12 = true) (h' : inR 1 rs 12 = true) : IntKind.i64.wrap (r - rs) = r - rs := by
  have := inR_iff.1 h
  have := inR_iff.1 h'
  exact IntWalk.i64_in _ (by omega)

set_option maxRecDepth 20000 in
set_option maxHeartbeats 2000000 in
theorem liesIn_any (r c row col rs cs : Int) (A : Option Addr) (n cap : Nat) (w : World) (hr : inR 1 r 12 = true) (hc : inR 1 c 12 = true) :
    Calls Try.prog 138 #[.agg #[.int .i64 r, .int .i64 c, .slice A n cap], .int .i64 row, .int .i64 col, .int .i64 rs, .int .i64 cs] w fun e w' => e = .returned (.bool (inPart r c row col rs cs)) ∧ Ext w w' := by
  obtain ⟨res, hres⟩ : ∃ res, res = inPart r c row col rs cs := ⟨_, rfl⟩
  rw [← hres]
  have Hres : Hid (res = (inR 1 rs 12 && inR 1 cs 12 && inR 0 row (r - rs) && inR 0 col (c - cs))) := hres
  clear hres
  have hx0 : Ext w (w.alloc (.cells #[.int .i64 r, .int .i64 c, .slice A n cap] 35)) := (Ext.refl _).alloc _
  cases h1 : inR 1 rs 12 with
  | false =>
    go_enter Try.func138, Try.ntmps138
    go_wp2_with fail
    refine (isSide_any _ _).mono ?_
    rintro e w1 ⟨rfl, rfl⟩
    rw [h1]
    go_wp2_with fail
    go_ret
    exact ⟨ret_bool (by rw [Hres.out, h1]; rfl), hx0⟩
  | true =>
    have hw1 := wrap_sub hr h1
    cases h2 : inR 1 cs 12 with
    | false =>
      go_enter Try.func138, Try.ntmps138
      go_wp2_with fail
      refine (isSide_any _ _).mono ?_
      rintro e w1 ⟨rfl, rfl⟩
      rw [h1]
      go_wp2_with fail
      refine (isSide_any _ _).mono ?_
      rintro e w1 ⟨rfl, rfl⟩
      rw [h2]
      go_wp2_with fail
      go_ret
      exact ⟨ret_bool (by rw [Hres.out, h1, h2]; rfl), hx0⟩
    | true =>
      have hw2 := wrap_sub hc h2
      cases h3 : inR 0 row (r - rs) with
      | false =>
        go_enter Try.func138, Try.ntmps138
        go_wp2_with fail
        refine (isSide_any _ _).mono ?_
        rintro e w1 ⟨rfl, rfl⟩
        rw [h1]
        go_wp2_with fail
        refine (isSide_any _ _).mono ?_
        rintro e w1 ⟨rfl, rfl⟩
        rw [h2]
        go_wp2_with fail
        refine (inRange_any _ _ _ _).mono ?_
        rintro e w1 ⟨rfl, rfl⟩
        rw [h3]
        go_wp2_with fail
        go_ret
        exact ⟨ret_bool (by rw [Hres.out, h1, h2, h3]; rfl), hx0⟩
      | true =>
        go_enter Try.func138, Try.ntmps138
        go_wp2_with fail
        refine (isSide_any _ _).mono ?_
        rintro e w1 ⟨rfl, rfl⟩
        rw [h1]
        go_wp2_with fail
        refine (isSide_any _ _).mono ?_
        rintro e w1 ⟨rfl, rfl⟩
        rw [h2]
        go_wp2_with fail
        refine (inRange_any _ _ _ _).mono ?_
        rintro e w1 ⟨rfl, rfl⟩
        rw [h3]
        go_wp2_with fail
        refine (inRange_any _ _ _ _).mono ?_
        rintro e w1 ⟨rfl, rfl⟩
        go_wp2_with fail
        go_ret
        exact ⟨ret_bool (by rw [Hres.out, h1, h2, h3]; rfl), hx0⟩

set_option maxRecDepth 20000 in
set_option maxHeartbeats 2000000 in
theorem l02In_any (b : Nat) (r c row col rs cs : Int) (w : World) (c0 : w.cell? ⟨b, 0, none⟩ = some (.int .i64 r)) (c1 : w.cell? ⟨b, 1, none⟩ = some (.int .i64 c)) (hr : inR 1 r 12 = true) (hc : inR 1 c 12 = true) :
    Calls Try.prog 136 #[.pointer (some ⟨b, 0, none⟩), .int .i64 row, .int .i64 col, .int .i64 rs, .int .i64 cs] w fun e w' => e = .returned (.bool (inPart r c row col rs cs)) ∧ Ext w w' := by
  obtain ⟨res, hres⟩ : ∃ res, res = inPart r c row col rs cs := ⟨_, rfl⟩
  rw [← hres]
  have Hres : Hid (res = (inR 1 rs 12 && inR 1 cs 12 && inR 0 row (r - rs) && inR 0 col (c - cs))) := hres
  clear hres
  cases h0 : (inR 1 rs 12 && inR 1 cs 12) with
  | false =>
    go_enter Try.func136, Try.ntmps136
    go_wp2_with fail
    refine (l02Sides_any _ _ _).mono ?_
    rintro e w1 ⟨rfl, rfl⟩
    rw [h0]
    go_wp2_with fail
    go_ret
    exact ⟨ret_bool (by rw [Hres.out, h0]; rfl), Ext.refl _⟩
  | true =>
    have h0' := h0
    rw [Bool.and_eq_true] at h0'
    have hw1 := wrap_sub hr h0'.1
    have hw2 := wrap_sub hc h0'.2
    clear h0'
    cases h3 : inR 0 row (r - rs) with
    | false =>
      go_enter Try.func136, Try.ntmps136
      go_wp2_with fail
      refine (l02Sides_any _ _ _).mono ?_
      rintro e w1 ⟨rfl, rfl⟩
      rw [h0]
      go_wp2_with fail
      refine (l00In_any _ _ _ _).mono ?_
      rintro e w1 ⟨rfl, rfl⟩
      rw [h3]
      go_wp2_with fail
      go_ret
      exact ⟨ret_bool (by rw [Hres.out, h0, h3]; rfl), Ext.refl _⟩
    | true =>
      go_enter Try.func136, Try.ntmps136
      go_wp2_with fail
      refine (l02Sides_any _ _ _).mono ?_
      rintro e w1 ⟨rfl, rfl⟩
      rw [h0]
      go_wp2_with fail
      refine (l00In_any _ _ _ _).mono ?_
      rintro e w1 ⟨rfl, rfl⟩
      rw [h3]
      go_wp2_with fail
      refine (l00In_any _ _ _ _).mono ?_
      rintro e w1 ⟨rfl, rfl⟩
      go_wp2_with fail
      go_ret
      exact ⟨ret_bool (by rw [Hres.out, h0, h3]; rfl), Ext.refl _⟩

theorem part_nat {R C : Nat} {row col rs cs : Int} (h : inPart R C row col rs cs = true) : ∃ P Q S T : Nat, row = P ∧ col = Q ∧ rs = S ∧ cs = T ∧ 1 ≤ S ∧ S ≤ 12 ∧ 1 ≤ T ∧ T ≤ 12 ∧ P + S ≤ R ∧ Q + T ≤ C := by
  unfold inPart at h
  simp only [Bool.and_eq_true] at h
  obtain ⟨⟨⟨h1, h2⟩, h3⟩, h4⟩ := h
  have h1 := inR_iff.1 h1
  have h2 := inR_iff.1 h2
  have h3 := inR_iff.1 h3
  have h4 := inR_iff.1 h4
  exact ⟨row.toNat, col.toNat, rs.toNat, cs.toNat, by omega, by omega, by omega, by omega, by omega, by omega, by omega, by omega, by omega, by omega⟩
def partF (xs : List Nat) (C P Q : Nat) (i k : Nat) : Option Nat := c32 (at_ xs C (P + i) (Q + k))
def partD (r c row col rs cs : Int) (xs : List Nat) : MD := if isMat r c xs && inPart r c row col rs cs then ⟨rs, cs, wordsL (tab cs.toNat (partF xs c.toNat row.toNat col.toNat) (rs.toNat * cs.toNat)), true⟩ else MD.bad

set_option maxRecDepth 20000 in
set_option maxHeartbeats 1000000 in
theorem part1_any (b bp bq R C P Q i k n cap : Nat) (A : Option Addr) (xs : List Nat) (w : World) (hi : P + i < R) (hk : Q + k < C) (hR : R ≤ 12) (hC : C ≤ 12) (hn : n = R * C) (ha : MAt w b R C A n cap xs) (hp : w.cell? ⟨bp, 0, none⟩ = some (.int .i64 P)) (hq : w.cell? ⟨bq, 0, none⟩ = some (.int .i64 Q)) :
    Calls Try.prog 139 #[.int .i64 i, .int .i64 k, .pointer (some ⟨b, 0, none⟩), .pointer (some ⟨bp, 0, none⟩), .pointer (some ⟨bq, 0, none⟩)] w (RetF w (partF xs C P Q i k)) := by
  obtain ⟨c0, c1, c2, hr⟩ := ha
  have Hn := Lib.hid hn
  clear hn
  have e1 : IntKind.i64.wrap ((P : Int) + i) = ((P + i : Nat) : Int) := by rw [IntWalk.i64_in _ (by omega)]; rfl
  have e2 : IntKind.i64.wrap ((Q : Int) + k) = ((Q + k : Nat) : Int) := by rw [IntWalk.i64_in _ (by omega)]; rfl
  obtain ⟨p, hpp⟩ : ∃ p, p = P + i := ⟨_, rfl⟩
  obtain ⟨q, hqq⟩ : ∃ q, q = Q + k := ⟨_, rfl⟩
  unfold partF
  rw [← hpp] at e1 hi ⊢
  rw [← hqq] at e2 hk ⊢
  clear hpp hqq
  go_enter Try.func139, Try.ntmps139
  go_wp2_with fail
  refine (at_any R C p q n cap A xs w hi hk hR hC Hn.out hr).mono ?_
  rintro e w1 ⟨rfl, hx⟩
  go_wp2_with fail
  go_ret
  exact ⟨_, rfl, rfl, hx⟩

end Go.Proofs.Ytgjfdfmbknmpaaa
