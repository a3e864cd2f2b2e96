import Derived.Test.YtgjfdfmbknmpaaaM9
set_option linter.unusedVariables false
set_option linter.unusedSimpArgs false
namespace Go.Proofs.Ytgjfdfmbknmpaaa
open Go.RowKit

/-- The number with the other sign; the matrix of a polynomial. -/
def negW (x : Nat) : Nat := Op.negFloat .f32 x
theorem fin_mod (x : Nat) : isFin .f32 x = decide (x % 2147483648 < 2139095040) := by
  have e1 : FloatKind.f32.format.signWeight = 2147483648 := rfl
  have e2 : FloatKind.f32.format.infRung = 2139095040 := rfl
  have e3 : FloatKind.f32.format.binade = 8388608 := rfl
  unfold isFin Ieee.Format.read
  simp only [e1, e2, e3]
  by_cases h1 : x % 2147483648 < 8388608
  · rw [if_pos h1, decide_eq_true (by omega)]
  · rw [if_neg h1]
    by_cases h2 : x % 2147483648 < 2139095040
    · rw [if_pos h2, decide_eq_true h2]
    · rw [if_neg h2, decide_eq_false h2]
      by_cases h3 : x % 2147483648 = 2139095040
      · rw [if_pos h3]
      · rw [if_neg h3]
theorem neg_fin (x : Nat) : isFin .f32 (negW x) = isFin .f32 x := by
  rw [fin_mod, fin_mod]
  have : negW x % 2147483648 = x % 2147483648 := by
    show (x ^^^ 2 ^ 31) % 2 ^ 31 = x % 2 ^ 31
    rw [Nat.xor_mod_two_pow, Nat.mod_self, Nat.xor_zero]
  rw [this]
theorem run_neg (P : Program) (x : Nat) (w : World) : (Op.unary .neg (.float .f32 x)).run P w = .ok (.float .f32 (negW x)) w := rfl
def comF (vs : List Nat) (i k : Nat) : Option Nat := if i = 0 then c32 (negW (rdf vs k)) else if i = k + 1 then some 1065353216 else some 0
def comL (vs : List Nat) (n : Nat) : List (Option Nat) := tab n (comF vs) (n * n)
def comB (vs : List Nat) : Bool := inR 1 vs.length 12 && finL vs
def comD (vs : List Nat) : MD := if comB vs then ⟨vs.length, vs.length, wordsL (comL vs vs.length), true⟩ else MD.bad
theorem c32_1 : c32 1065353216 = some 1065353216 := by decide
theorem comF_0 {vs : List Nat} {i k : Nat} (h : i = 0) : comF vs i k = c32 (negW (rdf vs k)) := by unfold comF; rw [if_pos h]
theorem comF_1 {vs : List Nat} {i k : Nat} (h : i ≠ 0) (h1 : i = k + 1) : comF vs i k = some 1065353216 := by unfold comF; rw [if_neg h, if_pos h1]
theorem comF_far {vs : List Nat} {i k : Nat} (h : i ≠ 0) (h1 : i ≠ k + 1) : comF vs i k = some 0 := by unfold comF; rw [if_neg h, if_neg h1]
theorem ex_com (vs : List Nat) (i k : Nat) : ∃ r, c32 r = comF vs i k := by
  unfold comF
  split
  · exact ⟨_, rfl⟩
  · split
    · exact ⟨_, c32_1⟩
    · exact ⟨0, c32_0⟩
theorem com_all {vs : List Nat} {n : Nat} (hc : comB vs = true) (hn : vs.length = n) : (comL vs n).all finO = true := by
  unfold comB at hc
  rw [Bool.and_eq_true] at hc
  refine tab_all (fun a b ha hb => ?_)
  unfold comF
  split
  · exact finO_c32 (by rw [neg_fin]; exact fin_rdf hc.2 (by omega) (by omega))
  · split <;> decide
theorem com_len (vs : List Nat) (n : Nat) : (wordsL (comL vs n)).length = n * n := by unfold wordsL comL; rw [List.length_map, tab_length]
theorem coD_bad {vs : List Nat} (h : comB vs = false) : comD vs = MD.bad := by simp [comD, h]
theorem coD_good {vs : List Nat} {n : Nat} (h : comB vs = true) (hn : vs.length = n) : comD vs = ⟨n, n, wordsL (comL vs n), true⟩ := by simp [comD, h, hn]

set_option maxRecDepth 20000 in
set_option maxHeartbeats 4000000 in
theorem com1_any (b i k n cap : Nat) (A : Option Addr) (vs : List Nat) (w : World) (hi : i < n) (hk : k < n) (hn : n ≤ 12) (c0 : w.cell? ⟨b, 0, none⟩ = some (.slice A n cap)) (hr : Rds w A n (flts vs)) :
    Calls Try.prog 115 #[.int .i64 i, .int .i64 k, .pointer (some ⟨b, 0, none⟩)] w (RetF w (comF vs i k)) := by
  have g1 : IntKind.i64.wrap ((k : Int) + 1) = (k : Int) + 1 := IntWalk.i64_in _ (by omega)
  have hng := run_neg Try.prog
  by_cases h1 : i = 0
  · have HF := Lib.hid (comF_0 (vs := vs) (k := k) h1)
    have h1' : ((i : Int) == 0) = true := by simp [h1]
    obtain ⟨ad, rfl, hca⟩ := hr.fltN k hk
    clear h1
    go_enter Try.func115, Try.ntmps115
    go_upto_region 1 with (fail)
    go_wp2_with fail
    go_ret
    exact ⟨_, rfl, HF.out.symm, Ext.refl _⟩
  · have h1' : ((i : Int) == 0) = false := by simp; omega
    by_cases h2 : i = k + 1
    · have HF := Lib.hid (comF_1 (vs := vs) h1 h2)
      have h2' : ((i : Int) == (k : Int) + 1) = true := by simp; omega
      clear h1 h2
      go_enter Try.func115, Try.ntmps115
      go_upto_region 1 with (fail)
      go_wp2_with fail
      go_ret
      exact ⟨_, rfl, by rw [HF.out]; exact c32_1, Ext.refl _⟩
    · have HF := Lib.hid (comF_far (vs := vs) h1 h2)
      have h2' : ((i : Int) == (k : Int) + 1) = false := by simp; omega
      clear h1 h2
      go_enter Try.func115, Try.ntmps115
      go_upto_region 1 with (fail)
      go_wp2_with fail
      go_ret
      exact ⟨_, rfl, by rw [HF.out]; exact c32_0, Ext.refl _⟩

set_option maxRecDepth 20000 in
set_option maxHeartbeats 4000000 in
theorem implCompanionMatrix_any (A : Option Addr) (n cap : Nat) (vs : List Nat) (w : World) (hr : Rds w A n (flts vs)) :
    Calls Try.prog 45 #[.slice A n cap] w (RetMD w (comD vs)) := by
  have HL := Lib.hid hr.flen
  have hs1 := hr.small
  cases hv : inR 1 n 12 with
  | false =>
    have hd := coD_bad (vs := vs) (by unfold comB; rw [HL.out, hv]; rfl)
    go_enter Try.func45, Try.ntmps45
    go_upto_region 1 with (fail)
    obtain ⟨w0, hw0⟩ : ∃ w0, w0 = ((w.alloc (.cells #[.slice A n cap] 22)).alloc (.cells #[.int .i64 0, .int .i64 0, .slice none 0 0] 35)) := ⟨_, rfl⟩
    have hx0 : Ext w w0 := by subst hw0; exact ((Ext.refl _).alloc _).alloc _
    have ba : Blk w0 (w.heap.size) #[.slice A n cap] 22 := by subst hw0; exact (Blk.new w _ _).ext ((Ext.refl _).alloc _)
    have b0 : Blk w0 (w.heap.size + 1) #[.int .i64 0, .int .i64 0, .slice none 0 0] 35 := by subst hw0; simpa using (Blk.new (w.alloc (.cells #[.slice A n cap] 22)) _ _)
    rw [← hw0]
    clear hw0
    have a0 := ba.cell 0 rfl
    go_wp2_with fail
    refine (lengthF_any A n cap hs1 _).mono ?_
    rintro e w2 ⟨rfl, rfl⟩
    go_wp2_with fail
    refine (isSide_any _ _).mono ?_
    rintro e w2 ⟨rfl, rfl⟩
    rw [hv]
    clear a0
    have y0 : w0.cell? ⟨w.heap.size + 1, 0, none⟩ = some (.int .i64 0) := b0.cell 0 rfl
    have y1 : w0.cell? ⟨w.heap.size + 1, 1, none⟩ = some (.int .i64 0) := b0.cell 1 rfl
    have y2 : w0.cell? ⟨w.heap.size + 1, 2, none⟩ = some (.slice none 0 0) := b0.cell 2 rfl
    have q0 := b0.free 0
    have q1 := b0.free 1
    have q2 := b0.free 2
    have hq := b0.lt
    go_wp2_with fail
    obtain ⟨k1, k2, k3⟩ := Own.resM (w := w) (u := .int .i64 0) (v := .int .i64 0) (x := .slice none 0 0) b0 (own_nil _ w.heap.size _) hx0 (by omega)
    exact bodyPost_ret (resMB (x := .bool false) rfl rfl rfl k3) rfl (RetMD.bad hd k2)
  | true =>
    have hn12 : n ≤ 12 := by have := inR_iff.1 hv; omega
    cases hf : finL vs with
    | false =>
      have hd := coD_bad (vs := vs) (by unfold comB; rw [HL.out, hv, hf]; rfl)
      go_enter Try.func45, Try.ntmps45
      go_upto_region 1 with (fail)
      obtain ⟨w0, hw0⟩ : ∃ w0, w0 = ((w.alloc (.cells #[.slice A n cap] 22)).alloc (.cells #[.int .i64 0, .int .i64 0, .slice none 0 0] 35)) := ⟨_, rfl⟩
      have hx0 : Ext w w0 := by subst hw0; exact ((Ext.refl _).alloc _).alloc _
      have ba : Blk w0 (w.heap.size) #[.slice A n cap] 22 := by subst hw0; exact (Blk.new w _ _).ext ((Ext.refl _).alloc _)
      have b0 : Blk w0 (w.heap.size + 1) #[.int .i64 0, .int .i64 0, .slice none 0 0] 35 := by subst hw0; simpa using (Blk.new (w.alloc (.cells #[.slice A n cap] 22)) _ _)
      rw [← hw0]
      clear hw0
      have a0 := ba.cell 0 rfl
      go_wp2_with fail
      refine (lengthF_any A n cap hs1 _).mono ?_
      rintro e w2 ⟨rfl, rfl⟩
      go_wp2_with fail
      refine (isSide_any _ _).mono ?_
      rintro e w2 ⟨rfl, rfl⟩
      rw [hv]
      go_wp2_with fail
      refine (areFinite_any A n cap vs _ (hr.below hx0)).mono ?_
      rintro e w2 ⟨rfl, hx⟩
      rw [hf]
      replace b0 := b0.ext hx
      replace hx0 := hx0.trans hx
      clear a0 hx
      have y0 : w2.cell? ⟨w.heap.size + 1, 0, none⟩ = some (.int .i64 0) := b0.cell 0 rfl
      have y1 : w2.cell? ⟨w.heap.size + 1, 1, none⟩ = some (.int .i64 0) := b0.cell 1 rfl
      have y2 : w2.cell? ⟨w.heap.size + 1, 2, none⟩ = some (.slice none 0 0) := b0.cell 2 rfl
      have q0 := b0.free 0
      have q1 := b0.free 1
      have q2 := b0.free 2
      have hq := b0.lt
      go_wp2_with fail
      obtain ⟨k1, k2, k3⟩ := Own.resM (w := w) (u := .int .i64 0) (v := .int .i64 0) (x := .slice none 0 0) b0 (own_nil _ w.heap.size _) hx0 (by omega)
      exact bodyPost_ret (resMB (x := .bool false) rfl rfl rfl k3) rfl (RetMD.bad hd k2)
    | true =>
      have hb : comB vs = true := by unfold comB; rw [HL.out, hv, hf]; rfl
      have Hd := Lib.hid (coD_good hb HL.out)
      have Hall := Lib.hid (com_all hb HL.out)
      have Hl := Lib.hid (com_len vs n)
      clear hb
      go_enter Try.func45, Try.ntmps45
      go_upto_region 1 with (fail)
      obtain ⟨w0, hw0⟩ : ∃ w0, w0 = ((w.alloc (.cells #[.slice A n cap] 22)).alloc (.cells #[.int .i64 0, .int .i64 0, .slice none 0 0] 35)) := ⟨_, rfl⟩
      have hx0 : Ext w w0 := by subst hw0; exact ((Ext.refl _).alloc _).alloc _
      have ba : Blk w0 (w.heap.size) #[.slice A n cap] 22 := by subst hw0; exact (Blk.new w _ _).ext ((Ext.refl _).alloc _)
      have b0 : Blk w0 (w.heap.size + 1) #[.int .i64 0, .int .i64 0, .slice none 0 0] 35 := by subst hw0; simpa using (Blk.new (w.alloc (.cells #[.slice A n cap] 22)) _ _)
      rw [← hw0]
      clear hw0
      have a0 := ba.cell 0 rfl
      go_wp2_with fail
      refine (lengthF_any A n cap hs1 _).mono ?_
      rintro e w2 ⟨rfl, rfl⟩
      go_wp2_with fail
      refine (isSide_any _ _).mono ?_
      rintro e w2 ⟨rfl, rfl⟩
      rw [hv]
      go_wp2_with fail
      refine (areFinite_any A n cap vs _ (hr.below hx0)).mono ?_
      rintro e w2 ⟨rfl, hx⟩
      rw [hf]
      replace b0 := b0.ext hx
      replace ba := ba.ext hx
      replace hx0 := hx0.trans hx
      clear a0 hx
      have a0 := ba.cell 0 rfl
      go_wp2_with fail
      refine (made_any 115 _ (enters_of Try.func115 (by kernel_rfl) rfl) n n hn12 hn12 (comF vs) _ (fun i k W hi hk hW => ?_) (fun i k _ _ => ex_com vs i k)).mono ?_
      · exact com1_any _ i k n cap A vs W hi hk hn12 (hW.cell a0) ((hr.below hx0).below hW)
      rintro e w3 ⟨A', c', zs, hz, rfl, ho, hx⟩
      obtain rfl := cfs_all (L := comL vs n) hz Hall.out
      replace b0 := b0.ext hx
      clear a0
      have y0 : w3.cell? ⟨w.heap.size + 1, 0, none⟩ = some (.int .i64 0) := b0.cell 0 rfl
      have y1 : w3.cell? ⟨w.heap.size + 1, 1, none⟩ = some (.int .i64 0) := b0.cell 1 rfl
      have y2 : w3.cell? ⟨w.heap.size + 1, 2, none⟩ = some (.slice none 0 0) := b0.cell 2 rfl
      have q0 := b0.free 0
      have q1 := b0.free 1
      have q2 := b0.free 2
      have hq := b0.lt
      go_wp2_with fail
      obtain ⟨k1, k2, k3⟩ := Own.resM (w := w) (u := .int .i64 n) (v := .int .i64 n) (x := .slice A' (n * n) c') b0 (ho.base hx0.size) (hx0.trans hx) (by omega)
      refine bodyPost_ret (resMB rfl rfl rfl k3) rfl ?_
      rw [Hd.out]
      exact ⟨A', c', by rw [Hl.out]; rfl, by rw [Hl.out]; exact k1, k2⟩

/-- What is done of it. -/
def comT (vs : List Nat) (P : Nat → Nat → Prop) [∀ a b, Decidable (P a b)] (a b : Nat) : Option Nat := if P a b then comF vs a b else some 0
theorem comT_eq {vs : List Nat} {P Q : Nat → Nat → Prop} [∀ a b, Decidable (P a b)] [∀ a b, Decidable (Q a b)] {a b : Nat} (h : (P a b ↔ Q a b) ∨ (a ≠ 0 ∧ a ≠ b + 1)) : comT vs P a b = comT vs Q a b := by
  unfold comT
  rcases h with h | ⟨h1, h2⟩
  · by_cases hp : P a b
    · rw [if_pos hp, if_pos (h.1 hp)]
    · rw [if_neg hp, if_neg (fun hq => hp (h.2 hq))]
  · rw [comF_far h1 h2]
    split <;> split <;> rfl
theorem comT_on {vs : List Nat} {P : Nat → Nat → Prop} [∀ a b, Decidable (P a b)] {a b : Nat} (h : P a b) : comT vs P a b = comF vs a b := if_pos h

set_option maxRecDepth 20000 in
set_option maxHeartbeats 8000000 in
theorem specCompanionMatrix_any (A : Option Addr) (n cap : Nat) (vs : List Nat) (w : World) (hr : Rds w A n (flts vs)) :
    Calls Try.prog 43 #[.slice A n cap] w (RetMD w (comD vs)) := by
  have HL := Lib.hid hr.flen
  have hs1 := hr.small
  cases hv : inR 1 n 12 with
  | false =>
    have hd := coD_bad (vs := vs) (by unfold comB; rw [HL.out, hv]; rfl)
    go_enter Try.func43, Try.ntmps43
    go_upto_region 1 with (fail)
    obtain ⟨w0, hw0⟩ : ∃ w0, w0 = (w.alloc (.cells #[.int .i64 0, .int .i64 0, .slice none 0 0] 35)) := ⟨_, rfl⟩
    have hx0 : Ext w w0 := by subst hw0; exact (Ext.refl _).alloc _
    have b0 : Blk w0 (w.heap.size) #[.int .i64 0, .int .i64 0, .slice none 0 0] 35 := by subst hw0; exact (Blk.new w _ _)
    rw [← hw0]
    clear hw0
    go_wp2_with fail
    refine (l00In_any _ _ _ _).mono ?_
    rintro e w2 ⟨rfl, rfl⟩
    rw [hv]
    have y0 : w0.cell? ⟨w.heap.size, 0, none⟩ = some (.int .i64 0) := b0.cell 0 rfl
    have y1 : w0.cell? ⟨w.heap.size, 1, none⟩ = some (.int .i64 0) := b0.cell 1 rfl
    have y2 : w0.cell? ⟨w.heap.size, 2, none⟩ = some (.slice none 0 0) := b0.cell 2 rfl
    have q0 := b0.free 0
    have q1 := b0.free 1
    have q2 := b0.free 2
    have hq := b0.lt
    go_wp2_with fail
    obtain ⟨k1, k2, k3⟩ := Own.resM (w := w) (u := .int .i64 0) (v := .int .i64 0) (x := .slice none 0 0) b0 (own_nil _ w.heap.size _) hx0 (by omega)
    exact bodyPost_ret (resMB (x := .bool false) rfl rfl rfl k3) rfl (RetMD.bad hd k2)
  | true =>
    obtain ⟨hn1, hn12⟩ := inR_iff.1 hv
    replace hn1 : 1 ≤ n := by omega
    replace hn12 : n ≤ 12 := by omega
    cases hf : finL vs with
    | false =>
      have hd := coD_bad (vs := vs) (by unfold comB; rw [HL.out, hv, hf]; rfl)
      go_enter Try.func43, Try.ntmps43
      go_upto_region 1 with (fail)
      obtain ⟨w0, hw0⟩ : ∃ w0, w0 = (w.alloc (.cells #[.int .i64 0, .int .i64 0, .slice none 0 0] 35)) := ⟨_, rfl⟩
      have hx0 : Ext w w0 := by subst hw0; exact (Ext.refl _).alloc _
      have b0 : Blk w0 (w.heap.size) #[.int .i64 0, .int .i64 0, .slice none 0 0] 35 := by subst hw0; exact (Blk.new w _ _)
      rw [← hw0]
      clear hw0
      go_wp2_with fail
      refine (l00In_any _ _ _ _).mono ?_
      rintro e w2 ⟨rfl, rfl⟩
      rw [hv]
      go_wp2_with fail
      refine (l02Finite_any A n cap vs _ (hr.below hx0)).mono ?_
      rintro e w2 ⟨rfl, hx⟩
      rw [hf]
      replace b0 := b0.ext hx
      replace hx0 := hx0.trans hx
      clear  hx
      have y0 : w2.cell? ⟨w.heap.size, 0, none⟩ = some (.int .i64 0) := b0.cell 0 rfl
      have y1 : w2.cell? ⟨w.heap.size, 1, none⟩ = some (.int .i64 0) := b0.cell 1 rfl
      have y2 : w2.cell? ⟨w.heap.size, 2, none⟩ = some (.slice none 0 0) := b0.cell 2 rfl
      have q0 := b0.free 0
      have q1 := b0.free 1
      have q2 := b0.free 2
      have hq := b0.lt
      go_wp2_with fail
      obtain ⟨k1, k2, k3⟩ := Own.resM (w := w) (u := .int .i64 0) (v := .int .i64 0) (x := .slice none 0 0) b0 (own_nil _ w.heap.size _) hx0 (by omega)
      exact bodyPost_ret (resMB (x := .bool false) rfl rfl rfl k3) rfl (RetMD.bad hd k2)
    | true =>
      have hb : comB vs = true := by unfold comB; rw [HL.out, hv, hf]; rfl
      have Hd := Lib.hid (coD_good hb HL.out)
      have Hall := Lib.hid (com_all hb HL.out)
      have Hl := Lib.hid (com_len vs n)
      have hng := run_neg Try.prog
      clear hb
      go_enter Try.func43, Try.ntmps43
      go_upto_region 1 with (fail)
      obtain ⟨w0, hw0⟩ : ∃ w0, w0 = (w.alloc (.cells #[.int .i64 0, .int .i64 0, .slice none 0 0] 35)) := ⟨_, rfl⟩
      have hx0 : Ext w w0 := by subst hw0; exact (Ext.refl _).alloc _
      have b0 : Blk w0 (w.heap.size) #[.int .i64 0, .int .i64 0, .slice none 0 0] 35 := by subst hw0; exact (Blk.new w _ _)
      rw [← hw0]
      clear hw0
      go_wp2_with fail
      refine (l00In_any _ _ _ _).mono ?_
      rintro e w2 ⟨rfl, rfl⟩
      rw [hv]
      go_wp2_with fail
      refine (l02Finite_any A n cap vs _ (hr.below hx0)).mono ?_
      rintro e w1 ⟨rfl, hx⟩
      rw [hf]
      replace b0 := b0.ext hx
      replace hx0 := hx0.trans hx
      clear  hx
      go_wp2_with fail
      refine (l02Zero_any n n hn12 hn12 _).mono ?_
      rintro e w2 ⟨A1, c1, ys1, hy, rfl, ho, hx⟩
      have hsz0 := hx0.size
      have b0' := b0.ext hx
      go_wp2_with fail
      obtain ⟨N, hN⟩ : ∃ N, N = n * n := ⟨_, rfl⟩
      have hst : MO w1 w2.heap.size w.heap.size n n N (tab n (comT vs (fun a b => (a = 0 ∧ b < 0) ∨ (1 ≤ a ∧ a < 0))) N) (w2.alloc (.cells #[.int .i64 n, .int .i64 n, .slice A1 N c1] 35)) := by
        have e : tab n (comT vs (fun a b => (a = 0 ∧ b < 0) ∨ (1 ≤ a ∧ a < 0))) N = List.replicate N (some 0) := by
          rw [← tab_const n]
          refine congrArg (fun F => tab n F N) ?_
          funext a b
          exact if_neg (by omega)
        rw [e, hN]
        exact ⟨A1, c1, ys1, hy, Blk.new _ _ _, b0'.ext ((Ext.refl _).alloc _), ho.ext ((Ext.refl _).alloc _), hx.alloc _⟩
      rw [← hN] at Hl ⊢
      have HN := Lib.hid hN
      have hN1 : n ≤ N := by rw [hN]; exact Nat.le_mul_self n
      have hsz : w1.heap.size ≤ w2.heap.size := hx.size
      have hb01 : w.heap.size < w1.heap.size := b0.lt
      clear ho hy b0' hx hN hv hf
      go_loopw [6] (fun u wr => ∃ j : Nat, j ≤ n ∧ u = .int .i64 j ∧ MO w1 w2.heap.size w.heap.size n n N (tab n (comT vs (fun a b => (a = 0 ∧ b < j) ∨ (1 ≤ a ∧ a < j))) N) wr) (fun u _ => n - (intOf u).toNat)
      case atStart => exact ⟨0, Nat.zero_le _, rfl, hst⟩
      case round =>
        clear hst
        obtain ⟨j, hj, rfl, hst⟩ := hrel
        by_cases hlt : j < n
        · obtain ⟨A1, k1, zs, h0, h1, h2, h3, h4⟩ := hst
          have zl : zs.length = N := h3.reads.flen
          obtain ⟨ad, rfl, hca⟩ := ((hr.below hx0).below h4).fltN j hlt
          obtain ⟨q, hq'⟩ : ∃ q, q = rdf vs j := ⟨_, rfl⟩
          rw [← hq'] at hca
          have HQ := Lib.hid hq'
          obtain ⟨g, rfl, _⟩ := h3.head (by omega)
          have z2 : wr.cell? ⟨w2.heap.size, 2, none⟩ = some (.slice (some ⟨g, 0, none⟩) N k1) := h1.cell 2 rfl
          have hjN : (j : Int) < (N : Int) := by omega
          clear hq'
          go_upto_region 8 with (fail)
          refine wp_region_T (cs := []) [0, 1, 2, 3, 4, 5, 6, 7] [8, 9] [] [] (fun _ _ => False) (fun _ _ _ => True) (by kernel_rfl) (by kernel_rfl) (fun _ _ _ _ _ _ => trivial) ?_
          refine' wpT_det (o := ⟨some 26, Op.fieldAddr 35 (Operand.tmp 5) 2, 0, "l04_values.go:648", #[], none⟩) rfl (by rfl) (by rfl) (fun w' hw' => ?_) ?_; rotate_left
          · go_simp <;> first | rfl | exact ⟨rfl, rfl⟩
          simp only [Act.put, List.setIfInBounds_toArray, List.set_cons_zero, List.set_cons_succ]
          refine' wpT_det (o := ⟨some 27, Op.load 22 (Operand.tmp 26), 22, "l04_values.go:648", #[{ on := 0, ground := Ground.data }], none⟩) rfl (by rfl) (by rfl) (fun w' hw' => ?_) ?_; rotate_left
          · have z2_ := Ext.cell hw' z2; have hca_ := Ext.cell hw' hca; go_simp <;> first | rfl | exact ⟨rfl, rfl⟩
          simp only [Act.put, List.setIfInBounds_toArray, List.set_cons_zero, List.set_cons_succ]
          refine' wpT_det (o := ⟨some 28, Op.move (Operand.tmp 6), 2, "l04_values.go:648", #[], none⟩) rfl (by rfl) (by rfl) (fun w' hw' => ?_) ?_; rotate_left
          · go_simp <;> first | rfl | exact ⟨rfl, rfl⟩
          simp only [Act.put, List.setIfInBounds_toArray, List.set_cons_zero, List.set_cons_succ]
          refine' wpT_det (o := ⟨some 29, Op.move (Operand.tmp 0), 22, "l04_values.go:648", #[], none⟩) rfl (by rfl) (by rfl) (fun w' hw' => ?_) ?_; rotate_left
          · go_simp <;> first | rfl | exact ⟨rfl, rfl⟩
          simp only [Act.put, List.setIfInBounds_toArray, List.set_cons_zero, List.set_cons_succ]
          refine' wpT_det (o := ⟨some 30, Op.move (Operand.tmp 6), 2, "l04_values.go:648", #[], none⟩) rfl (by rfl) (by rfl) (fun w' hw' => ?_) ?_; rotate_left
          · go_simp <;> first | rfl | exact ⟨rfl, rfl⟩
          simp only [Act.put, List.setIfInBounds_toArray, List.set_cons_zero, List.set_cons_succ]
          refine' wpT_det (o := ⟨some 31, Op.indexAddr 22 (Operand.tmp 29) (Operand.tmp 30), 0, "l04_values.go:648", #[{ on := 3, ground := Ground.data }, { on := 4, ground := Ground.data }], none⟩) rfl (by rfl) (by rfl) (fun w' hw' => ?_) ?_; rotate_left
          · go_simp <;> first | rfl | exact ⟨rfl, rfl⟩
          simp only [Act.put, List.setIfInBounds_toArray, List.set_cons_zero, List.set_cons_succ]
          refine' wpT_det (o := ⟨some 32, Op.load 39 (Operand.tmp 31), 39, "l04_values.go:648", #[{ on := 5, ground := Ground.data }], none⟩) rfl (by rfl) (by rfl) (fun w' hw' => ?_) ?_; rotate_left
          · have z2_ := Ext.cell hw' z2; have hca_ := Ext.cell hw' hca; go_simp <;> first | rfl | exact ⟨rfl, rfl⟩
          simp only [Act.put, List.setIfInBounds_toArray, List.set_cons_zero, List.set_cons_succ]
          refine' wpT_det (o := ⟨some 33, Op.unOp UnOp.neg 39 (Operand.tmp 32), 39, "l04_values.go:648", #[{ on := 6, ground := Ground.data }], none⟩) rfl (by rfl) (by rfl) (fun w' hw' => ?_) ?_; rotate_left
          · go_simp <;> first | rfl | exact ⟨rfl, rfl⟩
          simp only [Act.put, List.setIfInBounds_toArray, List.set_cons_zero, List.set_cons_succ]
          refine wpT_nil (fun w4 hw' hF => ?_)
          show wpList _ _ _ [(⟨some 34, Op.indexAddr 22 (Operand.tmp 27) (Operand.tmp 28), 0, "l04_values.go:648", #[{ on := 1, ground := Ground.data }, { on := 2, ground := Ground.data }, { on := 0, ground := Ground.phase }, { on := 1, ground := Ground.phase }, { on := 2, ground := Ground.phase }, { on := 3, ground := Ground.phase }, { on := 4, ground := Ground.phase }, { on := 5, ground := Ground.phase }, { on := 6, ground := Ground.phase }, { on := 7, ground := Ground.phase }], none⟩ : Oper), (⟨none, Op.store 39 (Operand.tmp 34) (Operand.tmp 33), 0, "l04_values.go:648", #[{ on := 8, ground := Ground.data }, { on := 7, ground := Ground.data }, { on := 0, ground := Ground.phase }, { on := 1, ground := Ground.phase }, { on := 2, ground := Ground.phase }, { on := 3, ground := Ground.phase }, { on := 4, ground := Ground.phase }, { on := 5, ground := Ground.phase }, { on := 6, ground := Ground.phase }, { on := 7, ground := Ground.phase }], none⟩ : Oper)] _ _
          have hx := hw'.undrew
          clear hF hw' z2 hca
          replace h1 := h1.ext hx
          replace h2 := h2.ext hx
          replace h3 := h3.ext hx
          replace h4 := h4.trans hx
          clear hx
          obtain ⟨hc, hf⟩ := h3.at_ j (by omega)
          rw [flts_get (by omega)] at hc
          have hst := store_f32 Try.prog (negW q) hc hf
          have hm := MO.put h0 h1 h2 h3 h4 j (negW q)
          have hset := tab_set (C := n) (m := N) (F := comT vs (fun a b => (a = 0 ∧ b < j) ∨ (1 ≤ a ∧ a < j))) (F' := comT vs (fun a b => ((a = 0 ∧ b < j) ∨ (1 ≤ a ∧ a < j)) ∨ (a = 0 ∧ b = j))) (i := 0) (k := j) (y := c32 (negW q)) hlt (by omega) (by rw [comT_on (.inr ⟨rfl, rfl⟩), comF_0 rfl, HQ.out]) (fun a b _ hab => comT_eq (.inl (by omega)))
          rw [Nat.zero_mul, Nat.zero_add] at hset
          rw [hset] at hm
          clear hset
          by_cases hj0 : j = 0
          · have hj1 : ¬ (0 : Int) < j := by omega
            have HJ := Lib.hid hj0
            clear hj0
            go_wp2_with fail
            go_roundw
            case rel =>
              have hj0 := HJ.out
              refine ⟨j + 1, by omega, by go_num, ?_⟩
              rw [HN.out] at hm ⊢
              rwa [tab_congr (F' := comT vs (fun a b => ((a = 0 ∧ b < j) ∨ (1 ≤ a ∧ a < j)) ∨ (a = 0 ∧ b = j))) (fun a b _ _ => comT_eq (.inl (by omega)))]
            case measure => simp [intOf]; omega
          · have hj1 : (0 : Int) < j := by omega
            go_upto_region 10 with (fail)
            obtain ⟨w5, hw5⟩ : ∃ v : World, v = w4.setCell ⟨g, j, none⟩ (.float .f32 (negW q)) := ⟨_, rfl⟩
            rw [← hw5] at hm ⊢
            clear hw5 h0 h1 h2 h3 h4 zl hst hc hf
            obtain ⟨A1, k1, zs, h0, h1, h2, h3, h4⟩ := hm
            have zl : zs.length = N := h3.reads.flen
            obtain ⟨g, rfl, _⟩ := h3.head (by omega)
            have z2 : w5.cell? ⟨w2.heap.size, 2, none⟩ = some (.slice (some ⟨g, 0, none⟩) N k1) := h1.cell 2 rfl
            obtain ⟨f1, f2, f3, f4, f5, f6, f7, f8⟩ := ix_facts (i := j) (k := j) hlt hlt hn12 hn12 HN.out
            obtain ⟨i1, i2, i3, i4, i5, i6, i7, i8⟩ := ix_facts (i := j) (k := j - 1) hlt (by omega) hn12 hn12 HN.out
            have ea : (j : Int) * n + ((j - 1 : Nat) : Int) = (j : Int) * n + j - 1 := by omega
            rw [ea] at i3 i4 i6 i8
            obtain ⟨hc, hf⟩ := h3.at_ (j * n + (j - 1)) (by omega)
            rw [flts_get (by omega)] at hc
            have hst := store_f32 Try.prog 1065353216 hc hf
            have hm := MO.put h0 h1 h2 h3 h4 (j * n + (j - 1)) 1065353216
            rw [tab_set (F' := comT vs (fun a b => (a = 0 ∧ b < j + 1) ∨ (1 ≤ a ∧ a < j + 1))) (by omega) (by omega) (by rw [comT_on (by omega), comF_1 hj0 (by omega), c32_1]) (fun a b _ hab => comT_eq (by omega))] at hm
            clear ea i7 f1 f2 f3 f4 f5 f6
            go_wp2_with fail
            go_roundw
            case rel => exact ⟨j + 1, by omega, by go_num, hm⟩
            case measure => simp [intOf]; omega
        · obtain rfl : j = n := by omega
          obtain ⟨A1, k1, zs, h0, h1, h2, h3, h4⟩ := hst
          have z0 : wr.cell? ⟨w2.heap.size, 0, none⟩ = some (.int .i64 j) := h1.cell 0 rfl
          have z1 : wr.cell? ⟨w2.heap.size, 1, none⟩ = some (.int .i64 j) := h1.cell 1 rfl
          have z2 : wr.cell? ⟨w2.heap.size, 2, none⟩ = some (.slice A1 N k1) := h1.cell 2 rfl
          have hfin : tab j (comT vs (fun a b => (a = 0 ∧ b < j) ∨ (1 ≤ a ∧ a < j))) N = comL vs j := by
            rw [HN.out]
            exact tab_congr (fun a b ha hb => comT_on (by omega))
          rw [hfin] at h0
          obtain rfl := cfs_all h0 Hall.out
          clear hfin h0
          have y0 : wr.cell? ⟨w.heap.size, 0, none⟩ = some (.int .i64 0) := h2.cell 0 rfl
          have y1 : wr.cell? ⟨w.heap.size, 1, none⟩ = some (.int .i64 0) := h2.cell 1 rfl
          have y2 : wr.cell? ⟨w.heap.size, 2, none⟩ = some (.slice none 0 0) := h2.cell 2 rfl
          have q0 := h2.free 0
          have q1 := h2.free 1
          have q2 := h2.free 2
          have hq := h2.lt
          go_wp2_with fail
          obtain ⟨k1', k2', k3'⟩ := Own.resM (w := w) (u := .int .i64 j) (v := .int .i64 j) (x := .slice A1 N k1) h2 (h3.base hx0.size) (hx0.trans h4) (Nat.le_refl _)
          refine bodyPost_ret (resMB rfl rfl rfl k3') rfl ?_
          rw [Hd.out]
          exact ⟨A1, k1, by rw [Hl.out]; rfl, by rw [Hl.out]; exact k1', k2'⟩

end Go.Proofs.Ytgjfdfmbknmpaaa
