import Derived.Test.YtgjfdfmbknmpaaaM19
import Derived.Test.YtgjfdfmbknmpaaaM23
import Derived.Test.YtgjfdfmbknmpaaaM39
import Derived.Test.YtgjfdfmbknmpaaaM45
set_option linter.unusedVariables false
set_option linter.unusedSimpArgs false
namespace Go.Proofs.Ytgjfdfmbknmpaaa
open Go.RowKit

theorem sub_inf {x : Nat} (h : FloatKind.f32.format.read x = .infinity true) : FloatKind.f32.format.sub 0 x = some 2139095040 := by
  unfold Ieee.Format.sub
  rw [h, read_0]
  rfl
/-- The size of what is not finite is not finite. -/
def RetX (w : World) (e : Ending) (w' : World) : Prop := ∃ r, e = .returned (.float .f32 r) ∧ isFin .f32 r = false ∧ Ext w w'
set_option maxRecDepth 20000 in
set_option maxHeartbeats 1000000 in
theorem l02SizeX_any (x : Nat) (hf : isFin .f32 x = false) (w : World) :
    Calls Try.prog 169 #[.float .f32 x] w (RetX w) := by
  have other : ((FloatKind.f32.format.order x 0 == some .lt) = false ∧ (FloatKind.f32.format.order x 0 == some .eq) = false) ∨ FloatKind.f32.format.read x = .infinity true := by
    cases hd : FloatKind.f32.format.read x with
    | number s m e => rw [fin_num hd] at hf; cases hf
    | infinity s =>
      cases s with
      | true => exact .inr rfl
      | false => left; unfold Ieee.Format.order; rw [hd, read_0]; exact ⟨rfl, rfl⟩
    | nan s t => left; unfold Ieee.Format.order; rw [hd, read_0]; exact ⟨rfl, rfl⟩
  rcases other with ⟨hl1, hl2⟩ | hd
  · skip
    go_enter Try.func169, Try.ntmps169
    go_upto_region 1 with (fail)
    go_wp2_with fail
    go_ret
    exact ⟨x, rfl, hf, Ext.refl _⟩
  · have hl1 : (FloatKind.f32.format.order x 0 == some .lt) = true := by unfold Ieee.Format.order; rw [hd, read_0]; rfl
    obtain ⟨r, w1, hrr, hx1, hc⟩ := run_fop (P := Try.prog) w .sub (.inr (.inl rfl)) 39 .f32 0 x
    have hr : isFin .f32 r = false := by
      rw [fop_cf] at hc
      have hsb : floatBits .sub .f32 0 x = some 2139095040 := sub_inf hd
      rw [hsb] at hc
      obtain ⟨rfl, _⟩ := cf_some hc
      decide
    clear hc
    go_enter Try.func169, Try.ntmps169
    go_upto_region 1 with (fail)
    go_wp2_with (simp only [hrr])
    go_ret
    exact ⟨r, rfl, hr, hx1⟩

/-- The tests of two vectors. -/
def vecsB (vs ws : List Nat) : Bool := isVec vs && isVec ws && decide (vs.length = ws.length)
set_option maxRecDepth 20000 in
set_option maxHeartbeats 2000000 in
theorem areVectors_any (A : Option Addr) (n cap : Nat) (B : Option Addr) (m cap' : Nat) (vs ws : List Nat) (w : World) (hr : Rds w A n (flts vs)) (hq : Rds w B m (flts ws)) :
    Calls Try.prog 189 #[.slice A n cap, .slice B m cap'] w fun e w' => e = .returned (.bool (vecsB vs ws)) ∧ Ext w w' := by
  have HL := Lib.hid hr.flen
  have HL2 := Lib.hid hq.flen
  have hs1 := hr.small
  have hs2 := hq.small
  obtain ⟨d, hd⟩ : ∃ d, d = vecsB vs ws := ⟨_, rfl⟩
  have Hd := Lib.hid hd
  rw [← hd]
  clear hd
  cases h1 : isVec vs with
  | false =>
    go_enter Try.func189, Try.ntmps189
    go_upto_region 1 with (fail)
    go_wp2_with fail
    refine (IsVector_any A n cap vs _ hr).mono ?_
    rintro e w1 ⟨rfl, hx⟩
    rw [h1]
    go_wp2_with fail
    go_ret
    exact ⟨ret_bool (by rw [Hd.out, vecsB, h1]; rfl), hx⟩
  | true =>
    cases h2 : isVec ws with
    | false =>
      go_enter Try.func189, Try.ntmps189
      go_upto_region 1 with (fail)
      go_wp2_with fail
      refine (IsVector_any A n cap vs _ hr).mono ?_
      rintro e w1 ⟨rfl, hx⟩
      rw [h1]
      go_wp2_with fail
      refine (IsVector_any B m cap' ws _ (hq.below hx)).mono ?_
      rintro e w2 ⟨rfl, hx2⟩
      rw [h2]
      go_wp2_with fail
      go_ret
      exact ⟨ret_bool (by rw [Hd.out, vecsB, h1, h2]; rfl), hx.trans hx2⟩
    | true =>
      go_enter Try.func189, Try.ntmps189
      go_upto_region 1 with (fail)
      go_wp2_with fail
      refine (IsVector_any A n cap vs _ hr).mono ?_
      rintro e w1 ⟨rfl, hx⟩
      rw [h1]
      go_wp2_with fail
      refine (IsVector_any B m cap' ws _ (hq.below hx)).mono ?_
      rintro e w2 ⟨rfl, hx2⟩
      rw [h2]
      go_wp2_with fail
      go_ret
      refine ⟨ret_bool ?_, hx.trans hx2⟩
      rw [Hd.out, vecsB, h1, h2, HL.out, HL2.out]
      by_cases e : n = m
      · simp [e]
      · have : ¬ (n : Int) = m := by omega
        simp [e, this]
set_option maxRecDepth 20000 in
set_option maxHeartbeats 2000000 in
theorem l02Vectors_any (A : Option Addr) (n cap : Nat) (B : Option Addr) (m cap' : Nat) (vs ws : List Nat) (w : World) (hr : Rds w A n (flts vs)) (hq : Rds w B m (flts ws)) :
    Calls Try.prog 168 #[.slice A n cap, .slice B m cap'] w fun e w' => e = .returned (.bool (vecsB vs ws)) ∧ Ext w w' := by
  have HL := Lib.hid hr.flen
  have HL2 := Lib.hid hq.flen
  have hs1 := hr.small
  have hs2 := hq.small
  obtain ⟨d, hd⟩ : ∃ d, d = vecsB vs ws := ⟨_, rfl⟩
  have Hd := Lib.hid hd
  rw [← hd]
  clear hd
  cases h1 : isVec vs with
  | false =>
    go_enter Try.func168, Try.ntmps168
    go_upto_region 1 with (fail)
    go_wp2_with fail
    refine (l02Vector_any A n cap vs _ hr).mono ?_
    rintro e w1 ⟨rfl, hx⟩
    rw [h1]
    go_wp2_with fail
    go_ret
    exact ⟨ret_bool (by rw [Hd.out, vecsB, h1]; rfl), hx⟩
  | true =>
    cases h2 : isVec ws with
    | false =>
      go_enter Try.func168, Try.ntmps168
      go_upto_region 1 with (fail)
      go_wp2_with fail
      refine (l02Vector_any A n cap vs _ hr).mono ?_
      rintro e w1 ⟨rfl, hx⟩
      rw [h1]
      go_wp2_with fail
      refine (l02Vector_any B m cap' ws _ (hq.below hx)).mono ?_
      rintro e w2 ⟨rfl, hx2⟩
      rw [h2]
      go_wp2_with fail
      go_ret
      exact ⟨ret_bool (by rw [Hd.out, vecsB, h1, h2]; rfl), hx.trans hx2⟩
    | true =>
      go_enter Try.func168, Try.ntmps168
      go_upto_region 1 with (fail)
      go_wp2_with fail
      refine (l02Vector_any A n cap vs _ hr).mono ?_
      rintro e w1 ⟨rfl, hx⟩
      rw [h1]
      go_wp2_with fail
      refine (l02Vector_any B m cap' ws _ (hq.below hx)).mono ?_
      rintro e w2 ⟨rfl, hx2⟩
      rw [h2]
      go_wp2_with fail
      go_ret
      refine ⟨ret_bool ?_, hx.trans hx2⟩
      rw [Hd.out, vecsB, h1, h2, HL.out, HL2.out]
      by_cases e : n = m
      · simp [e]
      · have : ¬ (n : Int) = m := by omega
        simp [e, this]

/-- The cosine. -/
def cosD (vs ws : List Nat) : Nat × Bool :=
  if (unitD vs).2 && (unitD ws).2 && decide (vs.length = ws.length) then (if finO (dotL (unitD vs).1 (unitD ws).1 vs.length) then (absW ((dotL (unitD vs).1 (unitD ws).1 vs.length).getD 0), true) else (0, false)) else (0, false)
theorem finL_words {L : List (Option Nat)} (h : L.all finO = true) : finL (wordsL L) = true := by
  unfold finL wordsL
  rw [List.all_eq_true]
  intro x hx
  rw [List.mem_map] at hx
  obtain ⟨o, ho, rfl⟩ := hx
  obtain ⟨y, rfl, hy⟩ := finO_of (List.all_eq_true.1 h o ho)
  exact hy
theorem unit_vec {vs a : List Nat} (h : (a, true) = unitD vs) : isVec a = true ∧ a.length = vs.length ∧ isVec vs = true := by
  unfold unitD at h
  split at h
  · rename_i hc
    rw [Bool.and_eq_true] at hc
    unfold giveL at h
    split at h
    · rename_i hf
      have e := congrArg Prod.fst h
      have e' : a = wordsL (unitF vs (rootF (sqL vs)) vs.length) := e
      have hl : a.length = vs.length := by rw [e']; simp [wordsL, unitF]
      refine ⟨?_, hl, hc.1⟩
      have h1 := hc.1
      unfold isVec at h1 ⊢
      rw [Bool.and_eq_true] at h1 ⊢
      rw [hl]
      exact ⟨h1.1, by rw [e']; exact finL_words hf⟩
    · cases h
  · cases h
theorem cos_1 {vs ws a : List Nat} (h : (a, false) = unitD vs) : cosD vs ws = (0, false) := by unfold cosD; rw [← h]; rfl
theorem cos_2 {vs ws a : List Nat} (h : (a, false) = unitD ws) : cosD vs ws = (0, false) := by unfold cosD; rw [← h]; simp
theorem cos_3 {vs ws : List Nat} (h : vs.length ≠ ws.length) : cosD vs ws = (0, false) := by unfold cosD; rw [decide_eq_false h]; simp
theorem cos_4 {vs ws a b : List Nat} (h : (a, true) = unitD vs) (h2 : (b, true) = unitD ws) (h3 : vs.length = ws.length) : cosD vs ws = (if finO (dotL a b vs.length) then (absW ((dotL a b vs.length).getD 0), true) else (0, false)) := by
  unfold cosD; rw [← h, ← h2, decide_eq_true h3]; rfl
theorem cos_5 {vs ws : List Nat} (h : vecsB vs ws = false) : cosD vs ws = (0, false) := by
  obtain ⟨⟨a, ok⟩, ha⟩ : ∃ d, d = unitD vs := ⟨_, rfl⟩
  obtain ⟨⟨b, ok2⟩, hb⟩ : ∃ d, d = unitD ws := ⟨_, rfl⟩
  cases ok with
  | false => exact cos_1 ha
  | true =>
    cases ok2 with
    | false => exact cos_2 hb
    | true =>
      refine cos_3 (fun e => ?_)
      unfold vecsB at h
      rw [(unit_vec ha).2.2, (unit_vec hb).2.2, decide_eq_true e] at h
      cases h
theorem abs_fin {x : Nat} (h : isFin .f32 x = true) : isFin .f32 (absW x) = true := by
  rw [fin_mod] at h ⊢
  have e : absW x = x % 2147483648 := rfl
  rw [e, Nat.mod_mod]
  exact h
theorem cosD_fin (vs ws : List Nat) : isFin .f32 (cosD vs ws).1 = true := by
  unfold cosD
  split
  · split
    · rename_i h
      obtain ⟨x, hx, hf⟩ := finO_of h
      rw [hx]
      exact abs_fin hf
    · decide
  · decide

/-- A dot product of two vectors. -/
def dvD (vs ws : List Nat) : Nat × Bool := if vecsB vs ws then giveF (dotL vs ws vs.length) else (0, false)
set_option maxRecDepth 20000 in
set_option maxHeartbeats 2000000 in
theorem DotVectors_any (A : Option Addr) (n cap : Nat) (B : Option Addr) (m cap' : Nat) (vs ws : List Nat) (w : World) (hr : Rds w A n (flts vs)) (hq : Rds w B m (flts ws)) :
    Calls Try.prog 170 #[.slice A n cap, .slice B m cap'] w (RetND w (dvD vs ws)) := by
  have HL := Lib.hid hr.flen
  have HL2 := Lib.hid hq.flen
  cases h1 : vecsB vs ws with
  | false =>
    have hd : dvD vs ws = (0, false) := by simp [dvD, h1]
    rw [hd]
    go_enter Try.func170, Try.ntmps170
    go_upto_region 1 with (fail)
    go_wp2_with fail
    refine (areVectors_any A n cap B m cap' vs ws _ hr hq).mono ?_
    rintro e w1 ⟨rfl, hx⟩
    rw [h1]
    go_wp2_with fail
    go_ret2
    exact ⟨rfl, hx⟩
  | true =>
    have hd : dvD vs ws = giveF (dotL vs ws n) := by simp [dvD, h1, HL.out]
    have hnm : n ≤ m := by
      have h2 := h1
      unfold vecsB at h2
      rw [Bool.and_eq_true, decide_eq_true_eq, HL.out, HL2.out] at h2
      omega
    rw [hd]
    clear hd
    go_enter Try.func170, Try.ntmps170
    go_upto_region 1 with (fail)
    go_wp2_with fail
    refine (areVectors_any A n cap B m cap' vs ws _ hr hq).mono ?_
    rintro e w1 ⟨rfl, hx⟩
    rw [h1]
    go_wp2_with fail
    refine (dot_any A B n m cap cap' vs ws _ hnm (hr.below hx) (hq.below hx)).mono ?_
    rintro e w2 ⟨l, rfl, hlo, hx2⟩
    go_wp2_with fail
    refine (finite_any l _).mono ?_
    rw [hlo]
    intro e w3 h3
    obtain ⟨he, hx3⟩ := h3.nd
    subst he
    go_wp2_with fail
    go_ret2
    exact ⟨rfl, (hx.trans hx2).trans hx3⟩

set_option maxRecDepth 20000 in
set_option maxHeartbeats 4000000 in
theorem implCosineOf_any (A : Option Addr) (n cap : Nat) (B : Option Addr) (m cap' : Nat) (vs ws : List Nat) (w : World) (hr : Rds w A n (flts vs)) (hq : Rds w B m (flts ws)) :
    Calls Try.prog 93 #[.slice A n cap, .slice B m cap'] w (RetND w (cosD vs ws)) := by
  have HL := Lib.hid hr.flen
  have HL2 := Lib.hid hq.flen
  obtain ⟨d, hd⟩ : ∃ d, d = cosD vs ws := ⟨_, rfl⟩
  have Hd := Lib.hid hd
  rw [← hd]
  clear hd
  obtain ⟨⟨a, ok⟩, ha⟩ : ∃ d, d = unitD vs := ⟨_, rfl⟩
  obtain ⟨⟨b, ok2⟩, hb⟩ : ∃ d, d = unitD ws := ⟨_, rfl⟩
  have HA := Lib.hid ha
  have HB := Lib.hid hb
  clear ha hb
  go_enter Try.func93, Try.ntmps93
  go_upto_region 1 with (fail)
  go_wp2_with fail
  refine (implUnitVector_any A n cap vs _ hr).mono ?_
  rw [← HA.out]
  rintro e w1 ⟨A1, k1, rfl, o1, hx1⟩
  go_wp2_with fail
  refine (implUnitVector_any B m cap' ws _ (hq.below hx1)).mono ?_
  rw [← HB.out]
  rintro e w2 ⟨A2, k2, rfl, o2, hx2⟩
  cases ok with
  | false =>
    have hD : d = (0, false) := Hd.out.trans (cos_1 HA.out)
    go_wp2_with fail
    go_ret2
    exact ⟨by rw [hD]; rfl, hx1.trans hx2⟩
  | true =>
    cases ok2 with
    | false =>
      have hD : d = (0, false) := Hd.out.trans (cos_2 HB.out)
      go_wp2_with fail
      go_ret2
      exact ⟨by rw [hD]; rfl, hx1.trans hx2⟩
    | true =>
      obtain ⟨va, la, va'⟩ := unit_vec HA.out
      obtain ⟨vb, lb, vb'⟩ := unit_vec HB.out
      have HDV : Hid (dvD a b = if decide (vs.length = ws.length) then giveF (dotL a b vs.length) else (0, false)) := by
        show _ = _
        unfold dvD vecsB
        rw [va, vb, la, lb]
        rfl
      have r1 : Rds w1 A1 a.length (flts a) := o1.reads
      have r2 : Rds w2 A2 b.length (flts b) := o2.reads
      clear va va' vb vb' la lb o1 o2
      go_wp2_with fail
      refine (DotVectors_any A1 a.length k1 A2 b.length k2 a b _ (r1.below hx2) r2).mono ?_
      rw [HDV.out]
      by_cases hlen : vs.length = ws.length
      · rw [decide_eq_true hlen, if_pos rfl]
        have hD0 := Hd.out.trans (cos_4 HA.out HB.out hlen)
        obtain ⟨D, hDD⟩ : ∃ D, D = dotL a b vs.length := ⟨_, rfl⟩
        rw [← hDD] at hD0 ⊢
        clear hlen hDD
        cases hf : finO D with
        | false =>
          have hg : giveF D = (0, false) := by unfold giveF; rw [hf]; rfl
          have hD : d = (0, false) := by rw [hD0, hf]; rfl
          rw [hg]
          rintro e w3 ⟨rfl, hx3⟩
          clear hD0
          go_wp2_with fail
          go_ret2
          exact ⟨by rw [hD]; rfl, (hx1.trans hx2).trans hx3⟩
        | true =>
          obtain ⟨x, rfl, hfx⟩ := finO_of hf
          have hg : giveF (some x) = (x, true) := by unfold giveF; rw [hf]; rfl
          have hD : d = (absW x, true) := by rw [hD0, hf]; rfl
          rw [hg]
          rintro e w3 ⟨rfl, hx3⟩
          clear hD0
          go_wp2_with fail
          refine (absolute_any x (fin_nn hfx) _).mono ?_
          rintro e w4 ⟨rfl, hx4⟩
          go_wp2_with fail
          go_ret2
          exact ⟨by rw [hD]; rfl, ((hx1.trans hx2).trans hx3).trans hx4⟩
      · rw [decide_eq_false hlen, if_neg (by simp)]
        have hD : d = (0, false) := Hd.out.trans (cos_3 hlen)
        rintro e w3 ⟨rfl, hx3⟩
        clear hlen
        go_wp2_with fail
        go_ret2
        exact ⟨by rw [hD]; rfl, (hx1.trans hx2).trans hx3⟩

theorem fop_wf {op : BinOp} {a b : Option Nat} {x : Nat} (h : fop op .f32 a b = some x) : x < 4294967296 := by
  unfold fop at h
  cases a with
  | none => cases h
  | some u =>
    cases b with
    | none => cases h
    | some v =>
      have key : ∀ o : Option Ieee.Datum, o.map FloatKind.f32.format.write = some x → x < 4294967296 := by
        intro o ho
        cases o with
        | none => cases ho
        | some d =>
          obtain rfl := Option.some.inj ho
          exact FloatKind.f32.format.write_lt _
      have h' : floatBits op .f32 u v = some x := h
      unfold floatBits at h'
      cases op <;> simp only at h' <;> first | (cases h'; done) | exact key _ h'
theorem dot_wf {a b : List Nat} {n x : Nat} (h : dotL a b n = some x) : x < 4294967296 := by
  unfold dotL dotF at h
  cases n with
  | zero => cases h; decide
  | succ n => exact fop_wf h

set_option maxRecDepth 20000 in
set_option maxHeartbeats 4000000 in
theorem specCosineOf_any (A : Option Addr) (n cap : Nat) (B : Option Addr) (m cap' : Nat) (vs ws : List Nat) (w : World) (hr : Rds w A n (flts vs)) (hq : Rds w B m (flts ws)) :
    Calls Try.prog 92 #[.slice A n cap, .slice B m cap'] w (RetND w (cosD vs ws)) := by
  have HL := Lib.hid hr.flen
  have HL2 := Lib.hid hq.flen
  obtain ⟨d, hd⟩ : ∃ d, d = cosD vs ws := ⟨_, rfl⟩
  have Hd := Lib.hid hd
  rw [← hd]
  clear hd
  cases hv : vecsB vs ws with
  | false =>
    have hD : d = (0, false) := Hd.out.trans (cos_5 hv)
    go_enter Try.func92, Try.ntmps92
    go_upto_region 1 with (fail)
    go_wp2_with fail
    refine (l02Vectors_any A n cap B m cap' vs ws _ hr hq).mono ?_
    rintro e w1 ⟨rfl, hx⟩
    rw [hv]
    go_wp2_with fail
    go_ret2
    exact ⟨by rw [hD]; rfl, hx⟩
  | true =>
    have HV : Hid (vs.length = ws.length) := by
      have h2 := hv
      unfold vecsB at h2
      rw [Bool.and_eq_true, decide_eq_true_eq] at h2
      exact h2.2
    obtain ⟨⟨a, ok⟩, ha⟩ : ∃ d, d = unitD vs := ⟨_, rfl⟩
    obtain ⟨⟨b, ok2⟩, hb⟩ : ∃ d, d = unitD ws := ⟨_, rfl⟩
    have HA := Lib.hid ha
    have HB := Lib.hid hb
    clear ha hb
    go_enter Try.func92, Try.ntmps92
    go_upto_region 1 with (fail)
    go_wp2_with fail
    refine (l02Vectors_any A n cap B m cap' vs ws _ hr hq).mono ?_
    rintro e w0 ⟨rfl, hx0⟩
    rw [hv]
    go_wp2_with fail
    refine (specUnitVector_any A n cap vs _ (hr.below hx0)).mono ?_
    rw [← HA.out]
    rintro e w1 ⟨A1, k1, rfl, o1, hx1⟩
    replace hx0 := hx0.trans hx1
    go_wp2_with fail
    refine (specUnitVector_any B m cap' ws _ (hq.below hx0)).mono ?_
    rw [← HB.out]
    rintro e w2 ⟨A2, k2, rfl, o2, hx2⟩
    cases ok with
    | false =>
      have hD : d = (0, false) := Hd.out.trans (cos_1 HA.out)
      go_wp2_with fail
      go_ret2
      exact ⟨by rw [hD]; rfl, hx0.trans hx2⟩
    | true =>
      cases ok2 with
      | false =>
        have hD : d = (0, false) := Hd.out.trans (cos_2 HB.out)
        go_wp2_with fail
        go_ret2
        exact ⟨by rw [hD]; rfl, hx0.trans hx2⟩
      | true =>
        have hla := (unit_vec HA.out).2.1
        have hlb := (unit_vec HB.out).2.1
        have hab : a.length ≤ b.length := by have := HV.out; omega
        have hD0 := Hd.out.trans (cos_4 HA.out HB.out HV.out)
        have r1 : Rds w1 A1 a.length (flts a) := o1.reads
        have r2 : Rds w2 A2 b.length (flts b) := o2.reads
        rw [← hla] at hD0
        have HD0 := Lib.hid hD0
        clear hla hlb o1 o2 hD0
        go_wp2_with fail
        refine (l02Dot_any A1 A2 a.length b.length k1 k2 a b _ hab (r1.below hx2) r2).mono ?_
        rintro e w3 ⟨l, rfl, hlo, hx3⟩
        have HD1 : Hid (d = if finO (c32 l) then (absW ((c32 l).getD 0), true) else (0, false)) := by show _ = _; rw [HD0.out, hlo]
        cases hf : isFin .f32 l with
        | false =>
          have hD : d = (0, false) := by rw [HD1.out, finO_cf, hf]; rfl
          clear hlo
          go_wp2_with fail
          refine (l02SizeX_any l hf _).mono ?_
          rintro e w4 ⟨r, rfl, hr4, hx4⟩
          go_wp2_with fail
          refine (l02Number_any r _).mono ?_
          intro e w5 h5
          obtain ⟨he, hx5⟩ := h5.nd
          have hg : giveF (c32 r) = (0, false) := by unfold giveF; rw [finO_cf, hr4]; rfl
          rw [hg] at he
          subst he
          go_wp2_with fail
          go_ret2
          exact ⟨by rw [hD]; rfl, ((hx0.trans hx2).trans hx3).trans (hx4.trans hx5)⟩
        | true =>
          have hD : d = (absW l, true) := by rw [HD1.out, finO_cf, hf, isFin_c32 hf]; rfl
          have hwl : l < 4294967296 := dot_wf (a := a) (b := b) (n := a.length) (by rw [← hlo]; exact isFin_c32 hf)
          clear hlo
          go_wp2_with fail
          refine (l02Size_any l hwl hf _).mono ?_
          rintro e w4 ⟨r, rfl, hr4, hx4⟩
          obtain rfl : r = absW l := (cf_some hr4).1
          go_wp2_with fail
          refine (l02Number_any (absW l) _).mono ?_
          intro e w5 h5
          obtain ⟨he, hx5⟩ := h5.nd
          have hg : giveF (c32 (absW l)) = (absW l, true) := by unfold giveF; rw [finO_cf, abs_fin hf, isFin_c32 (abs_fin hf)]; rfl
          rw [hg] at he
          subst he
          go_wp2_with fail
          go_ret2
          exact ⟨by rw [hD]; rfl, ((hx0.trans hx2).trans hx3).trans (hx4.trans hx5)⟩

end Go.Proofs.Ytgjfdfmbknmpaaa
