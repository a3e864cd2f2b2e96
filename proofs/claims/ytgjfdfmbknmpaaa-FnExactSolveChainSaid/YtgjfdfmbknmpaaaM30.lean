import Derived.Test.YtgjfdfmbknmpaaaT1
import Derived.Test.YtgjfdfmbknmpaaaM29
set_option linter.unusedVariables false
set_option linter.unusedSimpArgs false
namespace Go.Proofs.Ytgjfdfmbknmpaaa
open Go.RowKit

/-- Whether a number is zero; whether it is less. -/
def eq0 (a : Option Nat) : Bool := fcmp a (some 0) == some .eq
def lt0 (a : Option Nat) : Bool := fcmp a (some 0) == some .lt
theorem eq0_c32 (x : Nat) : (FloatKind.f32.format.order x 0 == some .eq) = eq0 (c32 x) := by unfold eq0; rw [← c32_0, fcmp_cf]
theorem lt0_c32 (x : Nat) : (FloatKind.f32.format.order x 0 == some .lt) = lt0 (c32 x) := by unfold lt0; rw [← c32_0, fcmp_cf]
theorem ne_self (x : Nat) : (FloatKind.f32.format.order x x != some .eq) = (c32 x).isNone := by
  cases h : c32 x with
  | none => rw [order_nan h]; rfl
  | some z =>
    have hn : (FloatKind.f32.format.read x).isNaN = false := by
      cases hh : (FloatKind.f32.format.read x).isNaN with
      | false => rfl
      | true => rw [show c32 x = none from cf_none.2 hh] at h; cases h
    unfold Ieee.Format.order
    cases hd : FloatKind.f32.format.read x with
    | nan s t => rw [hd] at hn; cases hn
    | infinity s => cases s <;> rfl
    | number s m e => simp [Ieee.Datum.order]
theorem c32_tiny : c32 2155872256 = some 2155872256 := by decide

/-- A pivot that is zero is mended. -/
def mend (a : Option Nat) : Option Nat := if eq0 a then some 2155872256 else a
/-- The pivot before it is mended. -/
def rawF (xs ys : List Nat) (x i : Nat) (p : Option Nat) : Option Nat :=
  if i = 0 then fop .sub .f32 (c32 (rdf xs i)) (c32 x)
  else fop .sub .f32 (fop .sub .f32 (c32 (rdf xs i)) (c32 x)) (fdiv (fmul (c32 (rdf ys ((i : Int) - 1))) (c32 (rdf ys ((i : Int) - 1)))) p)
def pivF (xs ys : List Nat) (x : Nat) : Nat → Option Nat
  | 0 => some 0
  | i + 1 => mend (rawF xs ys x i (pivF xs ys x i))
def negC (xs ys : List Nat) (x : Nat) : Nat → Nat
  | 0 => 0
  | i + 1 => if lt0 (pivF xs ys x (i + 1)) then negC xs ys x i + 1 else negC xs ys x i
def belowD (xs ys : List Nat) (x : Nat) : Int × Bool :=
  if (List.range xs.length).all (fun i => (pivF xs ys x (i + 1)).isSome) then (negC xs ys x xs.length, true) else (0, false)
theorem belowD_good {xs ys : List Nat} {x : Nat} (h : ∀ j, j < xs.length → (pivF xs ys x (j + 1)).isSome = true) : belowD xs ys x = ((negC xs ys x xs.length : Int), true) := by
  unfold belowD
  rw [if_pos]
  simpa using h
theorem belowD_bad {xs ys : List Nat} {x j : Nat} (hj : j < xs.length) (h : (pivF xs ys x (j + 1)).isNone = true) : belowD xs ys x = (0, false) := by
  unfold belowD
  rw [if_neg]
  intro hc
  rw [List.all_eq_true] at hc
  have := hc j (by simpa using hj)
  simp only [Option.isNone_iff_eq_none] at h
  rw [h] at this
  cases this
theorem negC_le (xs ys : List Nat) (x i : Nat) : negC xs ys x i ≤ i := by
  induction i with
  | zero => exact Nat.le_refl _
  | succ i ih => unfold negC; split <;> omega
theorem negC_lt {xs ys : List Nat} {x i : Nat} (h : lt0 (pivF xs ys x (i + 1)) = true) : negC xs ys x (i + 1) = negC xs ys x i + 1 := by rw [negC, if_pos h]
theorem negC_ge {xs ys : List Nat} {x i : Nat} (h : lt0 (pivF xs ys x (i + 1)) = false) : negC xs ys x (i + 1) = negC xs ys x i := by rw [negC, if_neg (by rw [h]; simp)]
theorem pivF_mend {xs ys : List Nat} {x i r : Nat} (h : c32 r = rawF xs ys x i (pivF xs ys x i)) (he : eq0 (c32 r) = true) : pivF xs ys x (i + 1) = some 2155872256 := by
  rw [pivF, ← h, mend, if_pos he]
theorem pivF_keep {xs ys : List Nat} {x i r : Nat} (h : c32 r = rawF xs ys x i (pivF xs ys x i)) (he : eq0 (c32 r) = false) : pivF xs ys x (i + 1) = c32 r := by
  rw [pivF, ← h, mend, if_neg (by rw [he]; simp)]

def RetID (w : World) (d : Int × Bool) (e : Ending) (w' : World) : Prop := e = .returned (.tuple #[.int .i64 d.1, .bool d.2]) ∧ Ext w w'
/-- What holds ahead of a row. -/
def PivAt (xs ys : List Nat) (x i p : Nat) : Prop := c32 p = pivF xs ys x i ∧ ∀ j, j < i → (pivF xs ys x (j + 1)).isSome = true
theorem PivAt.start (xs ys : List Nat) (x : Nat) : PivAt xs ys x 0 0 := ⟨c32_0, fun j h => absurd h (Nat.not_lt_zero _)⟩
theorem PivAt.next {xs ys : List Nat} {x i p r : Nat} (h : PivAt xs ys x i p) (hr : c32 r = pivF xs ys x (i + 1)) (hn : (c32 r).isNone = false) : PivAt xs ys x (i + 1) r :=
  ⟨hr, fun j hj => if e : j = i then by subst e; rw [← hr]; simpa using hn else h.2 j (by omega)⟩

set_option maxRecDepth 20000 in
set_option maxHeartbeats 4000000 in
theorem l04Below_any (b : Nat) (A : Option Addr) (n cap : Nat) (B : Option Addr) (m cap' : Nat) (xs ys : List Nat) (x : Nat) (w : World) (ha : CAt w b A n cap B m cap' xs ys) (hnm : m + 1 = n) (hn12 : n ≤ 12) :
    Calls Try.prog 117 #[.pointer (some ⟨b, 0, none⟩), .float .f32 x] w (RetID w (belowD xs ys x)) := by
  have HL := Lib.hid ha.rds.flen
  have hs1 := ha.rds.small
  obtain ⟨d, hd⟩ : ∃ d, d = belowD xs ys x := ⟨_, rfl⟩
  have Hd := Lib.hid hd
  rw [← hd]
  clear hd
  go_enter Try.func117, Try.ntmps117
  go_upto_region 1 with (fail)
  go_wp2_with fail
  go_loopw [6, 7, 8] (fun c v u wr => ∃ i p : Nat, i ≤ n ∧ c = .int .i64 (negC xs ys x i) ∧ v = .float .f32 p ∧ u = .int .i64 i ∧ Hid (PivAt xs ys x i p) ∧ Ext w wr) (fun _ _ u _ => n - (intOf u).toNat)
  case atStart => exact ⟨0, 0, Nat.zero_le _, rfl, rfl, rfl, PivAt.start _ _ _, Ext.refl _⟩
  case round =>
    obtain ⟨i, p, hi, rfl, rfl, rfl, HP, hx⟩ := hrel
    obtain ⟨N, hN⟩ : ∃ N, N = negC xs ys x i := ⟨_, rfl⟩
    have hNi : N ≤ i := by rw [hN]; exact negC_le _ _ _ _
    rw [← hN]
    have HN := Lib.hid hN
    clear hN
    obtain ⟨c0, c1, hrd, hrq⟩ := ha.ext hx
    by_cases hlt : i < n
    · obtain ⟨ad, rfl, hca⟩ := hrd.fltN i hlt
      obtain ⟨q, hq⟩ : ∃ q, q = rdf xs i := ⟨_, rfl⟩
      rw [← hq] at hca
      have HQ := Lib.hid hq
      clear hq
      obtain ⟨r1, w1, hrr1, hx1, hc1⟩ := run_fop (P := Try.prog) wr .sub (.inr (.inl rfl)) 39 .f32 q x
      by_cases hi0 : i = 0
      · have hca0 : wr.cell? ad = some (.float .f32 q) := by have h := hca; rw [hi0] at h; rwa [show ad.add 0 = ad by cases ad; simp [Addr.add]] at h
        have hraw : c32 r1 = rawF xs ys x i (pivF xs ys x i) := by unfold rawF; rw [if_pos hi0, ← HQ.out]; exact hc1
        have hex := hx.trans hx1
        cases he : eq0 (c32 r1) with
        | true =>
          have hpv := pivF_mend hraw he
          have hnn : (FloatKind.f32.format.order 2155872256 2155872256 != some .eq) = false := by decide
          have hll : (FloatKind.f32.format.order 2155872256 0 == some .lt) = true := by decide
          have hl := negC_lt (xs := xs) (ys := ys) (x := x) (i := i) (by rw [hpv]; decide)
          rw [← eq0_c32] at he
          have HP' := HP.out.next (hpv ▸ c32_tiny) (by decide)
          clear hpv hraw
          go_wp2_with (simp only [hrr1])
          go_roundw
          case rel => exact ⟨i + 1, _, by omega, by rw [hl, ← HN.out]; go_num, rfl, by go_num, HP', hex⟩
          case measure => simp [intOf]; omega
        | false =>
          have hpv := pivF_keep hraw he
          rw [← eq0_c32] at he
          cases hn : (c32 r1).isNone with
          | true =>
            have hd := belowD_bad (xs := xs) (ys := ys) (x := x) (j := i) (by rw [HL.out]; exact hlt) (by rw [hpv]; exact hn)
            rw [← ne_self] at hn
            clear hpv hraw
            go_wp2_with (simp only [hrr1])
            go_ret2
            exact ⟨by rw [Hd.out, hd]; rfl, hex⟩
          | false =>
            have HP' := HP.out.next hpv.symm hn
            rw [← ne_self] at hn
            cases hll : lt0 (c32 r1) with
            | true =>
              have hl := negC_lt (xs := xs) (ys := ys) (x := x) (i := i) (by rw [hpv]; exact hll)
              rw [← lt0_c32] at hll
              clear hpv hraw
              go_wp2_with (simp only [hrr1])
              go_roundw
              case rel => exact ⟨i + 1, _, by omega, by rw [hl, ← HN.out]; go_num, rfl, by go_num, HP', hex⟩
              case measure => simp [intOf]; omega
            | false =>
              have hl := negC_ge (xs := xs) (ys := ys) (x := x) (i := i) (by rw [hpv]; exact hll)
              rw [← lt0_c32] at hll
              clear hpv hraw
              go_wp2_with (simp only [hrr1])
              go_roundw
              case rel => exact ⟨i + 1, _, by omega, by rw [hl, ← HN.out], rfl, by go_num, HP', hex⟩
              case measure => simp [intOf]; omega
      · obtain ⟨ad', rfl, hcb⟩ := hrq.fltN (i - 1) (by omega)
        have ei : (((i - 1 : Nat) : Nat) : Int) = (i : Int) - 1 := by omega
        rw [ei] at hcb
        obtain ⟨z, hz⟩ : ∃ z, z = rdf ys ((i : Int) - 1) := ⟨_, rfl⟩
        rw [← hz] at hcb
        have HZ := Lib.hid hz
        clear hz hrd hrq
        replace hcb := hx1.cell hcb
        replace c1 := hx1.cell c1
        have g1 : IntKind.i64.wrap ((i : Int) - 1) = (i : Int) - 1 := IntWalk.i64_in _ (by omega)
        have g2 : (1 : Int) ≤ (i : Int) := by omega
        clear ei
        have g3 : (i : Int) - 1 < (m : Int) := by omega
        go_upto_region 8 with (simp only [hrr1])
        refine wp_region_T (cs := []) [0, 1, 2, 3, 4, 5, 6, 7, 8, 9, 10, 11, 12, 13, 14, 15, 16, 17, 18, 19, 20] [21] [17, 19, 20] [] (fun i__ v => match i__ with | 17 => ∃ r, v = .float .f32 r ∧ c32 r = (fmul (c32 z) (c32 z)) | 19 => ∃ r, v = .float .f32 r ∧ c32 r = (fdiv (fmul (c32 z) (c32 z)) (c32 p)) | 20 => ∃ r, v = .float .f32 r ∧ c32 r = (fop .sub .f32 (c32 r1) (fdiv (fmul (c32 z) (c32 z)) (c32 p))) | _ => False) (fun _ _ _ => True) (by kernel_rfl) (by kernel_rfl) (fun _ _ _ _ _ _ => trivial) ?_
        refine' wpT_det (o := ⟨some 30, Op.move (Operand.tmp 9), 39, "l04_values.go:43", #[], none⟩) rfl (by rfl) (by rfl) (fun w' hw' => ?_) ?_; rotate_left
        · go_simp <;> first | rfl | exact ⟨rfl, rfl⟩
        simp only [Act.put, List.setIfInBounds_toArray, List.set_cons_zero, List.set_cons_succ]
        refine' wpT_det (o := ⟨some 31, Op.move (Operand.tmp 0), 80, "l04_values.go:43", #[], none⟩) rfl (by rfl) (by rfl) (fun w' hw' => ?_) ?_; rotate_left
        · go_simp <;> first | rfl | exact ⟨rfl, rfl⟩
        simp only [Act.put, List.setIfInBounds_toArray, List.set_cons_zero, List.set_cons_succ]
        refine' wpT_det (o := ⟨some 32, Op.nilCheck (Operand.tmp 31), 0, "l04_values.go:43", #[{ on := 1, ground := Ground.data }], none⟩) rfl (by rfl) (by rfl) (fun w' hw' => ?_) ?_; rotate_left
        · go_simp <;> first | rfl | exact ⟨rfl, rfl⟩
        simp only [Act.put, List.setIfInBounds_toArray, List.set_cons_zero, List.set_cons_succ]
        refine' wpT_det (o := ⟨some 33, Op.fieldAddr 27 (Operand.tmp 32) 1, 0, "l04_values.go:43", #[{ on := 2, ground := Ground.data }], none⟩) rfl (by rfl) (by rfl) (fun w' hw' => ?_) ?_; rotate_left
        · go_simp <;> first | rfl | exact ⟨rfl, rfl⟩
        simp only [Act.put, List.setIfInBounds_toArray, List.set_cons_zero, List.set_cons_succ]
        refine' wpT_det (o := ⟨some 34, Op.load 22 (Operand.tmp 33), 22, "l04_values.go:43", #[{ on := 3, ground := Ground.data }], none⟩) rfl (by rfl) (by rfl) (fun w' hw' => ?_) ?_; rotate_left
        · have c1_ := Ext.cell hw' c1; have hcb_ := Ext.cell hw' hcb; go_simp <;> first | rfl | exact ⟨rfl, rfl⟩
        simp only [Act.put, List.setIfInBounds_toArray, List.set_cons_zero, List.set_cons_succ]
        refine' wpT_det (o := ⟨some 35, Op.move (Operand.tmp 8), 3, "l04_values.go:43", #[], none⟩) rfl (by rfl) (by rfl) (fun w' hw' => ?_) ?_; rotate_left
        · go_simp <;> first | rfl | exact ⟨rfl, rfl⟩
        simp only [Act.put, List.setIfInBounds_toArray, List.set_cons_zero, List.set_cons_succ]
        refine' wpT_det (o := ⟨some 36, Op.binOp BinOp.sub 3 (Operand.tmp 35) (Operand.const (Value.int IntKind.i64 1)) 3, 3, "l04_values.go:43", #[{ on := 5, ground := Ground.data }], none⟩) rfl (by rfl) (by rfl) (fun w' hw' => ?_) ?_; rotate_left
        · go_simp <;> first | rfl | exact ⟨rfl, rfl⟩
        simp only [Act.put, List.setIfInBounds_toArray, List.set_cons_zero, List.set_cons_succ]
        refine' wpT_det (o := ⟨some 37, Op.indexAddr 22 (Operand.tmp 34) (Operand.tmp 36), 0, "l04_values.go:43", #[{ on := 4, ground := Ground.data }, { on := 6, ground := Ground.data }], none⟩) rfl (by rfl) (by rfl) (fun w' hw' => ?_) ?_; rotate_left
        · go_simp <;> first | rfl | exact ⟨rfl, rfl⟩
        simp only [Act.put, List.setIfInBounds_toArray, List.set_cons_zero, List.set_cons_succ]
        refine' wpT_det (o := ⟨some 38, Op.load 39 (Operand.tmp 37), 39, "l04_values.go:43", #[{ on := 7, ground := Ground.data }], none⟩) rfl (by rfl) (by rfl) (fun w' hw' => ?_) ?_; rotate_left
        · have c1_ := Ext.cell hw' c1; have hcb_ := Ext.cell hw' hcb; go_simp <;> first | rfl | exact ⟨rfl, rfl⟩
        simp only [Act.put, List.setIfInBounds_toArray, List.set_cons_zero, List.set_cons_succ]
        refine' wpT_det (o := ⟨some 39, Op.move (Operand.tmp 0), 80, "l04_values.go:43", #[], none⟩) rfl (by rfl) (by rfl) (fun w' hw' => ?_) ?_; rotate_left
        · go_simp <;> first | rfl | exact ⟨rfl, rfl⟩
        simp only [Act.put, List.setIfInBounds_toArray, List.set_cons_zero, List.set_cons_succ]
        refine' wpT_det (o := ⟨some 40, Op.nilCheck (Operand.tmp 39), 0, "l04_values.go:43", #[{ on := 9, ground := Ground.data }], none⟩) rfl (by rfl) (by rfl) (fun w' hw' => ?_) ?_; rotate_left
        · go_simp <;> first | rfl | exact ⟨rfl, rfl⟩
        simp only [Act.put, List.setIfInBounds_toArray, List.set_cons_zero, List.set_cons_succ]
        refine' wpT_det (o := ⟨some 41, Op.fieldAddr 27 (Operand.tmp 40) 1, 0, "l04_values.go:43", #[{ on := 10, ground := Ground.data }], none⟩) rfl (by rfl) (by rfl) (fun w' hw' => ?_) ?_; rotate_left
        · go_simp <;> first | rfl | exact ⟨rfl, rfl⟩
        simp only [Act.put, List.setIfInBounds_toArray, List.set_cons_zero, List.set_cons_succ]
        refine' wpT_det (o := ⟨some 42, Op.load 22 (Operand.tmp 41), 22, "l04_values.go:43", #[{ on := 11, ground := Ground.data }], none⟩) rfl (by rfl) (by rfl) (fun w' hw' => ?_) ?_; rotate_left
        · have c1_ := Ext.cell hw' c1; have hcb_ := Ext.cell hw' hcb; go_simp <;> first | rfl | exact ⟨rfl, rfl⟩
        simp only [Act.put, List.setIfInBounds_toArray, List.set_cons_zero, List.set_cons_succ]
        refine' wpT_det (o := ⟨some 43, Op.move (Operand.tmp 8), 3, "l04_values.go:43", #[], none⟩) rfl (by rfl) (by rfl) (fun w' hw' => ?_) ?_; rotate_left
        · go_simp <;> first | rfl | exact ⟨rfl, rfl⟩
        simp only [Act.put, List.setIfInBounds_toArray, List.set_cons_zero, List.set_cons_succ]
        refine' wpT_det (o := ⟨some 44, Op.binOp BinOp.sub 3 (Operand.tmp 43) (Operand.const (Value.int IntKind.i64 1)) 3, 3, "l04_values.go:43", #[{ on := 13, ground := Ground.data }], none⟩) rfl (by rfl) (by rfl) (fun w' hw' => ?_) ?_; rotate_left
        · go_simp <;> first | rfl | exact ⟨rfl, rfl⟩
        simp only [Act.put, List.setIfInBounds_toArray, List.set_cons_zero, List.set_cons_succ]
        refine' wpT_det (o := ⟨some 45, Op.indexAddr 22 (Operand.tmp 42) (Operand.tmp 44), 0, "l04_values.go:43", #[{ on := 12, ground := Ground.data }, { on := 14, ground := Ground.data }], none⟩) rfl (by rfl) (by rfl) (fun w' hw' => ?_) ?_; rotate_left
        · go_simp <;> first | rfl | exact ⟨rfl, rfl⟩
        simp only [Act.put, List.setIfInBounds_toArray, List.set_cons_zero, List.set_cons_succ]
        refine' wpT_det (o := ⟨some 46, Op.load 39 (Operand.tmp 45), 39, "l04_values.go:43", #[{ on := 15, ground := Ground.data }], none⟩) rfl (by rfl) (by rfl) (fun w' hw' => ?_) ?_; rotate_left
        · have c1_ := Ext.cell hw' c1; have hcb_ := Ext.cell hw' hcb; go_simp <;> first | rfl | exact ⟨rfl, rfl⟩
        simp only [Act.put, List.setIfInBounds_toArray, List.set_cons_zero, List.set_cons_succ]
        refine wpT_nd (o := ⟨some 47, Op.binOp BinOp.mul 39 (Operand.tmp 38) (Operand.tmp 46) 39, 39, "l04_values.go:43", #[{ on := 8, ground := Ground.data }, { on := 16, ground := Ground.data }], none⟩) rfl (by rfl) (by rfl) (fun w' hw' hF R__ hGo => ?_) (by obtain ⟨r, hr⟩ := ex_d .mul (rfl : fop .mul .f32 (c32 (z)) (c32 (z)) = (fmul (c32 z) (c32 z))); exact ⟨_, r, rfl, hr⟩) ?_
        · exact gives_f .mul (.inr (.inr (.inl rfl))) _ _ _ _ rfl (z) (z) rfl rfl (fmul (c32 z) (c32 z)) rfl (fun r w2 hx hc => hGo _ _ hx ⟨r, rfl, hc⟩ trivial)
        rintro _ ⟨f17, rfl, hf17⟩
        simp only [Act.put, List.setIfInBounds_toArray, List.set_cons_zero, List.set_cons_succ]
        refine' wpT_det (o := ⟨some 48, Op.move (Operand.tmp 7), 39, "l04_values.go:43", #[], none⟩) rfl (by rfl) (by rfl) (fun w' hw' => ?_) ?_; rotate_left
        · go_simp <;> first | rfl | exact ⟨rfl, rfl⟩
        simp only [Act.put, List.setIfInBounds_toArray, List.set_cons_zero, List.set_cons_succ]
        refine wpT_nd (o := ⟨some 49, Op.binOp BinOp.quo 39 (Operand.tmp 47) (Operand.tmp 48) 39, 39, "l04_values.go:43", #[{ on := 17, ground := Ground.data }, { on := 18, ground := Ground.data }], none⟩) rfl (by rfl) (by rfl) (fun w' hw' hF R__ hGo => ?_) (by obtain ⟨r, hr⟩ := ex_d .quo ((by rw [← hf17]) : fop .quo .f32 (c32 (f17)) (c32 (p)) = (fdiv (fmul (c32 z) (c32 z)) (c32 p))); exact ⟨_, r, rfl, hr⟩) ?_
        · exact gives_f .quo (.inr (.inr (.inr rfl))) _ _ _ _ rfl (f17) (p) rfl rfl (fdiv (fmul (c32 z) (c32 z)) (c32 p)) (by rw [← hf17]) (fun r w2 hx hc => hGo _ _ hx ⟨r, rfl, hc⟩ trivial)
        rintro _ ⟨f19, rfl, hf19⟩
        simp only [Act.put, List.setIfInBounds_toArray, List.set_cons_zero, List.set_cons_succ]
        refine wpT_nd (o := ⟨some 50, Op.binOp BinOp.sub 39 (Operand.tmp 30) (Operand.tmp 49) 39, 39, "l04_values.go:43", #[{ on := 0, ground := Ground.data }, { on := 19, ground := Ground.data }], none⟩) rfl (by rfl) (by rfl) (fun w' hw' hF R__ hGo => ?_) (by obtain ⟨r, hr⟩ := ex_d .sub ((by rw [← hf19]) : fop .sub .f32 (c32 (r1)) (c32 (f19)) = (fop .sub .f32 (c32 r1) (fdiv (fmul (c32 z) (c32 z)) (c32 p)))); exact ⟨_, r, rfl, hr⟩) ?_
        · exact gives_f .sub (.inr (.inl rfl)) _ _ _ _ rfl (r1) (f19) rfl rfl (fop .sub .f32 (c32 r1) (fdiv (fmul (c32 z) (c32 z)) (c32 p))) (by rw [← hf19]) (fun r w2 hx hc => hGo _ _ hx ⟨r, rfl, hc⟩ trivial)
        rintro _ ⟨f20, rfl, hf20⟩
        simp only [Act.put, List.setIfInBounds_toArray, List.set_cons_zero, List.set_cons_succ]
        refine wpT_nil (fun w5 hw' hF => ?_)
        show wpList _ _ _ [(⟨some 9, Op.assign (Operand.tmp 50), 39, "l04_values.go:43", #[{ on := 20, ground := Ground.data }, { on := 0, ground := Ground.phase }, { on := 1, ground := Ground.phase }, { on := 2, ground := Ground.phase }, { on := 3, ground := Ground.phase }, { on := 4, ground := Ground.phase }, { on := 5, ground := Ground.phase }, { on := 6, ground := Ground.phase }, { on := 7, ground := Ground.phase }, { on := 8, ground := Ground.phase }, { on := 9, ground := Ground.phase }, { on := 10, ground := Ground.phase }, { on := 11, ground := Ground.phase }, { on := 12, ground := Ground.phase }, { on := 13, ground := Ground.phase }, { on := 14, ground := Ground.phase }, { on := 15, ground := Ground.phase }, { on := 16, ground := Ground.phase }, { on := 17, ground := Ground.phase }, { on := 18, ground := Ground.phase }, { on := 19, ground := Ground.phase }, { on := 20, ground := Ground.phase }], none⟩ : Oper)] _ _
        have hx5 := hw'.undrew
        clear hF hw' c0 c1 hca hcb
        have hraw : c32 f20 = rawF xs ys x i (pivF xs ys x i) := by unfold rawF; rw [if_neg hi0, ← HQ.out, ← HZ.out, ← HP.out.1, hf20]; exact congrArg (fun t => fop .sub .f32 t _) hc1
        have hex := (hx.trans hx1).trans hx5
        cases he : eq0 (c32 f20) with
        | true =>
          have hpv := pivF_mend hraw he
          have hnn : (FloatKind.f32.format.order 2155872256 2155872256 != some .eq) = false := by decide
          have hll : (FloatKind.f32.format.order 2155872256 0 == some .lt) = true := by decide
          have hl := negC_lt (xs := xs) (ys := ys) (x := x) (i := i) (by rw [hpv]; decide)
          rw [← eq0_c32] at he
          have HP' := HP.out.next (hpv ▸ c32_tiny) (by decide)
          clear hpv hraw
          go_wp2_with fail
          go_roundw
          case rel => exact ⟨i + 1, _, by omega, by rw [hl, ← HN.out]; go_num, rfl, by go_num, HP', hex⟩
          case measure => simp [intOf]; omega
        | false =>
          have hpv := pivF_keep hraw he
          rw [← eq0_c32] at he
          cases hn : (c32 f20).isNone with
          | true =>
            have hd := belowD_bad (xs := xs) (ys := ys) (x := x) (j := i) (by rw [HL.out]; exact hlt) (by rw [hpv]; exact hn)
            rw [← ne_self] at hn
            clear hpv hraw
            go_wp2_with fail
            go_ret2
            exact ⟨by rw [Hd.out, hd]; rfl, hex⟩
          | false =>
            have HP' := HP.out.next hpv.symm hn
            rw [← ne_self] at hn
            cases hll : lt0 (c32 f20) with
            | true =>
              have hl := negC_lt (xs := xs) (ys := ys) (x := x) (i := i) (by rw [hpv]; exact hll)
              rw [← lt0_c32] at hll
              clear hpv hraw
              go_wp2_with fail
              go_roundw
              case rel => exact ⟨i + 1, _, by omega, by rw [hl, ← HN.out]; go_num, rfl, by go_num, HP', hex⟩
              case measure => simp [intOf]; omega
            | false =>
              have hl := negC_ge (xs := xs) (ys := ys) (x := x) (i := i) (by rw [hpv]; exact hll)
              rw [← lt0_c32] at hll
              clear hpv hraw
              go_wp2_with fail
              go_roundw
              case rel => exact ⟨i + 1, _, by omega, by rw [hl, ← HN.out], rfl, by go_num, HP', hex⟩
              case measure => simp [intOf]; omega
    · obtain rfl : i = n := by omega
      have hd := belowD_good (xs := xs) (ys := ys) (x := x) (by rw [HL.out]; exact HP.out.2)
      go_wp2_with fail
      go_ret2
      exact ⟨by rw [Hd.out, hd, HL.out, ← HN.out]; rfl, hx⟩
end Go.Proofs.Ytgjfdfmbknmpaaa
