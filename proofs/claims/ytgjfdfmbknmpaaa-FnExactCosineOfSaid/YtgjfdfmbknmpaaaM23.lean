import Derived.Test.YtgjfdfmbknmpaaaM21
import Derived.Test.YtgjfdfmbknmpaaaM22
set_option linter.unusedVariables false
set_option linter.unusedSimpArgs false
namespace Go.Proofs.Ytgjfdfmbknmpaaa
open Go.RowKit

def unitF (vs : List Nat) (long : Option Nat) (m : Nat) : List (Option Nat) := (List.range m).map fun (i : Nat) => fdiv (c32 (rdf vs i)) long
theorem unitF_succ (vs : List Nat) (long : Option Nat) (m : Nat) : unitF vs long (m + 1) = unitF vs long m ++ [fdiv (c32 (rdf vs m)) long] := by unfold unitF; rw [List.range_succ, List.map_append]; rfl
def sqL (vs : List Nat) : Option Nat := dotL vs vs vs.length
/-- What UnitVector answers. -/
def unitD (vs : List Nat) : List Nat × Bool := if isVec vs && (finO (sqL vs) && gt0 (sqL vs)) then giveL (unitF vs (rootF (sqL vs)) vs.length) else ([], false)
theorem uD_bad {vs : List Nat} (h : (isVec vs && (finO (sqL vs) && gt0 (sqL vs))) = false) : unitD vs = ([], false) := by unfold unitD; rw [h]; rfl

set_option maxRecDepth 20000 in
set_option maxHeartbeats 2000000 in
theorem implUnitVector_any (A : Option Addr) (n cap : Nat) (vs : List Nat) (w : World) (hr : Rds w A n (flts vs)) :
    Calls Try.prog 81 #[.slice A n cap] w (RetLD w (unitD vs)) := by
  have hl := hr.flen
  have hsm := hr.small
  have hsq : Hid (sqL vs = dotL vs vs n) := by show _ = _; unfold sqL; rw [hl]
  have HL := Lib.hid hl
  have hx0 : Ext w w := Ext.refl _
  clear hl
  cases hv : isVec vs with
  | false =>
    have hd := uD_bad (vs := vs) (by rw [hv]; rfl)
    go_enter Try.func81, Try.ntmps81
    go_upto_region 1 with (fail)
    go_wp2_with fail
    refine (IsVector_any A n cap vs _ hr).mono ?_
    rintro e w1 ⟨rfl, hx⟩
    rw [hv]
    replace hx0 := hx0.trans hx
    clear  hx
    go_wp2_with fail
    go_ret2
    exact RetLDb.bad hd hx0
  | true =>
    cases hf : finO (sqL vs) with
    | false =>
      have hd := uD_bad (vs := vs) (by rw [hv, hf]; rfl)
      go_enter Try.func81, Try.ntmps81
      go_upto_region 1 with (fail)
      go_wp2_with fail
      refine (IsVector_any A n cap vs _ hr).mono ?_
      rintro e w1 ⟨rfl, hx⟩
      rw [hv]
      replace hx0 := hx0.trans hx
      clear  hx
      go_wp2_with fail
      refine (dot_any A A n n cap cap vs vs _ (Nat.le_refl _) (hr.below hx0) (hr.below hx0)).mono ?_
      rintro e w2 ⟨s, rfl, hs, hx⟩
      replace hx0 := hx0.trans hx
      clear  hx
      rw [← hsq.out] at hs
      have hfs : isFin .f32 s = false := by rw [← finO_cf, hs, hf]
      go_wp2_with fail
      refine (IsFinite_any s _).mono ?_
      rintro e w3 ⟨rfl, hx⟩
      rw [hfs]
      replace hx0 := hx0.trans hx
      clear  hx
      go_wp2_with fail
      go_ret2
      exact RetLDb.bad hd hx0
    | true =>
      cases hg : gt0 (sqL vs) with
      | false =>
        have hd := uD_bad (vs := vs) (by rw [hv, hf, hg]; rfl)
        go_enter Try.func81, Try.ntmps81
        go_upto_region 1 with (fail)
        go_wp2_with fail
        refine (IsVector_any A n cap vs _ hr).mono ?_
        rintro e w1 ⟨rfl, hx⟩
        rw [hv]
        replace hx0 := hx0.trans hx
        clear  hx
        go_wp2_with fail
        refine (dot_any A A n n cap cap vs vs _ (Nat.le_refl _) (hr.below hx0) (hr.below hx0)).mono ?_
        rintro e w2 ⟨s, rfl, hs, hx⟩
        replace hx0 := hx0.trans hx
        clear  hx
        rw [← hsq.out] at hs
        have hfs : isFin .f32 s = true := by rw [← finO_cf, hs, hf]
        have hgs : (FloatKind.f32.format.order s 0 == some .gt) = false := by rw [gt0_c32, hs, hg]
        go_wp2_with fail
        refine (IsFinite_any s _).mono ?_
        rintro e w3 ⟨rfl, hx⟩
        rw [hfs]
        replace hx0 := hx0.trans hx
        clear  hx
        go_wp2_with fail
        go_ret2
        exact RetLDb.bad hd hx0
      | true =>
        obtain ⟨d, hd⟩ : ∃ d, d = unitD vs := ⟨_, rfl⟩
        have hd' : d = giveL (unitF vs (rootF (sqL vs)) n) := by rw [hd]; simp [unitD, hv, hf, hg, HL.out]
        have HD := Lib.hid hd'
        rw [← hd]
        clear hd hd'
        go_enter Try.func81, Try.ntmps81
        go_upto_region 1 with (fail)
        go_wp2_with fail
        refine (IsVector_any A n cap vs _ hr).mono ?_
        rintro e w1 ⟨rfl, hx⟩
        rw [hv]
        replace hx0 := hx0.trans hx
        clear  hx
        go_wp2_with fail
        refine (dot_any A A n n cap cap vs vs _ (Nat.le_refl _) (hr.below hx0) (hr.below hx0)).mono ?_
        rintro e w2 ⟨s, rfl, hs, hx⟩
        replace hx0 := hx0.trans hx
        clear  hx
        rw [← hsq.out] at hs
        have hfs : isFin .f32 s = true := by rw [← finO_cf, hs, hf]
        have hgs : (FloatKind.f32.format.order s 0 == some .gt) = true := by rw [gt0_c32, hs, hg]
        go_wp2_with fail
        refine (IsFinite_any s _).mono ?_
        rintro e w3 ⟨rfl, hx⟩
        rw [hfs]
        replace hx0 := hx0.trans hx
        clear  hx
        go_wp2_with fail
        refine (RootNumber_any s _).mono ?_
        rintro e w4 ⟨l, rfl, hlo, hx⟩
        rw [hs] at hlo
        have hst : LO w3 [] 0 (.slice (some ⟨w3.heap.size, 0, none⟩) 0 0) w4 := by
          obtain ⟨A1, c1, ys, h1, h2, h3, h4⟩ := LO.start w3
          exact ⟨A1, c1, ys, h1, h2, h3.ext hx, h4.trans hx⟩
        clear hx
        go_wp2_with fail
        go_loopw [5, 28] (fun u v wr => ∃ i : Nat, i ≤ n ∧ v = .int .i64 i ∧ LO w3 (unitF vs (rootF (sqL vs)) i) i u wr) (fun _ v _ => n - (intOf v).toNat)
        case atStart => exact ⟨0, Nat.zero_le _, rfl, hst⟩
        case round =>
          clear hst
          obtain ⟨i, hi, rfl, A', c, ys, hy, rfl, ho, hx⟩ := hrel
          have hn256 : n ≤ 256 := by
            have := hv
            unfold isVec at this
            simp only [Bool.and_eq_true] at this
            have := inR_iff.1 this.1
            have := HL.out
            omega
          by_cases hlt : i < n
          · obtain ⟨ad, rfl, hca⟩ := ((hr.below hx0).below hx).fltN i hlt
            obtain ⟨r, w5, hrr, hx5, hc⟩ := run_fop (P := Try.prog) wr .quo (.inr (.inr (.inr rfl))) 39 .f32 (rdf vs i) l
            replace ho := ho.ext hx5
            replace hx := hx.trans hx5
            have ho' := ho.ext ((Ext.refl w5).alloc (.cells #[.float .f32 (r)] 39))
            have hsz := hx.size
            have hl := ho.len
            go_wp2_with (first | simp only [hrr] | (at_builtin; go_loud (refine wpList_app1 rfl _ _ _ rfl (w5.alloc (.cells #[.float .f32 (r)] 39)) w3.heap.size 39 (.float .f32 0) 4 Try.underlying22 info_f32 rfl (by decide) (.slice A' i c) (flts ys) rfl w5.heap.size (.float .f32 (r)) rfl (One.new _ _ _) ho' rfl (by omega) (by simp; omega) ?_); rw [hl]; intro A' c' w6 h5 h6 h7))
            go_roundw
            case rel =>
              refine ⟨i + 1, by omega, by go_num, _, _, ys ++ [r], ?_, rfl, ?_, h6.ext (hx.alloc _) ho'⟩
              · rw [cfs_append, hy, unitF_succ]
                have : c32 r = fdiv (c32 (rdf vs i)) (rootF (sqL vs)) := hc.trans (by show fop .quo .f32 _ (c32 l) = _; rw [hlo])
                rw [← this]; rfl
              · rw [flts_append]; exact h5
            case measure => simp [intOf]; omega
          · obtain rfl : i = n := by omega
            go_wp2_with fail
            refine (allFinite_any w3.heap.size A' i c ys _ ho hx.size).mono ?_
            rw [hy, ← HD.out]
            rintro e w4 ⟨A2, k2, rfl, ho2, hx2⟩
            go_wp2_with fail
            go_ret2
            exact ⟨A2, k2, rfl, ho2.base hx0.size, (hx0.trans hx).trans hx2⟩

theorem spec_test (vs : List Nat) : ∃ s, c32 s = sqL vs := ex_dot _ _ _
theorem test_eq (vs : List Nat) : (finO (sqL vs) && gt0 (sqL vs)) = (gt0 (rootF (sqL vs)) && finO (rootF (sqL vs))) := by
  obtain ⟨s, hs⟩ := spec_test vs
  rw [← hs]
  exact root_test s
/-- A list, and whether the long is finite. -/
def RetUnit (w : World) (vs : List Nat) (n : Nat) (e : Ending) (w' : World) : Prop :=
  if gt0 (rootF (sqL vs)) = true then ∃ A k ys, cfs ys = unitF vs (rootF (sqL vs)) n ∧ e = .returned (.tuple #[.slice A n k, .bool (finO (rootF (sqL vs)))]) ∧ Own w' w.heap.size 39 (.slice A n k) (flts ys) ∧ Ext w w'
  else e = .returned (.tuple #[.slice none 0 0, .bool false]) ∧ Ext w w'

set_option maxRecDepth 20000 in
set_option maxHeartbeats 2000000 in
theorem l04Unit_any (A : Option Addr) (n cap : Nat) (vs : List Nat) (w : World) (hn : n ≤ 256) (hr : Rds w A n (flts vs)) :
    Calls Try.prog 151 #[.slice A n cap] w (RetUnit w vs n) := by
  have hl := hr.flen
  have hsq : Hid (sqL vs = dotL vs vs n) := by show _ = _; unfold sqL; rw [hl]
  have hx0 : Ext w w := Ext.refl _
  clear hl
  unfold RetUnit
  cases hg : gt0 (rootF (sqL vs)) with
  | false =>
    simp only [Bool.false_eq_true, if_false]
    go_enter Try.func151, Try.ntmps151
    go_upto_region 1 with (fail)
    go_wp2_with fail
    refine (l02Dot_any A A n n cap cap vs vs _ (Nat.le_refl _) (hr.below hx0) (hr.below hx0)).mono ?_
    rintro e w2 ⟨s, rfl, hs, hx⟩
    replace hx0 := hx0.trans hx
    clear  hx
    rw [← hsq.out] at hs
    go_wp2_with fail
    refine (l01Sqrt_any s _).mono ?_
    rintro e w3 ⟨l, rfl, hlo, hx⟩
    replace hx0 := hx0.trans hx
    clear  hx
    rw [hs] at hlo
    have hgs : (FloatKind.f32.format.order l 0 == some .gt) = false := by rw [gt0_c32, hlo, hg]
    go_wp2_with fail
    go_ret2
    exact ⟨rfl, hx0⟩
  | true =>
    simp only [if_true]
    go_enter Try.func151, Try.ntmps151
    go_upto_region 1 with (fail)
    go_wp2_with fail
    refine (l02Dot_any A A n n cap cap vs vs _ (Nat.le_refl _) (hr.below hx0) (hr.below hx0)).mono ?_
    rintro e w2 ⟨s, rfl, hs, hx⟩
    replace hx0 := hx0.trans hx
    clear  hx
    rw [← hsq.out] at hs
    go_wp2_with fail
    refine (l01Sqrt_any s _).mono ?_
    rintro e w3 ⟨l, rfl, hlo, hx⟩
    replace hx0 := hx0.trans hx
    clear  hx
    rw [hs] at hlo
    have hgs : (FloatKind.f32.format.order l 0 == some .gt) = true := by rw [gt0_c32, hlo, hg]
    go_wp2_with fail
    go_loopw [5, 6] (fun u v wr => ∃ i : Nat, i ≤ n ∧ v = .int .i64 i ∧ LO w3 (unitF vs (rootF (sqL vs)) i) i u wr) (fun _ v _ => n - (intOf v).toNat)
    case atStart => exact ⟨0, Nat.zero_le _, rfl, LO.start w3⟩
    case round =>
      obtain ⟨i, hi, rfl, A', c, ys, hy, rfl, ho, hx⟩ := hrel
      by_cases hlt : i < n
      · obtain ⟨ad, rfl, hca⟩ := ((hr.below hx0).below hx).fltN i hlt
        obtain ⟨r, w5, hrr, hx5, hc⟩ := run_fop (P := Try.prog) wr .quo (.inr (.inr (.inr rfl))) 39 .f32 (rdf vs i) l
        replace ho := ho.ext hx5
        replace hx := hx.trans hx5
        have ho' := ho.ext ((Ext.refl w5).alloc (.cells #[.float .f32 (r)] 39))
        have hsz := hx.size
        have hl := ho.len
        go_wp2_with (first | simp only [hrr] | (at_builtin; go_loud (refine wpList_app1 rfl _ _ _ rfl (w5.alloc (.cells #[.float .f32 (r)] 39)) w3.heap.size 39 (.float .f32 0) 4 Try.underlying22 info_f32 rfl (by decide) (.slice A' i c) (flts ys) rfl w5.heap.size (.float .f32 (r)) rfl (One.new _ _ _) ho' rfl (by omega) (by simp; omega) ?_); rw [hl]; intro A' c' w6 h5 h6 h7))
        go_roundw
        case rel =>
          refine ⟨i + 1, by omega, by go_num, _, _, ys ++ [r], ?_, rfl, ?_, h6.ext (hx.alloc _) ho'⟩
          · rw [cfs_append, hy, unitF_succ]
            have : c32 r = fdiv (c32 (rdf vs i)) (rootF (sqL vs)) := hc.trans (by show fop .quo .f32 _ (c32 l) = _; rw [hlo])
            rw [← this]; rfl
          · rw [flts_append]; exact h5
        case measure => simp [intOf]; omega
      · obtain rfl : i = n := by omega
        go_wp2_with fail
        refine (l01Finite_any l _).mono ?_
        rintro e w4 ⟨rfl, hx2⟩
        have hfl : isFin .f32 l = finO (rootF (sqL vs)) := by rw [← finO_cf, hlo]
        rw [hfl]
        go_wp2_with fail
        go_ret2
        exact ⟨A', c, ys, hy, rfl, (ho.ext hx2).base hx0.size, (hx0.trans hx).trans hx2⟩

set_option maxRecDepth 20000 in
set_option maxHeartbeats 2000000 in
theorem specUnitVector_any (A : Option Addr) (n cap : Nat) (vs : List Nat) (w : World) (hr : Rds w A n (flts vs)) :
    Calls Try.prog 80 #[.slice A n cap] w (RetLD w (unitD vs)) := by
  have HL := Lib.hid hr.flen
  have hx0 : Ext w w := Ext.refl _
  have ht := test_eq vs
  cases hv : isVec vs with
  | false =>
    have hd := uD_bad (vs := vs) (by rw [hv]; rfl)
    clear ht
    go_enter Try.func80, Try.ntmps80
    go_upto_region 1 with (fail)
    go_wp2_with fail
    refine (l02Vector_any A n cap vs _ hr).mono ?_
    rintro e w1 ⟨rfl, hx⟩
    rw [hv]
    replace hx0 := hx0.trans hx
    clear  hx
    go_wp2_with fail
    go_ret2
    exact RetLDb.bad hd hx0
  | true =>
    have hn256 : n ≤ 256 := by
      have := hv
      unfold isVec at this
      simp only [Bool.and_eq_true] at this
      have := inR_iff.1 this.1
      have := HL.out
      omega
    cases hg : gt0 (rootF (sqL vs)) with
    | false =>
      have hd := uD_bad (vs := vs) (by rw [ht, hv, hg]; rfl)
      clear ht
      go_enter Try.func80, Try.ntmps80
      go_upto_region 1 with (fail)
      go_wp2_with fail
      refine (l02Vector_any A n cap vs _ hr).mono ?_
      rintro e w1 ⟨rfl, hx⟩
      rw [hv]
      replace hx0 := hx0.trans hx
      clear  hx
      go_wp2_with fail
      refine (l04Unit_any A n cap vs _ hn256 (hr.below hx0)).mono ?_
      simp only [RetUnit, hg, Bool.false_eq_true, if_false]
      rintro e w2 ⟨rfl, hx⟩
      go_wp2_with fail
      go_ret2
      exact RetLDb.bad hd (hx0.trans hx)
    | true =>
      cases hf : finO (rootF (sqL vs)) with
      | false =>
        have hd := uD_bad (vs := vs) (by rw [ht, hv, hg, hf]; rfl)
        clear ht
        go_enter Try.func80, Try.ntmps80
        go_upto_region 1 with (fail)
        go_wp2_with fail
        refine (l02Vector_any A n cap vs _ hr).mono ?_
        rintro e w1 ⟨rfl, hx⟩
        rw [hv]
        replace hx0 := hx0.trans hx
        clear  hx
        go_wp2_with fail
        refine (l04Unit_any A n cap vs _ hn256 (hr.below hx0)).mono ?_
        simp only [RetUnit, hg, hf, if_true]
        rintro e w2 ⟨A1, k1, ys, hy, rfl, ho, hx⟩
        go_wp2_with fail
        go_ret2
        exact RetLDb.bad hd (hx0.trans hx)
      | true =>
        obtain ⟨d, hd⟩ : ∃ d, d = unitD vs := ⟨_, rfl⟩
        have hd' : d = giveL (unitF vs (rootF (sqL vs)) n) := by rw [hd]; unfold unitD; rw [ht, hv, hg, hf, HL.out]; rfl
        have HD := Lib.hid hd'
        rw [← hd]
        clear hd hd' ht
        go_enter Try.func80, Try.ntmps80
        go_upto_region 1 with (fail)
        go_wp2_with fail
        refine (l02Vector_any A n cap vs _ hr).mono ?_
        rintro e w1 ⟨rfl, hx⟩
        rw [hv]
        replace hx0 := hx0.trans hx
        clear  hx
        go_wp2_with fail
        refine (l04Unit_any A n cap vs _ hn256 (hr.below hx0)).mono ?_
        simp only [RetUnit, hg, hf, if_true]
        rintro e w2 ⟨A1, k1, ys, hy, rfl, ho, hx⟩
        have ho' := ho.base hx0.size
        replace hx0 := hx0.trans hx
        clear hx ho
        go_wp2_with fail
        refine (l02List_any w.heap.size A1 n k1 ys _ ho' hx0.size).mono ?_
        rw [hy, ← HD.out]
        rintro e w4 ⟨A2, k2, rfl, ho2, hx2⟩
        go_wp2_with fail
        go_ret2
        exact ⟨A2, k2, rfl, ho2, hx0.trans hx2⟩

end Go.Proofs.Ytgjfdfmbknmpaaa
