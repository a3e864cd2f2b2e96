import Derived.Test.YtgjfdfmbknmpaaaM11
import Derived.Test.YtgjfdfmbknmpaaaM33
import Derived.Test.YtgjfdfmbknmpaaaM34
set_option linter.unusedVariables false
set_option linter.unusedSimpArgs false
namespace Go.Proofs.Ytgjfdfmbknmpaaa
open Go.RowKit

/-- The sum of the sizes of a row; the greater of two. -/
def rsF (xs : List Nat) (C i : Nat) : Nat → Option Nat
  | 0 => some 0
  | k + 1 => fadd (rsF xs C i k) (some (absW (at_ xs C i k)))
def big (a s : Option Nat) : Option Nat := if fcmp s a == some .gt then s else a
def rnF (xs : List Nat) (C : Nat) : Nat → Option Nat
  | 0 => some 0
  | i + 1 => big (rnF xs C i) (rsF xs C i C)
theorem rdf_wf {xs : List Nat} (h : ∀ x ∈ xs, x < 4294967296) (i : Int) : rdf xs i < 4294967296 := by
  unfold rdf
  rw [List.getD_eq_getElem?_getD]
  cases hx : xs[i.toNat]? with
  | none => show 0 < _; omega
  | some v => exact h v (List.mem_of_getElem? hx)
theorem nn_step {a s x r : Nat} {L : Option Nat} (hs : c32 s = L) (hn : Nn s) (hf : isFin .f32 x = true) (ha : c32 a = some (absW x)) (hc : c32 r = fadd (c32 s) (c32 a)) : c32 r = fadd L (some (absW x)) ∧ Nn r := by
  refine ⟨by rw [hc, hs, ha], ?_⟩
  obtain ⟨q, h1, h2⟩ := nn_add hn (nn_abs hf)
  have h1' : fadd (some s) (some (absW x)) = some q := h1
  rw [nn_c32 hn, ha, h1'] at hc
  obtain ⟨rfl, _⟩ := cf_some hc
  exact h2

set_option maxRecDepth 20000 in
set_option maxHeartbeats 4000000 in
theorem l02RowNorm_any (b R C n cap : Nat) (A : Option Addr) (xs : List Nat) (w : World) (hR : R ≤ 12) (hC : C ≤ 12) (hn : n = R * C) (ha : MAt w b R C A n cap xs) (hf : ∀ i k, i < R → k < C → isFin .f32 (at_ xs C i k) = true) (hwf : ∀ x ∈ xs, x < 4294967296) :
    Calls Try.prog 122 #[.pointer (some ⟨b, 0, none⟩)] w (RetF w (rnF xs C R)) := by
  have Hn := Lib.hid hn
  clear hn
  go_enter Try.func122, Try.ntmps122
  go_upto_region 1 with (fail)
  go_wp2_with fail
  go_loopw [3, 4] (fun u v wr => ∃ i : Nat, i ≤ R ∧ v = .int .i64 i ∧ ∃ s, u = .float .f32 s ∧ c32 s = rnF xs C i ∧ Nn s ∧ Ext w wr) (fun _ v _ => R - (intOf v).toNat)
  case atStart => exact ⟨0, Nat.zero_le _, rfl, 0, rfl, c32_0, Nat.zero_le _, Ext.refl _⟩
  case round =>
    obtain ⟨i, hi, rfl, s, rfl, hs, hns, hx⟩ := hrel
    have c0 := (ha.ext hx).c0
    by_cases hlt : i < R
    · go_wp2_with fail
      go_loopw [5, 6] (fun u v wr => ∃ k : Nat, k ≤ C ∧ v = .int .i64 k ∧ ∃ t, u = .float .f32 t ∧ c32 t = rsF xs C i k ∧ Nn t ∧ Ext w wr) (fun _ v _ => C - (intOf v).toNat)
      case atStart => exact ⟨0, Nat.zero_le _, rfl, 0, rfl, c32_0, Nat.zero_le _, hx⟩
      case round =>
        clear hx c0
        obtain ⟨k, hk, rfl, t, rfl, ht, hnt, hx⟩ := hrel
        have c1 := (ha.ext hx).c1
        by_cases hlk : k < C
        · go_wp2_with fail
          refine (l02At_any b R C i k n cap A xs _ hlt hlk hR hC Hn.out (ha.ext hx)).mono ?_
          rintro e w2 ⟨rfl, hx2⟩
          clear c1
          go_wp2_with fail
          refine (l02Size_any _ (rdf_wf hwf _) (hf i k hlt hlk) _).mono ?_
          rintro e w3 ⟨a, rfl, hao, hx3⟩
          obtain ⟨r, w4, hrr, hx4, hc⟩ := run_fop (P := Try.prog) w3 .add (.inl rfl) 39 .f32 t a
          obtain ⟨h1, h2⟩ := nn_step ht hnt (hf i k hlt hlk) hao hc
          go_wp2_with (simp only [hrr])
          go_roundw
          case rel => exact ⟨k + 1, by omega, by go_num, r, rfl, h1, h2, ((hx.trans hx2).trans hx3).trans hx4⟩
          case measure => simp [intOf]; omega
        · obtain rfl : k = C := by omega
          have hb : rnF xs k (i + 1) = big (c32 s) (c32 t) := by rw [rnF, hs, ht]
          cases hg : (FloatKind.f32.format.order t s == some .gt) with
          | true =>
            have hb' : rnF xs k (i + 1) = c32 t := by rw [hb, big, fcmp_cf, hg, if_pos rfl]
            go_wp2_with fail
            go_roundw
            case rel => exact ⟨i + 1, by omega, by go_num, t, rfl, hb'.symm, hnt, hx⟩
            case measure => simp [intOf]; omega
          | false =>
            have hb' : rnF xs k (i + 1) = c32 s := by rw [hb, big, fcmp_cf, hg, if_neg (by simp)]
            go_wp2_with fail
            go_roundw
            case rel => exact ⟨i + 1, by omega, by go_num, s, rfl, hb'.symm, hns, hx⟩
            case measure => simp [intOf]; omega
    · obtain rfl : i = R := by omega
      go_wp2_with fail
      go_ret
      exact ⟨s, rfl, hs, hx⟩

theorem fin_nn {x : Nat} (h : isFin .f32 x = true) : (FloatKind.f32.format.read x).isNaN = false := by
  unfold isFin at h
  split at h
  · rename_i hd; rw [hd]; rfl
  · cases h

theorem nn_swap {x y : Nat} (hx : Nn x) (hy : Nn y) : FloatKind.f32.format.order y x = (FloatKind.f32.format.order x y).map Ordering.swap := by
  unfold Ieee.Format.order
  rcases read_nn hx with ⟨m, e, h1⟩ | h1 <;> rcases read_nn hy with ⟨m', e', h2⟩ | h2 <;> rw [h1, h2]
  · simp only [Ieee.Datum.order, Option.map_some]
    rw [Int.min_comm e' e, Int.compare_swap]
  · rfl
  · rfl
  · rfl
theorem nn_sign {x : Nat} (hx : Nn x) : (FloatKind.f32.decode x).neg = false := by
  show (FloatKind.f32.format.read x).neg = false
  rcases read_nn hx with ⟨m, e, h1⟩ | h1 <;> rw [h1] <;> rfl
theorem run_max {P : Program} (ts : Array TypeId) (ty : TypeId) {s t : Nat} (w : World) (hs : Nn s) (ht : Nn t) :
    (Builtin.max_ ts ty #[.float .f32 s, .float .f32 t]).run P w = .ok (.float .f32 (if FloatKind.f32.format.order t s == some .gt then t else s)) w := by
  obtain ⟨o, ho⟩ := nn_order hs ht
  rw [nn_swap hs ht, ho]
  show (List.foldlM Builtin.max2 (.float .f32 s) [.float .f32 t]).run P w = _
  simp only [List.foldlM_cons, List.foldlM_nil, Builtin.max2, ho, nn_sign hs]
  cases o <;> rfl

set_option maxRecDepth 20000 in
set_option maxHeartbeats 4000000 in
theorem rowNorm_any (R C n cap : Nat) (A : Option Addr) (xs : List Nat) (w : World) (hR : R ≤ 12) (hC : C ≤ 12) (hn : n = R * C) (hr : Rds w A n (flts xs)) (hf : ∀ i k, i < R → k < C → isFin .f32 (at_ xs C i k) = true) :
    Calls Try.prog 124 #[.agg #[.int .i64 R, .int .i64 C, .slice A n cap]] w (RetF w (rnF xs C R)) := by
  have Hn := Lib.hid hn
  clear hn
  go_enter Try.func124, Try.ntmps124
  go_upto_region 1 with (fail)
  obtain ⟨w0, hw0⟩ : ∃ w0, w0 = (w.alloc (.cells #[.int .i64 R, .int .i64 C, .slice A n cap] 35)) := ⟨_, rfl⟩
  have hx0 : Ext w w0 := by subst hw0; exact (Ext.refl _).alloc _
  have ba : Blk w0 (w.heap.size) #[.int .i64 R, .int .i64 C, .slice A n cap] 35 := by subst hw0; exact (Blk.new w _ _)
  rw [← hw0]
  clear hw0
  obtain ⟨c0, c1, c2, hr1⟩ := MAt.blk ba (hr.below hx0)
  go_wp2_with fail
  go_loopw [3, 9] (fun u v wr => ∃ i : Nat, i ≤ R ∧ v = .int .i64 i ∧ ∃ s, u = .float .f32 s ∧ c32 s = rnF xs C i ∧ Nn s ∧ Ext w0 wr) (fun _ v _ => R - (intOf v).toNat)
  case atStart => exact ⟨0, Nat.zero_le _, rfl, 0, rfl, c32_0, Nat.zero_le _, Ext.refl _⟩
  case round =>
    clear c0 c1 c2 hr1
    obtain ⟨i, hi, rfl, s, rfl, hs, hns, hx⟩ := hrel
    obtain ⟨c0, c1, c2, hr1⟩ := (MAt.blk ba (hr.below hx0)).ext hx
    by_cases hlt : i < R
    · go_wp2_with fail
      go_loopw [5, 14] (fun u v wr => ∃ k : Nat, k ≤ C ∧ v = .int .i64 k ∧ ∃ t, u = .float .f32 t ∧ c32 t = rsF xs C i k ∧ Nn t ∧ Ext w0 wr) (fun _ v _ => C - (intOf v).toNat)
      case atStart => exact ⟨0, Nat.zero_le _, rfl, 0, rfl, c32_0, Nat.zero_le _, hx⟩
      case round =>
        clear hx c0 c1 c2 hr1
        obtain ⟨k, hk, rfl, t, rfl, ht, hnt, hx⟩ := hrel
        obtain ⟨c0, c1, c2, hr1⟩ := (MAt.blk ba (hr.below hx0)).ext hx
        by_cases hlk : k < C
        · go_wp2_with fail
          refine (at_any R C i k n cap A xs _ hlt hlk hR hC Hn.out hr1).mono ?_
          rintro e w2 ⟨rfl, hx2⟩
          clear c0 c1 c2 hr1
          go_wp2_with fail
          refine (absolute_any _ (fin_nn (hf i k hlt hlk)) _).mono ?_
          rintro e w3 ⟨rfl, hx3⟩
          have hao : c32 (absW (at_ xs C i k)) = some (absW (at_ xs C i k)) := nn_c32 (nn_abs (hf i k hlt hlk))
          obtain ⟨r, w4, hrr, hx4, hc⟩ := run_fop (P := Try.prog) w3 .add (.inl rfl) 39 .f32 t (absW (at_ xs C i k))
          obtain ⟨h1, h2⟩ := nn_step ht hnt (hf i k hlt hlk) hao hc
          clear hao
          go_wp2_with (simp only [hrr])
          go_roundw
          case rel => exact ⟨k + 1, by omega, by go_num, r, rfl, h1, h2, ((hx.trans hx2).trans hx3).trans hx4⟩
          case measure => simp [intOf]; omega
        · obtain rfl : k = C := by omega
          have hb : rnF xs k (i + 1) = big (c32 s) (c32 t) := by rw [rnF, hs, ht]
          clear c0 c1 c2 hr1
          have hmx := run_max (P := Try.prog) #[39, 39] 39 wr hns hnt
          cases hg : (FloatKind.f32.format.order t s == some .gt) with
          | true =>
            have hb' : rnF xs k (i + 1) = c32 t := by rw [hb, big, fcmp_cf, hg, if_pos rfl]
            rw [hg, if_pos rfl] at hmx
            go_wp2_with (simp only [hmx])
            go_roundw
            case rel => exact ⟨i + 1, by omega, by go_num, t, rfl, hb'.symm, hnt, hx⟩
            case measure => simp [intOf]; omega
          | false =>
            have hb' : rnF xs k (i + 1) = c32 s := by rw [hb, big, fcmp_cf, hg, if_neg (by simp)]
            rw [hg, if_neg (by simp)] at hmx
            go_wp2_with (simp only [hmx])
            go_roundw
            case rel => exact ⟨i + 1, by omega, by go_num, s, rfl, hb'.symm, hns, hx⟩
            case measure => simp [intOf]; omega
    · obtain rfl : i = R := by omega
      clear c0 c1 c2 hr1
      go_wp2_with fail
      go_ret
      exact ⟨s, rfl, hs, hx0.trans hx⟩

end Go.Proofs.Ytgjfdfmbknmpaaa
