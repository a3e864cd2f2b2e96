import Derived.Test.YtgjfdfmbknmpaaaM11
import Derived.Lib.SliceRun
set_option linter.unusedVariables false
set_option linter.unusedSimpArgs false
namespace Go.Proofs.Ytgjfdfmbknmpaaa
open Go.RowKit

theorem flts_oneCell' (xs : List Nat) : ∀ u ∈ flts xs, u.oneCell' = true := by
  intro u hu
  unfold flts at hu
  rw [List.mem_map] at hu
  obtain ⟨x, _, rfl⟩ := hu
  rfl
theorem addr_add (a : Addr) (i j : Nat) : (a.add i).add j = a.add (i + j) := by
  unfold Addr.add
  by_cases hi : i = 0 <;> by_cases hj : j = 0 <;> simp [hi, hj, Nat.add_assoc]
theorem Rds.part {w : World} {ad : Addr} {n : Nat} {xs : List Nat} (h : Rds w (some ad) n (flts xs)) (lo len : Nat) (hl : lo + len ≤ n) : Rds w (some (ad.add lo)) len (flts ((xs.drop lo).take len)) := by
  have hx := h.flen
  refine ⟨by rw [flts_length]; simp; omega, by have := h.small; omega, fun hp => ⟨_, rfl, fun j hj => ?_⟩⟩
  obtain ⟨ad', he, hc⟩ := h.at' (by omega)
  obtain rfl := Option.some.inj he
  rw [addr_add, hc (lo + j) (by omega)]
  unfold flts
  rw [List.getElem?_map, List.getElem?_map, List.getElem?_take, if_pos hj, List.getElem?_drop]

/-- A row of a matrix. -/
def rowL (xs : List Nat) (C i : Nat) : List Nat := (xs.drop (i * C)).take C
theorem rowL_length {xs : List Nat} {C i : Nat} (h : i * C + C ≤ xs.length) : (rowL xs C i).length = C := by unfold rowL; simp; omega
theorem rowL_rd {xs : List Nat} {C i k : Nat} (h : i * C + C ≤ xs.length) (hk : k < C) : rdf (rowL xs C i) k = at_ xs C i k := by
  unfold at_ rdf rowL
  have e : ((i : Int) * C + k).toNat = i * C + k := by
    have : (i : Int) * C = ((i * C : Nat) : Int) := by simp
    omega
  rw [e]
  simp [List.getD, List.getElem?_take, hk, List.getElem?_drop]
theorem row_le {R C i n : Nat} (hn : n = R * C) (hi : i < R) : i * C + C ≤ n := by
  have h : (i + 1) * C ≤ R * C := Nat.mul_le_mul_right _ (by omega)
  rw [Nat.succ_mul] at h
  omega

set_option maxRecDepth 20000 in
set_option maxHeartbeats 1000000 in
theorem clone_any (ad : Addr) (n cap : Nat) (xs : List Nat) (w : World) (hr : Rds w (some ad) n (flts xs)) (hn : n ≤ 1048576) :
    Calls Try.prog 147 #[.slice (some ad) n cap] w fun e w' => ∃ A k, e = .returned (.slice A n k) ∧ Own w' w.heap.size 39 (.slice A n k) (flts xs) ∧ Ext w w' := by
  have q22 : ∀ (w : World) (a : Option Addr) (n c n' c' : Nat), (binOp .eql 22 (.slice a n c) (.slice none n' c')).run Try.prog w = .ok (.bool a.isNone) w := fun w a n c n' c' => Lib.run_eql_slice_nil w _ _ a n c n' c' Try.underlying22
  have x0 : Ext w (w.alloc (.cells #[] 39)) := (Ext.refl _).alloc _
  have o0 := Own.empty w 39
  have hl := hr.len
  have hc : Hid (∀ j u, (flts xs)[j]? = some u → w.cell? (ad.add j) = some u) := by
    intro j u hu
    have hj := (List.getElem?_eq_some_iff.1 hu).1
    obtain ⟨ad', he, hc⟩ := hr.at' (by omega)
    obtain rfl := Option.some.inj he
    rw [hc j (by omega), hu]
  have HL := Lib.hid hl
  clear hl
  go_enter Try.func147, Try.ntmps147
  go_wp2_with (at_builtin; go_loud (refine wpList_appN rfl _ _ _ rfl (w.alloc (.cells #[] 39)) w.heap.size 39 (.float .f32 0) 4 Try.underlying22 info_f32 rfl (by decide) (.slice (some ⟨w.heap.size, 0, none⟩) 0 0) [] rfl ad n cap (flts xs) rfl HL.out (fun j u hu => x0.cell (hc.out j u hu)) o0 (flts_oneCell' _) (by simp; omega) (by simp) ?_); rw [List.nil_append, List.length_nil, Nat.zero_add]; intro A1 c1 w1 h5 h6 _)
  go_ret
  exact ⟨A1, c1, rfl, h5, h6.ext x0 o0⟩

set_option maxRecDepth 20000 in
set_option maxHeartbeats 1000000 in
theorem row_any (R C i n cap : Nat) (A : Option Addr) (xs : List Nat) (w : World) (hi : i < R) (hR : R ≤ 12) (hC : C ≤ 12) (h1 : 1 ≤ C) (hn : n = R * C) (hcap : n ≤ cap) (hr : Rds w A n (flts xs)) :
    Calls Try.prog 183 #[.agg #[.int .i64 R, .int .i64 C, .slice A n cap], .int .i64 i] w fun e w' => ∃ A' k, e = .returned (.slice A' C k) ∧ Own w' w.heap.size 39 (.slice A' C k) (flts (rowL xs C i)) ∧ Ext w w' := by
  have hle := row_le hn hi
  have hm := Nat.mul_le_mul hR hC
  obtain ⟨ad, rfl, _⟩ := hr.fltN 0 (by omega)
  obtain ⟨q, hq⟩ : ∃ q, q = i * C := ⟨_, rfl⟩
  have e1 : IntKind.i64.wrap ((i : Int) * C) = (q : Int) := by
    have : (i : Int) * C = ((i * C : Nat) : Int) := by simp
    rw [this, ← hq]; exact IntWalk.i64_in _ (by omega)
  have e2 : IntKind.i64.wrap ((i : Int) + 1) = (i : Int) + 1 := IntWalk.i64_in _ (by omega)
  have e3 : IntKind.i64.wrap (((i : Int) + 1) * C) = ((q + C : Nat) : Int) := by
    have : ((i : Int) + 1) * C = (((i + 1) * C : Nat) : Int) := by simp
    rw [this, Nat.succ_mul, ← hq]; exact IntWalk.i64_in _ (by omega)
  have hx0 : Ext w (w.alloc (.cells #[.int .i64 R, .int .i64 C, .slice (some ad) n cap] 35)) := (Ext.refl _).alloc _
  have hp := (hr.below hx0).part q C (by omega)
  have hrow : rowL xs C i = (xs.drop q).take C := by unfold rowL; rw [hq]
  rw [hrow]
  have hq1 : (q : Int) ≤ ((q + C : Nat) : Int) := by omega
  have hq2 : ((q + C : Nat) : Int) ≤ cap := by omega
  have hq3 : ((q + C : Nat) : Int).toNat - (q : Int).toNat = C := by omega
  obtain ⟨z, hz⟩ : ∃ z, z = q + C := ⟨_, rfl⟩
  rw [← hz] at e3 hq1 hq2 hq3
  have hz0 : z - q = C := by omega
  have hzq : q ≤ z := by omega
  have hzc : z ≤ cap := by omega
  have Hz := Lib.hid hz
  clear hn hm hle hq hz hrow
  go_enter Try.func183, Try.ntmps183
  go_wp2_with fail
  refine (clone_any (ad.add q) C (cap - q) _ _ hp (by omega)).mono ?_
  rintro e w1 ⟨A', k, rfl, ho, hx⟩
  go_wp2_with fail
  go_ret
  exact ⟨A', k, rfl, ho.base hx0.size, hx0.trans hx⟩

/-- A column of a matrix. -/
def colL (xs : List Nat) (C k m : Nat) : List Nat := (List.range m).map fun i => at_ xs C i k
theorem colL_length (xs : List Nat) (C k m : Nat) : (colL xs C k m).length = m := by simp [colL]
theorem colL_succ (xs : List Nat) (C k m : Nat) : colL xs C k (m + 1) = colL xs C k m ++ [at_ xs C m k] := by unfold colL; rw [List.range_succ, List.map_append]; rfl
theorem colL_rd {xs : List Nat} {C k m i : Nat} (hi : i < m) : rdf (colL xs C k m) i = at_ xs C i k := by simp [rdf, colL, hi]

set_option maxRecDepth 20000 in
set_option maxHeartbeats 2000000 in
theorem column_any (R C k n cap : Nat) (A : Option Addr) (xs : List Nat) (w : World) (hk : k < C) (hR : R ≤ 12) (hC : C ≤ 12) (hn : n = R * C) (hr : Rds w A n (flts xs)) :
    Calls Try.prog 188 #[.agg #[.int .i64 R, .int .i64 C, .slice A n cap], .int .i64 k] w fun e w' => ∃ A' c, e = .returned (.slice A' R c) ∧ Own w' w.heap.size 39 (.slice A' R c) (flts (colL xs C k R)) ∧ Ext w w' := by
  have Hn := Lib.hid hn
  clear hn
  go_enter Try.func188, Try.ntmps188
  go_upto_region 1 with (fail)
  obtain ⟨w0, hw0⟩ : ∃ w0, w0 = w.alloc (.cells #[.int .i64 R, .int .i64 C, .slice A n cap] 35) := ⟨_, rfl⟩
  have hx0 : Ext w w0 := by subst hw0; exact (Ext.refl _).alloc _
  have ba : Blk w0 w.heap.size #[.int .i64 R, .int .i64 C, .slice A n cap] 35 := by subst hw0; exact Blk.new w _ _
  rw [← hw0]
  clear hw0
  obtain ⟨c0, c1, c2, hr1⟩ := (MAt.blk ba (hr.below hx0)).ext ((Ext.refl _).alloc (.cells #[] 39))
  go_wp2_with fail
  go_loopw [5, 10] (fun u v wr => ∃ i : Nat, i ≤ R ∧ v = .int .i64 i ∧ ∃ A' c, u = .slice A' i c ∧ Own wr w0.heap.size 39 (.slice A' i c) (flts (colL xs C k i)) ∧ Ext w0 wr) (fun _ v _ => R - (intOf v).toNat)
  case atStart => exact ⟨0, Nat.zero_le _, rfl, _, _, rfl, Own.empty _ _, (Ext.refl _).alloc _⟩
  case round =>
    clear c0 c1 c2 hr1
    obtain ⟨i, hi, rfl, A', c, rfl, ho, hx⟩ := hrel
    obtain ⟨c0, c1, c2, hr1⟩ := (MAt.blk ba (hr.below hx0)).ext hx
    by_cases hlt : i < R
    · go_wp2_with fail
      refine (at_any R C i k n cap A xs _ hlt hk hR hC Hn.out hr1).mono ?_
      rintro e w2 ⟨rfl, hx2⟩
      replace ho := ho.ext hx2
      replace hx := hx.trans hx2
      clear hx2 c0 c1 c2 hr1
      have ho' := ho.ext ((Ext.refl w2).alloc (.cells #[.float .f32 (at_ xs C i k)] 39))
      have hsz := hx.size
      have hl := ho.len
      go_wp2_with (at_builtin; go_loud (refine wpList_app1 rfl _ _ _ rfl (w2.alloc (.cells #[.float .f32 (at_ xs C i k)] 39)) w0.heap.size 39 (.float .f32 0) 4 Try.underlying22 info_f32 rfl (by decide) (.slice A' i c) (flts (colL xs C k i)) rfl w2.heap.size (.float .f32 (at_ xs C i k)) rfl (One.new _ _ _) ho' rfl (by omega) (by simp; omega) ?_); rw [hl]; intro A2 c2 w3 h5 h6 h7)
      go_roundw
      case rel =>
        refine ⟨i + 1, by omega, by go_num, A2, c2, rfl, ?_, h6.ext (hx.alloc _) ho'⟩
        rw [colL_succ, flts_append]
        exact h5
      case measure => simp [intOf]; omega
    · obtain rfl : i = R := by omega
      go_wp2_with fail
      go_ret
      exact ⟨A', c, rfl, ho.base hx0.size, hx0.trans hx⟩

/-- The sum of products, from the left. -/
def dotF (x y : Nat → Option Nat) : Nat → Option Nat
  | 0 => some 0
  | n + 1 => fadd (dotF x y n) (fmul (x n) (y n))
theorem dotF_congr {x y x' y' : Nat → Option Nat} : ∀ {n : Nat}, (∀ i, i < n → x i = x' i ∧ y i = y' i) → dotF x y n = dotF x' y' n
  | 0, _ => rfl
  | n + 1, h => by
    unfold dotF
    rw [dotF_congr (fun i hi => h i (by omega)), (h n (by omega)).1, (h n (by omega)).2]
theorem ex_dot (x y : Nat → Option Nat) (n : Nat) : ∃ r, c32 r = dotF x y n := by
  cases n with
  | zero => exact ⟨0, c32_0⟩
  | succ n => exact ex_fop _ _ _
def dotL (xs ys : List Nat) (n : Nat) : Option Nat := dotF (fun i => c32 (rdf xs i)) (fun i => c32 (rdf ys i)) n

set_option maxRecDepth 20000 in
set_option maxHeartbeats 2000000 in
theorem dot_any (A B : Option Addr) (n m cap cap' : Nat) (xs ys : List Nat) (w : World) (hnm : n ≤ m) (hr : Rds w A n (flts xs)) (hq : Rds w B m (flts ys)) :
    Calls Try.prog 152 #[.slice A n cap, .slice B m cap'] w (RetF w (dotL xs ys n)) := by
  have hs := hr.small
  go_enter Try.func152, Try.ntmps152
  go_wp2_with fail
  go_loopw [5, 10] (fun u v wr => ∃ i : Nat, i ≤ n ∧ v = .int .i64 i ∧ ∃ s, u = .float .f32 s ∧ c32 s = dotL xs ys i ∧ Ext w wr) (fun _ v _ => n - (intOf v).toNat)
  case atStart => exact ⟨0, Nat.zero_le _, rfl, 0, rfl, c32_0, Ext.refl _⟩
  case round =>
    obtain ⟨i, hi, rfl, s, rfl, hs', hx⟩ := hrel
    by_cases hlt : i < n
    · obtain ⟨ad, rfl, hca⟩ := (hr.below hx).fltN i hlt
      obtain ⟨ad', rfl, hcb⟩ := (hq.below hx).fltN i (by omega)
      have him : (i : Int) < m := by omega
      go_wp2_with fail
      refine (mul_any (rdf xs i) (rdf ys i) _).mono ?_
      rintro e w2 ⟨p, rfl, hp, hx2⟩
      obtain ⟨r, w3, hrr, hx3, hc⟩ := run_fop (P := Try.prog) w2 .add (.inl rfl) 39 .f32 s p
      clear hca hcb
      go_wp2_with (simp only [hrr])
      go_roundw
      case rel =>
        exact ⟨i + 1, by omega, by go_num, r, rfl, hc.trans (by show fadd (c32 s) (c32 p) = _; rw [hp, hs']; rfl), (hx.trans hx2).trans hx3⟩
      case measure => simp [intOf]; omega
    · obtain rfl : i = n := by omega
      go_wp2_with fail
      go_ret
      exact ⟨s, rfl, hs', hx⟩

set_option maxRecDepth 20000 in
set_option maxHeartbeats 2000000 in
theorem l02Dot_any (A B : Option Addr) (n m cap cap' : Nat) (xs ys : List Nat) (w : World) (hnm : n ≤ m) (hr : Rds w A n (flts xs)) (hq : Rds w B m (flts ys)) :
    Calls Try.prog 155 #[.slice A n cap, .slice B m cap'] w (RetF w (dotL xs ys n)) := by
  have hs := hr.small
  go_enter Try.func155, Try.ntmps155
  go_wp2_with fail
  go_loopw [5, 6] (fun u v wr => ∃ i : Nat, i ≤ n ∧ v = .int .i64 i ∧ ∃ s, u = .float .f32 s ∧ c32 s = dotL xs ys i ∧ Ext w wr) (fun _ v _ => n - (intOf v).toNat)
  case atStart => exact ⟨0, Nat.zero_le _, rfl, 0, rfl, c32_0, Ext.refl _⟩
  case round =>
    obtain ⟨i, hi, rfl, s, rfl, hs', hx⟩ := hrel
    by_cases hlt : i < n
    · obtain ⟨ad, rfl, hca⟩ := (hr.below hx).fltN i hlt
      obtain ⟨ad', rfl, hcb⟩ := (hq.below hx).fltN i (by omega)
      have him : (i : Int) < m := by omega
      go_wp2_with fail
      refine wp_region_T (cs := []) [0, 1, 2, 3, 4, 5, 6, 7, 8, 9, 10] [11] [9, 10] [] (fun i__ v => match i__ with | 9 => ∃ r, v = .float .f32 r ∧ c32 r = (fmul (c32 (rdf xs i)) (c32 (rdf ys i))) | 10 => ∃ r, v = .float .f32 r ∧ c32 r = (dotL xs ys (i + 1)) | _ => False) (fun _ _ _ => True) (by kernel_rfl) (by kernel_rfl) (fun _ _ _ _ _ _ => trivial) ?_
      refine' wpT_det (o := ⟨some 13, Op.move (Operand.tmp 5), 39, "l02_matrices.go:251", #[], none⟩) rfl (by rfl) (by rfl) (fun w' hw' => ?_) ?_; rotate_left
      · go_simp <;> first | rfl | exact ⟨rfl, rfl⟩
      simp only [Act.put, List.setIfInBounds_toArray, List.set_cons_zero, List.set_cons_succ]
      refine' wpT_det (o := ⟨some 14, Op.move (Operand.tmp 0), 22, "l02_matrices.go:251", #[], none⟩) rfl (by rfl) (by rfl) (fun w' hw' => ?_) ?_; rotate_left
      · go_simp <;> first | rfl | exact ⟨rfl, rfl⟩
      simp only [Act.put, List.setIfInBounds_toArray, List.set_cons_zero, List.set_cons_succ]
      refine' wpT_det (o := ⟨some 15, Op.move (Operand.tmp 6), 3, "l02_matrices.go:251", #[], none⟩) rfl (by rfl) (by rfl) (fun w' hw' => ?_) ?_; rotate_left
      · go_simp <;> first | rfl | exact ⟨rfl, rfl⟩
      simp only [Act.put, List.setIfInBounds_toArray, List.set_cons_zero, List.set_cons_succ]
      refine' wpT_det (o := ⟨some 16, Op.indexAddr 22 (Operand.tmp 14) (Operand.tmp 15), 0, "l02_matrices.go:251", #[{ on := 1, ground := Ground.data }, { on := 2, ground := Ground.data }], none⟩) rfl (by rfl) (by rfl) (fun w' hw' => ?_) ?_; rotate_left
      · go_simp <;> first | rfl | exact ⟨rfl, rfl⟩
      simp only [Act.put, List.setIfInBounds_toArray, List.set_cons_zero, List.set_cons_succ]
      refine' wpT_det (o := ⟨some 17, Op.load 39 (Operand.tmp 16), 39, "l02_matrices.go:251", #[{ on := 3, ground := Ground.data }], none⟩) rfl (by rfl) (by rfl) (fun w' hw' => ?_) ?_; rotate_left
      · have hca_ := Ext.cell hw' hca; have hcb_ := Ext.cell hw' hcb; go_simp <;> first | rfl | exact ⟨rfl, rfl⟩
      simp only [Act.put, List.setIfInBounds_toArray, List.set_cons_zero, List.set_cons_succ]
      refine' wpT_det (o := ⟨some 18, Op.move (Operand.tmp 1), 22, "l02_matrices.go:251", #[], none⟩) rfl (by rfl) (by rfl) (fun w' hw' => ?_) ?_; rotate_left
      · go_simp <;> first | rfl | exact ⟨rfl, rfl⟩
      simp only [Act.put, List.setIfInBounds_toArray, List.set_cons_zero, List.set_cons_succ]
      refine' wpT_det (o := ⟨some 19, Op.move (Operand.tmp 6), 3, "l02_matrices.go:251", #[], none⟩) rfl (by rfl) (by rfl) (fun w' hw' => ?_) ?_; rotate_left
      · go_simp <;> first | rfl | exact ⟨rfl, rfl⟩
      simp only [Act.put, List.setIfInBounds_toArray, List.set_cons_zero, List.set_cons_succ]
      refine' wpT_det (o := ⟨some 20, Op.indexAddr 22 (Operand.tmp 18) (Operand.tmp 19), 0, "l02_matrices.go:251", #[{ on := 5, ground := Ground.data }, { on := 6, ground := Ground.data }], none⟩) rfl (by rfl) (by rfl) (fun w' hw' => ?_) ?_; rotate_left
      · go_simp <;> first | rfl | exact ⟨rfl, rfl⟩
      simp only [Act.put, List.setIfInBounds_toArray, List.set_cons_zero, List.set_cons_succ]
      refine' wpT_det (o := ⟨some 21, Op.load 39 (Operand.tmp 20), 39, "l02_matrices.go:251", #[{ on := 7, ground := Ground.data }], none⟩) rfl (by rfl) (by rfl) (fun w' hw' => ?_) ?_; rotate_left
      · have hca_ := Ext.cell hw' hca; have hcb_ := Ext.cell hw' hcb; go_simp <;> first | rfl | exact ⟨rfl, rfl⟩
      simp only [Act.put, List.setIfInBounds_toArray, List.set_cons_zero, List.set_cons_succ]
      refine wpT_nd (o := ⟨some 22, Op.binOp BinOp.mul 39 (Operand.tmp 17) (Operand.tmp 21) 39, 39, "l02_matrices.go:251", #[{ on := 4, ground := Ground.data }, { on := 8, ground := Ground.data }], none⟩) rfl (by rfl) (by rfl) (fun w' hw' hF R__ hGo => ?_) (by obtain ⟨r, hr⟩ := ex_d .mul (rfl : fop .mul .f32 (c32 (rdf xs i)) (c32 (rdf ys i)) = (fmul (c32 (rdf xs i)) (c32 (rdf ys i)))); exact ⟨_, r, rfl, hr⟩) ?_
      · exact gives_f .mul (.inr (.inr (.inl rfl))) _ _ _ _ rfl (rdf xs i) (rdf ys i) rfl rfl (fmul (c32 (rdf xs i)) (c32 (rdf ys i))) rfl (fun r w2 hx hc => hGo _ _ hx ⟨r, rfl, hc⟩ trivial)
      rintro _ ⟨f9, rfl, hf9⟩
      simp only [Act.put, List.setIfInBounds_toArray, List.set_cons_zero, List.set_cons_succ]
      refine wpT_nd (o := ⟨some 23, Op.binOp BinOp.add 39 (Operand.tmp 13) (Operand.tmp 22) 39, 39, "l02_matrices.go:251", #[{ on := 0, ground := Ground.data }, { on := 9, ground := Ground.data }], none⟩) rfl (by rfl) (by rfl) (fun w' hw' hF R__ hGo => ?_) (by obtain ⟨r, hr⟩ := ex_d .add ((by rw [hf9, hs']; rfl) : fop .add .f32 (c32 (s)) (c32 (f9)) = (dotL xs ys (i + 1))); exact ⟨_, r, rfl, hr⟩) ?_
      · exact gives_f .add (.inl rfl) _ _ _ _ rfl (s) (f9) rfl rfl (dotL xs ys (i + 1)) (by rw [hf9, hs']; rfl) (fun r w2 hx hc => hGo _ _ hx ⟨r, rfl, hc⟩ trivial)
      rintro _ ⟨f10, rfl, hf10⟩
      simp only [Act.put, List.setIfInBounds_toArray, List.set_cons_zero, List.set_cons_succ]
      refine wpT_nil (fun w2 hw' hF => ?_)
      show wpList _ _ _ [(⟨some 5, Op.assign (Operand.tmp 23), 39, "l02_matrices.go:251", #[{ on := 10, ground := Ground.data }, { on := 0, ground := Ground.phase }, { on := 1, ground := Ground.phase }, { on := 2, ground := Ground.phase }, { on := 3, ground := Ground.phase }, { on := 4, ground := Ground.phase }, { on := 5, ground := Ground.phase }, { on := 6, ground := Ground.phase }, { on := 7, ground := Ground.phase }, { on := 8, ground := Ground.phase }, { on := 9, ground := Ground.phase }, { on := 10, ground := Ground.phase }], none⟩ : Oper)] _ _
      have hx2 := hw'.undrew
      clear hca hcb hF hw'
      go_wp2_with fail
      go_roundw
      case rel => exact ⟨i + 1, by omega, by go_num, f10, rfl, hf10, hx.trans hx2⟩
      case measure => simp [intOf]; omega
    · obtain rfl : i = n := by omega
      go_wp2_with fail
      go_ret
      exact ⟨s, rfl, hs', hx⟩

end Go.Proofs.Ytgjfdfmbknmpaaa
