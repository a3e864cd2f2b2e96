import Derived.Test.YtgjfdfmbknmpaaaM16
set_option linter.unusedVariables false
set_option linter.unusedSimpArgs false
namespace Go.Proofs.Ytgjfdfmbknmpaaa
open Go.RowKit

theorem timesE (xs vs : List Nat) (C i : Nat) : ∃ r, c32 r = dotF (fun j => c32 (at_ xs C i j)) (fun j => c32 (rdf vs j)) C := ex_dot _ _ _
def timesF (xs vs : List Nat) (C m : Nat) : List (Option Nat) := (List.range m).map fun i => dotF (fun j => c32 (at_ xs C i j)) (fun j => c32 (rdf vs j)) C
theorem timesF_succ (xs vs : List Nat) (C m : Nat) : timesF xs vs C (m + 1) = timesF xs vs C m ++ [dotF (fun j => c32 (at_ xs C m j)) (fun j => c32 (rdf vs j)) C] := by unfold timesF; rw [List.range_succ, List.map_append]; rfl
theorem dot_times {xs vs : List Nat} {R C i : Nat} (hl : xs.length = R * C) (hi : i < R) : dotL (rowL xs C i) vs C = dotF (fun j => c32 (at_ xs C i j)) (fun j => c32 (rdf vs j)) C := by
  unfold dotL
  exact dotF_congr (fun j hj => ⟨by rw [rowL_rd (row_le hl hi) hj], rfl⟩)
/-- What TimesVector answers. -/
def timesB (r c : Int) (xs vs : List Nat) : Bool := isMat r c xs && isVec vs && decide ((vs.length : Int) = c)
def timesD (r c : Int) (xs vs : List Nat) : List Nat × Bool := if timesB r c xs vs then giveL (timesF xs vs c.toNat r.toNat) else ([], false)
def RetLD (w : World) (d : List Nat × Bool) (e : Ending) (w' : World) : Prop := RetLDb w w.heap.size d e w'
theorem RetLDb.bad {w w' : World} {base : Nat} {d : List Nat × Bool} (hd : d = ([], false)) (h : Ext w w') : RetLDb w base d (.returned (.tuple #[.slice none 0 0, .bool false])) w' := by
  subst hd
  exact ⟨none, 0, rfl, own_nil _ _ _, h⟩
/-- A list of the call's own that grows. -/
def LO (w : World) (L : List (Option Nat)) (i : Nat) (u : Value) (wr : World) : Prop := ∃ A c ys, cfs ys = L ∧ u = .slice A i c ∧ Own wr w.heap.size 39 (.slice A i c) (flts ys) ∧ Ext w wr
theorem LO.start (w : World) : LO w [] 0 (.slice (some ⟨w.heap.size, 0, none⟩) 0 0) (w.alloc (.cells #[] 39)) := ⟨_, _, [], rfl, rfl, Own.empty _ _, (Ext.refl _).alloc _⟩

set_option maxRecDepth 20000 in
set_option maxHeartbeats 2000000 in
theorem timesVector_any (R C n cap m cap' : Nat) (A B : Option Addr) (xs vs : List Nat) (w : World) (hR : R ≤ 12) (hC : C ≤ 12) (h1 : 1 ≤ C) (hn : n = R * C) (hcap : n ≤ cap) (hm : C ≤ m) (hr : Rds w A n (flts xs)) (hq : Rds w B m (flts vs)) :
    Calls Try.prog 150 #[.agg #[.int .i64 R, .int .i64 C, .slice A n cap], .slice B m cap'] w (RetFs w R (timesF xs vs C R)) := by
  have Hn := Lib.hid hn
  have Hl : Hid (xs.length = R * C) := hr.flen.trans hn
  clear hn
  go_enter Try.func150, Try.ntmps150
  go_upto_region 1 with (fail)
  obtain ⟨w0, hw0⟩ : ∃ w0, w0 = (w.alloc (.cells #[.int .i64 R, .int .i64 C, .slice A n cap] 35)) := ⟨_, rfl⟩
  have hx0 : Ext w w0 := by subst hw0; exact (Ext.refl _).alloc _
  have ba : Blk w0 (w.heap.size) #[.int .i64 R, .int .i64 C, .slice A n cap] 35 := by subst hw0; exact (Blk.new w _ _)
  rw [← hw0]
  clear hw0
  obtain ⟨c0, c1, c2, hr1⟩ := (MAt.blk ba (hr.below hx0)).ext ((Ext.refl _).alloc (.cells #[] 39))
  go_wp2_with fail
  go_loopw [5, 10] (fun u v wr => ∃ i : Nat, i ≤ R ∧ v = .int .i64 i ∧ LO w0 (timesF xs vs C i) i u wr) (fun _ v _ => R - (intOf v).toNat)
  case atStart => exact ⟨0, Nat.zero_le _, rfl, LO.start w0⟩
  case round =>
    clear c0 c1 c2 hr1
    obtain ⟨i, hi, rfl, A', c, ys, hy, rfl, ho, hx⟩ := hrel
    obtain ⟨c0, c1, c2, hr1⟩ := (MAt.blk ba (hr.below hx0)).ext hx
    by_cases hlt : i < R
    · go_wp2_with fail
      refine (row_any R C i n cap A xs _ hlt hR hC h1 Hn.out hcap hr1).mono ?_
      rintro e w2 ⟨A1, k1, rfl, o1, hx2⟩
      replace ho := ho.ext hx2
      replace hx := hx.trans hx2
      clear hx2 c0 c1 c2 hr1
      go_wp2_with fail
      refine (dot_any A1 B C m k1 cap' (rowL xs C i) vs _ hm o1.reads (((hq.below hx0)).below hx)).mono ?_
      rintro e w3 ⟨s, rfl, hs, hx2⟩
      replace ho := ho.ext hx2
      replace hx := hx.trans hx2
      rw [dot_times Hl.out hlt] at hs
      clear hx2 o1
      have ho' := ho.ext ((Ext.refl w3).alloc (.cells #[.float .f32 (s)] 39))
      have hsz := hx.size
      have hl := ho.len
      go_wp2_with (first | fail | (at_builtin; go_loud (refine wpList_app1 rfl _ _ _ rfl (w3.alloc (.cells #[.float .f32 (s)] 39)) w0.heap.size 39 (.float .f32 0) 4 Try.underlying22 info_f32 rfl (by decide) (.slice A' i c) (flts ys) rfl w3.heap.size (.float .f32 (s)) rfl (One.new _ _ _) ho' rfl (by omega) (by simp; omega) ?_); rw [hl]; intro A' c' w4 h5 h6 h7))
      go_roundw
      case rel =>
        refine ⟨i + 1, by omega, by go_num, _, _, ys ++ [s], ?_, rfl, ?_, h6.ext (hx.alloc _) ho'⟩
        · rw [cfs_append, hy, timesF_succ, ← hs]; rfl
        · rw [flts_append]; exact h5
      case measure => simp [intOf]; omega
    · obtain rfl : i = R := by omega
      go_wp2_with fail
      go_ret
      exact ⟨A', c, ys, hy, rfl, ho.base hx0.size, hx0.trans hx⟩

set_option maxRecDepth 20000 in
set_option maxHeartbeats 2000000 in
theorem l02Times_any (b R C n cap m cap' : Nat) (A B : Option Addr) (xs vs : List Nat) (w : World) (hR : R ≤ 12) (hC : C ≤ 12) (h1 : 1 ≤ C) (hn : n = R * C) (hcap : n ≤ cap) (hm : C ≤ m) (ha : MAt w b R C A n cap xs) (hq : Rds w B m (flts vs)) :
    Calls Try.prog 149 #[.pointer (some ⟨b, 0, none⟩), .slice B m cap'] w (RetFs w R (timesF xs vs C R)) := by
  have Hn := Lib.hid hn
  have Hl : Hid (xs.length = R * C) := ha.rds.flen.trans hn
  clear hn
  go_enter Try.func149, Try.ntmps149
  go_upto_region 1 with (fail)
  go_wp2_with fail
  go_loopw [5, 6] (fun u v wr => ∃ i : Nat, i ≤ R ∧ v = .int .i64 i ∧ LO w (timesF xs vs C i) i u wr) (fun _ v _ => R - (intOf v).toNat)
  case atStart => exact ⟨0, Nat.zero_le _, rfl, LO.start w⟩
  case round =>
    obtain ⟨i, hi, rfl, A', c, ys, hy, rfl, ho, hx⟩ := hrel
    obtain ⟨c0, c1, c2, hr1⟩ := ha.ext hx
    by_cases hlt : i < R
    · have hle := row_le Hn.out hlt
      have hm' := Nat.mul_le_mul hR hC
      have hn' := Hn.out
      obtain ⟨ad, rfl, _⟩ := hr1.fltN 0 (by omega)
      obtain ⟨q, hq'⟩ : ∃ q, q = i * C := ⟨_, rfl⟩
      have e1 : IntKind.i64.wrap ((i : Int) * C) = (q : Int) := by
        have : (i : Int) * C = ((i * C : Nat) : Int) := by simp
        rw [this, ← hq']; exact IntWalk.i64_in _ (by omega)
      have e2 : IntKind.i64.wrap ((i : Int) + 1) = (i : Int) + 1 := IntWalk.i64_in _ (by omega)
      have e3 : IntKind.i64.wrap (((i : Int) + 1) * C) = ((q + C : Nat) : Int) := by
        have : ((i : Int) + 1) * C = (((i + 1) * C : Nat) : Int) := by simp
        rw [this, Nat.succ_mul, ← hq']; exact IntWalk.i64_in _ (by omega)
      have hp := hr1.part q C (by omega)
      have hrow : (xs.drop q).take C = rowL xs C i := by unfold rowL; rw [hq']
      rw [hrow] at hp
      obtain ⟨z, hz⟩ : ∃ z, z = q + C := ⟨_, rfl⟩
      rw [← hz] at e3
      have hz0 : z - q = C := by omega
      have hz1 : (q : Int) ≤ (z : Int) := by omega
      have hz2 : (z : Int) ≤ cap := by omega
      have hz3 : q ≤ z := by omega
      have hz4 : z ≤ cap := by omega
      have hz5 : ¬ cap = q := by omega
      have Hs : Hid (dotL (rowL xs C i) vs C = dotF (fun j => c32 (at_ xs C i j)) (fun j => c32 (rdf vs j)) C) := dot_times Hl.out hlt
      clear hrow hz hq' hm' hn' hle
      go_upto_region 5 with (fail)
      refine wp_region_T (cs := []) [0, 1, 2, 3, 4, 5, 6, 7, 8, 9, 10, 11, 12, 13, 14, 15, 16, 17, 18, 19, 20, 21] [22, 23] [20, 21] [] (fun i__ v => match i__ with | 20 => ∃ r, v = .float .f32 r ∧ c32 r = (dotF (fun j => c32 (at_ xs C i j)) (fun j => c32 (rdf vs j)) C) | 21 => ∃ g, v = .slice (some ⟨g, 0, none⟩) 1 1 | _ => False) (fun i__ v w' => match i__ with | 21 => OneF w' v (dotF (fun j => c32 (at_ xs C i j)) (fun j => c32 (rdf vs j)) C) 39 | _ => True) (by kernel_rfl) (by kernel_rfl) (by intro i v w' w2 h hx; revert h; (try dsimp only); split <;> intro h <;> first | trivial | exact OneF.ext h hx) ?_
      refine' wpT_det (o := ⟨some 16, Op.move (Operand.tmp 5), 22, "l02_matrices.go:260", #[], none⟩) rfl (by rfl) (by rfl) (fun w' hw' => ?_) ?_; rotate_left
      · go_simp <;> first | rfl | exact ⟨rfl, rfl⟩
      simp only [Act.put, List.setIfInBounds_toArray, List.set_cons_zero, List.set_cons_succ]
      refine' wpT_det (o := ⟨some 17, Op.move (Operand.tmp 0), 85, "l02_matrices.go:260", #[], none⟩) rfl (by rfl) (by rfl) (fun w' hw' => ?_) ?_; rotate_left
      · go_simp <;> first | rfl | exact ⟨rfl, rfl⟩
      simp only [Act.put, List.setIfInBounds_toArray, List.set_cons_zero, List.set_cons_succ]
      refine' wpT_det (o := ⟨some 18, Op.nilCheck (Operand.tmp 17), 0, "l02_matrices.go:260", #[{ on := 1, ground := Ground.data }], none⟩) rfl (by rfl) (by rfl) (fun w' hw' => ?_) ?_; rotate_left
      · go_simp <;> first | rfl | exact ⟨rfl, rfl⟩
      simp only [Act.put, List.setIfInBounds_toArray, List.set_cons_zero, List.set_cons_succ]
      refine' wpT_det (o := ⟨some 19, Op.fieldAddr 35 (Operand.tmp 18) 2, 0, "l02_matrices.go:260", #[{ on := 2, ground := Ground.data }], none⟩) rfl (by rfl) (by rfl) (fun w' hw' => ?_) ?_; rotate_left
      · go_simp <;> first | rfl | exact ⟨rfl, rfl⟩
      simp only [Act.put, List.setIfInBounds_toArray, List.set_cons_zero, List.set_cons_succ]
      refine' wpT_det (o := ⟨some 20, Op.load 22 (Operand.tmp 19), 22, "l02_matrices.go:260", #[{ on := 3, ground := Ground.data }], none⟩) rfl (by rfl) (by rfl) (fun w' hw' => ?_) ?_; rotate_left
      · have c1_ := Ext.cell hw' c1; have c2_ := Ext.cell hw' c2; go_simp <;> first | rfl | exact ⟨rfl, rfl⟩
      simp only [Act.put, List.setIfInBounds_toArray, List.set_cons_zero, List.set_cons_succ]
      refine' wpT_det (o := ⟨some 21, Op.move (Operand.tmp 6), 2, "l02_matrices.go:260", #[], none⟩) rfl (by rfl) (by rfl) (fun w' hw' => ?_) ?_; rotate_left
      · go_simp <;> first | rfl | exact ⟨rfl, rfl⟩
      simp only [Act.put, List.setIfInBounds_toArray, List.set_cons_zero, List.set_cons_succ]
      refine' wpT_det (o := ⟨some 22, Op.move (Operand.tmp 0), 85, "l02_matrices.go:260", #[], none⟩) rfl (by rfl) (by rfl) (fun w' hw' => ?_) ?_; rotate_left
      · go_simp <;> first | rfl | exact ⟨rfl, rfl⟩
      simp only [Act.put, List.setIfInBounds_toArray, List.set_cons_zero, List.set_cons_succ]
      refine' wpT_det (o := ⟨some 23, Op.nilCheck (Operand.tmp 22), 0, "l02_matrices.go:260", #[{ on := 6, ground := Ground.data }], none⟩) rfl (by rfl) (by rfl) (fun w' hw' => ?_) ?_; rotate_left
      · go_simp <;> first | rfl | exact ⟨rfl, rfl⟩
      simp only [Act.put, List.setIfInBounds_toArray, List.set_cons_zero, List.set_cons_succ]
      refine' wpT_det (o := ⟨some 24, Op.fieldAddr 35 (Operand.tmp 23) 1, 0, "l02_matrices.go:260", #[{ on := 7, ground := Ground.data }], none⟩) rfl (by rfl) (by rfl) (fun w' hw' => ?_) ?_; rotate_left
      · go_simp <;> first | rfl | exact ⟨rfl, rfl⟩
      simp only [Act.put, List.setIfInBounds_toArray, List.set_cons_zero, List.set_cons_succ]
      refine' wpT_det (o := ⟨some 25, Op.load 2 (Operand.tmp 24), 2, "l02_matrices.go:260", #[{ on := 8, ground := Ground.data }], none⟩) rfl (by rfl) (by rfl) (fun w' hw' => ?_) ?_; rotate_left
      · have c1_ := Ext.cell hw' c1; have c2_ := Ext.cell hw' c2; go_simp <;> first | rfl | exact ⟨rfl, rfl⟩
      simp only [Act.put, List.setIfInBounds_toArray, List.set_cons_zero, List.set_cons_succ]
      refine' wpT_det (o := ⟨some 26, Op.binOp BinOp.mul 2 (Operand.tmp 21) (Operand.tmp 25) 2, 2, "l02_matrices.go:260", #[{ on := 5, ground := Ground.data }, { on := 9, ground := Ground.data }], none⟩) rfl (by rfl) (by rfl) (fun w' hw' => ?_) ?_; rotate_left
      · go_simp <;> first | rfl | exact ⟨rfl, rfl⟩
      simp only [Act.put, List.setIfInBounds_toArray, List.set_cons_zero, List.set_cons_succ]
      refine' wpT_det (o := ⟨some 27, Op.move (Operand.tmp 6), 2, "l02_matrices.go:260", #[], none⟩) rfl (by rfl) (by rfl) (fun w' hw' => ?_) ?_; rotate_left
      · go_simp <;> first | rfl | exact ⟨rfl, rfl⟩
      simp only [Act.put, List.setIfInBounds_toArray, List.set_cons_zero, List.set_cons_succ]
      refine' wpT_det (o := ⟨some 28, Op.binOp BinOp.add 2 (Operand.tmp 27) (Operand.const (Value.int IntKind.i64 1)) 2, 2, "l02_matrices.go:260", #[{ on := 11, ground := Ground.data }], none⟩) rfl (by rfl) (by rfl) (fun w' hw' => ?_) ?_; rotate_left
      · go_simp <;> first | rfl | exact ⟨rfl, rfl⟩
      simp only [Act.put, List.setIfInBounds_toArray, List.set_cons_zero, List.set_cons_succ]
      refine' wpT_det (o := ⟨some 29, Op.move (Operand.tmp 0), 85, "l02_matrices.go:260", #[], none⟩) rfl (by rfl) (by rfl) (fun w' hw' => ?_) ?_; rotate_left
      · go_simp <;> first | rfl | exact ⟨rfl, rfl⟩
      simp only [Act.put, List.setIfInBounds_toArray, List.set_cons_zero, List.set_cons_succ]
      refine' wpT_det (o := ⟨some 30, Op.nilCheck (Operand.tmp 29), 0, "l02_matrices.go:260", #[{ on := 13, ground := Ground.data }], none⟩) rfl (by rfl) (by rfl) (fun w' hw' => ?_) ?_; rotate_left
      · go_simp <;> first | rfl | exact ⟨rfl, rfl⟩
      simp only [Act.put, List.setIfInBounds_toArray, List.set_cons_zero, List.set_cons_succ]
      refine' wpT_det (o := ⟨some 31, Op.fieldAddr 35 (Operand.tmp 30) 1, 0, "l02_matrices.go:260", #[{ on := 14, ground := Ground.data }], none⟩) rfl (by rfl) (by rfl) (fun w' hw' => ?_) ?_; rotate_left
      · go_simp <;> first | rfl | exact ⟨rfl, rfl⟩
      simp only [Act.put, List.setIfInBounds_toArray, List.set_cons_zero, List.set_cons_succ]
      refine' wpT_det (o := ⟨some 32, Op.load 2 (Operand.tmp 31), 2, "l02_matrices.go:260", #[{ on := 15, ground := Ground.data }], none⟩) rfl (by rfl) (by rfl) (fun w' hw' => ?_) ?_; rotate_left
      · have c1_ := Ext.cell hw' c1; have c2_ := Ext.cell hw' c2; go_simp <;> first | rfl | exact ⟨rfl, rfl⟩
      simp only [Act.put, List.setIfInBounds_toArray, List.set_cons_zero, List.set_cons_succ]
      refine' wpT_det (o := ⟨some 33, Op.binOp BinOp.mul 2 (Operand.tmp 28) (Operand.tmp 32) 2, 2, "l02_matrices.go:260", #[{ on := 12, ground := Ground.data }, { on := 16, ground := Ground.data }], none⟩) rfl (by rfl) (by rfl) (fun w' hw' => ?_) ?_; rotate_left
      · go_simp <;> first | rfl | exact ⟨rfl, rfl⟩
      simp only [Act.put, List.setIfInBounds_toArray, List.set_cons_zero, List.set_cons_succ]
      refine' wpT_det (o := ⟨some 34, Op.slice 22 (Operand.tmp 20) (some (Operand.tmp 26)) (some (Operand.tmp 33)) none, 22, "l02_matrices.go:260", #[{ on := 4, ground := Ground.data }, { on := 10, ground := Ground.data }, { on := 17, ground := Ground.data }], none⟩) rfl (by rfl) (by rfl) (fun w' hw' => ?_) ?_; rotate_left
      · go_simp <;> first | rfl | exact ⟨rfl, rfl⟩
      simp only [Act.put, List.setIfInBounds_toArray, List.set_cons_zero, List.set_cons_succ]
      refine' wpT_det (o := ⟨some 35, Op.move (Operand.tmp 1), 22, "l02_matrices.go:260", #[], none⟩) rfl (by rfl) (by rfl) (fun w' hw' => ?_) ?_; rotate_left
      · go_simp <;> first | rfl | exact ⟨rfl, rfl⟩
      simp only [Act.put, List.setIfInBounds_toArray, List.set_cons_zero, List.set_cons_succ]
      refine wpT_nd (o := ⟨some 36, Op.call { callee := Callee.value (Operand.func 155), args := #[Operand.tmp 34, Operand.tmp 35], argTypes := #[22, 22] }, 39, "l02_matrices.go:260", #[{ on := 18, ground := Ground.data }, { on := 19, ground := Ground.data }], none⟩) rfl (by rfl) (by rfl) (fun w' hw' hF R__ hGo => ?_) (by obtain ⟨r, hr⟩ : ∃ r, c32 r = (dotF (fun j => c32 (at_ xs C i j)) (fun j => c32 (rdf vs j)) C) := ex_dot _ _ _; exact ⟨_, r, rfl, hr⟩) ?_
      · go_simp
        refine gives_enter rfl ?_
        refine (l02Dot_any (some (ad.add q)) B C m (cap - q) cap' (rowL xs C i) vs _ hm (hp.below hw'.undrew) ((hq.below hx).below hw'.undrew)).mono ?_
        rintro e w2 ⟨r, rfl, hr, hx⟩
        exact ⟨_, rfl, hGo _ _ hx ⟨r, rfl, (hr.trans Hs.out)⟩ trivial⟩
      rintro _ ⟨f20, rfl, hf20⟩
      simp only [Act.put, List.setIfInBounds_toArray, List.set_cons_zero, List.set_cons_succ]
      refine wpT_nd (o := ⟨some 37, Op.buildSlice 22 1 #[(0, Operand.tmp 36)], 22, "l02_matrices.go:260", #[{ on := 20, ground := Ground.data }], none⟩) rfl (by rfl) (by rfl) (fun w' hw' hF R__ hGo => ?_) ⟨_, 0, rfl⟩ ?_
      · go_simp; exact gives_value rfl (hGo _ _ ((Ext.refl _).alloc _) ⟨_, rfl⟩ ⟨f20, hf20, One.new _ _ _⟩)
      rintro _ ⟨g1, rfl⟩
      simp only [Act.put, List.setIfInBounds_toArray, List.set_cons_zero, List.set_cons_succ]
      refine wpT_nil (fun w5 hw' hF => ?_)
      show wpList _ _ _ [(⟨some 38, Op.call { callee := Callee.builtin Builtin.append, args := #[Operand.tmp 16, Operand.tmp 37], argTypes := #[22, 22] }, 22, "l02_matrices.go:260", #[{ on := 0, ground := Ground.data }, { on := 21, ground := Ground.data }, { on := 20, ground := Ground.chain }], none⟩ : Oper), (⟨some 5, Op.assign (Operand.tmp 38), 22, "l02_matrices.go:260", #[{ on := 22, ground := Ground.data }, { on := 22, ground := Ground.chain }, { on := 0, ground := Ground.phase }, { on := 1, ground := Ground.phase }, { on := 2, ground := Ground.phase }, { on := 3, ground := Ground.phase }, { on := 4, ground := Ground.phase }, { on := 5, ground := Ground.phase }, { on := 6, ground := Ground.phase }, { on := 7, ground := Ground.phase }, { on := 8, ground := Ground.phase }, { on := 9, ground := Ground.phase }, { on := 10, ground := Ground.phase }, { on := 11, ground := Ground.phase }, { on := 12, ground := Ground.phase }, { on := 13, ground := Ground.phase }, { on := 14, ground := Ground.phase }, { on := 15, ground := Ground.phase }, { on := 16, ground := Ground.phase }, { on := 17, ground := Ground.phase }, { on := 18, ground := Ground.phase }, { on := 19, ground := Ground.phase }, { on := 20, ground := Ground.phase }, { on := 21, ground := Ground.phase }, { on := 22, ground := Ground.phase }], none⟩ : Oper)] _ _
      obtain ⟨s, hs, hg⟩ : OneF w5 (.slice (some ⟨g1, 0, none⟩) 1 1) (dotF (fun j => c32 (at_ xs C i j)) (fun j => c32 (rdf vs j)) C) 39 := hF 21 _ rfl
      have hx2 := hw'.undrew
      clear hF hw' c0 c1 c2 hr1 hp
      replace ho := ho.ext hx2
      replace hx := hx.trans hx2
      clear hx2
      have hsz := hx.size
      have hl := ho.len
      go_wp2_with (at_builtin; go_loud (refine wpList_app1 rfl _ _ _ rfl w5 w.heap.size 39 (.float .f32 0) 4 Try.underlying22 info_f32 rfl (by decide) (.slice A' i c) (flts ys) rfl g1 (.float .f32 s) rfl hg ho rfl (by omega) hsz ?_); rw [hl]; intro A2 c2 w6 h5 h6 h7)
      go_roundw
      case rel =>
        refine ⟨i + 1, by omega, by go_num, _, _, ys ++ [s], ?_, rfl, ?_, h6.ext hx ho⟩
        · rw [cfs_append, hy, timesF_succ, ← hs]; rfl
        · rw [flts_append]; exact h5
      case measure => simp [intOf]; omega
    · obtain rfl : i = R := by omega
      go_wp2_with fail
      go_ret
      exact ⟨A', c, ys, hy, rfl, ho, hx⟩

theorem tD_bad {r c : Int} {xs vs : List Nat} (h : timesB r c xs vs = false) : timesD r c xs vs = ([], false) := by simp [timesD, h]
theorem times_of {r c : Int} {xs vs : List Nat} (h : timesB r c xs vs = true) : isMat r c xs = true ∧ isVec vs = true ∧ (vs.length : Int) = c := by
  unfold timesB at h
  simp only [Bool.and_eq_true, decide_eq_true_eq] at h
  exact ⟨h.1.1, h.1.2, h.2⟩

set_option maxRecDepth 20000 in
set_option maxHeartbeats 2000000 in
theorem specTimesVector_any (r c : Int) (A : Option Addr) (n cap : Nat) (B : Option Addr) (m cap' : Nat) (xs vs : List Nat) (w : World) (hr : Rds w A n (flts xs)) (hq : Rds w B m (flts vs)) (hcap : n ≤ cap) (_h : m ≤ cap') :
    Calls Try.prog 78 #[.agg #[.int .i64 r, .int .i64 c, .slice A n cap], .slice B m cap'] w (RetLD w (timesD r c xs vs)) := by
  have HL := Lib.hid hr.flen
  have HL' := Lib.hid hq.flen
  have hsm := hq.small
  cases hv : isMat r c xs with
  | false =>
    have hd : timesD r c xs vs = ([], false) := tD_bad (by unfold timesB; rw [hv]; rfl)
    go_enter Try.func78, Try.ntmps78
    go_upto_region 1 with (fail)
    obtain ⟨w0, hw0⟩ : ∃ w0, w0 = (w.alloc (.cells #[.int .i64 r, .int .i64 c, .slice A n cap] 35)) := ⟨_, rfl⟩
    have hx0 : Ext w w0 := by subst hw0; exact (Ext.refl _).alloc _
    have ba : Blk w0 (w.heap.size) #[.int .i64 r, .int .i64 c, .slice A n cap] 35 := by subst hw0; exact (Blk.new w _ _)
    rw [← hw0]
    clear hw0
    go_wp2_with fail
    refine (l02Is_any _ r c A n cap xs _ (MAt.blk ba (hr.below hx0))).mono ?_
    rintro e w1 ⟨rfl, hx⟩
    rw [hv]
    replace hx0 := hx0.trans hx
    clear  hx
    go_wp2_with fail
    go_ret2
    exact RetLDb.bad hd hx0
  | true =>
    cases hv' : isVec vs with
    | false =>
      have hd : timesD r c xs vs = ([], false) := tD_bad (by unfold timesB; rw [hv, hv']; rfl)
      go_enter Try.func78, Try.ntmps78
      go_upto_region 1 with (fail)
      obtain ⟨w0, hw0⟩ : ∃ w0, w0 = (w.alloc (.cells #[.int .i64 r, .int .i64 c, .slice A n cap] 35)) := ⟨_, rfl⟩
      have hx0 : Ext w w0 := by subst hw0; exact (Ext.refl _).alloc _
      have ba : Blk w0 (w.heap.size) #[.int .i64 r, .int .i64 c, .slice A n cap] 35 := by subst hw0; exact (Blk.new w _ _)
      rw [← hw0]
      clear hw0
      go_wp2_with fail
      refine (l02Is_any _ r c A n cap xs _ (MAt.blk ba (hr.below hx0))).mono ?_
      rintro e w1 ⟨rfl, hx⟩
      rw [hv]
      replace hx0 := hx0.trans hx
      clear  hx
      go_wp2_with fail
      refine (l02Vector_any B m cap' vs _ (hq.below hx0)).mono ?_
      rintro e w2 ⟨rfl, hx⟩
      rw [hv']
      replace hx0 := hx0.trans hx
      clear  hx
      go_wp2_with fail
      go_ret2
      exact RetLDb.bad hd hx0
    | true =>
      by_cases hc : (m : Int) = c
      · have hc' : ((m : Int) != c) = false := by simp [hc]
        have hb : timesB r c xs vs = true := by unfold timesB; rw [hv, hv', HL'.out, decide_eq_true hc]; rfl
        obtain ⟨R, C, rfl, rfl, p1, p2, p3, p4, p5⟩ := mat_nat hv
        obtain rfl : m = C := by omega
        obtain ⟨d, hd⟩ : ∃ d, d = timesD R m xs vs := ⟨_, rfl⟩
        have hd' : d = giveL (timesF xs vs m R) := by rw [hd]; simp [timesD, hb]
        have HD := Lib.hid hd'
        have Hn : Hid (n = R * m) := by have := HL.out; show n = _; omega
        rw [← hd]
        clear hd hd' p5 hc
        go_enter Try.func78, Try.ntmps78
        go_upto_region 1 with (fail)
        obtain ⟨w0, hw0⟩ : ∃ w0, w0 = (w.alloc (.cells #[.int .i64 R, .int .i64 m, .slice A n cap] 35)) := ⟨_, rfl⟩
        have hx0 : Ext w w0 := by subst hw0; exact (Ext.refl _).alloc _
        have ba : Blk w0 (w.heap.size) #[.int .i64 R, .int .i64 m, .slice A n cap] 35 := by subst hw0; exact (Blk.new w _ _)
        rw [← hw0]
        clear hw0
        go_wp2_with fail
        refine (l02Is_any _ _ _ A n cap xs _ (MAt.blk ba (hr.below hx0))).mono ?_
        rintro e w1 ⟨rfl, hx⟩
        rw [hv]
        replace ba := ba.ext hx
        replace hx0 := hx0.trans hx
        clear  hx
        go_wp2_with fail
        refine (l02Vector_any B m cap' vs _ (hq.below hx0)).mono ?_
        rintro e w2 ⟨rfl, hx⟩
        rw [hv']
        replace ba := ba.ext hx
        replace hx0 := hx0.trans hx
        clear  hx
        obtain ⟨c0, c1, c2, hr1⟩ := MAt.blk ba (hr.below hx0)
        go_wp2_with fail
        refine (l02Times_any _ R m n cap m cap' A B xs vs _ p2 p4 p3 Hn.out hcap (Nat.le_refl _) (MAt.blk ba (hr.below hx0)) (hq.below hx0)).mono ?_
        rintro e w3 ⟨A1, k1, zs, hz, rfl, ho, hx⟩
        have ho' := ho.base hx0.size
        replace hx0 := hx0.trans hx
        clear ho hx c0 c1 c2
        go_wp2_with fail
        refine (l02List_any w.heap.size A1 R k1 zs _ ho' hx0.size).mono ?_
        rw [hz, ← HD.out]
        rintro e w4 ⟨A2, k2, rfl, ho, hx⟩
        go_wp2_with fail
        go_ret2
        exact ⟨A2, k2, rfl, ho, hx0.trans hx⟩
      · have hc' : ((m : Int) != c) = true := by simp [hc]
        have hd : timesD r c xs vs = ([], false) := tD_bad (by unfold timesB; rw [hv, hv', HL'.out, decide_eq_false hc]; rfl)
        go_enter Try.func78, Try.ntmps78
        go_upto_region 1 with (fail)
        obtain ⟨w0, hw0⟩ : ∃ w0, w0 = (w.alloc (.cells #[.int .i64 r, .int .i64 c, .slice A n cap] 35)) := ⟨_, rfl⟩
        have hx0 : Ext w w0 := by subst hw0; exact (Ext.refl _).alloc _
        have ba : Blk w0 (w.heap.size) #[.int .i64 r, .int .i64 c, .slice A n cap] 35 := by subst hw0; exact (Blk.new w _ _)
        rw [← hw0]
        clear hw0
        go_wp2_with fail
        refine (l02Is_any _ r c A n cap xs _ (MAt.blk ba (hr.below hx0))).mono ?_
        rintro e w1 ⟨rfl, hx⟩
        rw [hv]
        replace ba := ba.ext hx
        replace hx0 := hx0.trans hx
        clear  hx
        go_wp2_with fail
        refine (l02Vector_any B m cap' vs _ (hq.below hx0)).mono ?_
        rintro e w2 ⟨rfl, hx⟩
        rw [hv']
        replace ba := ba.ext hx
        replace hx0 := hx0.trans hx
        clear  hx
        obtain ⟨c0, c1, c2, hr1⟩ := MAt.blk ba (hr.below hx0)
        go_wp2_with fail
        go_ret2
        exact RetLDb.bad hd hx0

set_option maxRecDepth 20000 in
set_option maxHeartbeats 2000000 in
theorem implTimesVector_any (r c : Int) (A : Option Addr) (n cap : Nat) (B : Option Addr) (m cap' : Nat) (xs vs : List Nat) (w : World) (hr : Rds w A n (flts xs)) (hq : Rds w B m (flts vs)) (hcap : n ≤ cap) (_h : m ≤ cap') :
    Calls Try.prog 79 #[.agg #[.int .i64 r, .int .i64 c, .slice A n cap], .slice B m cap'] w (RetLD w (timesD r c xs vs)) := by
  have HL := Lib.hid hr.flen
  have HL' := Lib.hid hq.flen
  have hsm := hq.small
  cases hv : isMat r c xs with
  | false =>
    have hd : timesD r c xs vs = ([], false) := tD_bad (by unfold timesB; rw [hv]; rfl)
    go_enter Try.func79, Try.ntmps79
    go_upto_region 1 with (fail)
    obtain ⟨w0, hw0⟩ : ∃ w0, w0 = (w.alloc (.cells #[.int .i64 r, .int .i64 c, .slice A n cap] 35)) := ⟨_, rfl⟩
    have hx0 : Ext w w0 := by subst hw0; exact (Ext.refl _).alloc _
    have ba : Blk w0 (w.heap.size) #[.int .i64 r, .int .i64 c, .slice A n cap] 35 := by subst hw0; exact (Blk.new w _ _)
    rw [← hw0]
    clear hw0
    obtain ⟨c0, c1, c2, hr1⟩ := MAt.blk ba (hr.below hx0)
    refine wp_region_T (cs := []) [0, 1, 2, 3, 4, 5, 6, 7, 8, 9, 10, 11, 12, 13, 14] [] [1] [] (fun i__ v => match i__ with | 1 => v = (.bool false) | _ => False) (fun _ _ _ => True) (by kernel_rfl) (by kernel_rfl) (fun _ _ _ _ _ _ => trivial) ?_
    refine' wpT_det (o := ⟨some 6, Op.load 35 (Operand.tmp 2), 35, "l02_matrices.go:256", #[], none⟩) rfl (by rfl) (by rfl) (fun w' hw' => ?_) ?_; rotate_left
    · have c0_ := Ext.cell hw' c0; have c1_ := Ext.cell hw' c1; have c2_ := Ext.cell hw' c2; go_simp <;> first | rfl | exact ⟨rfl, rfl⟩
    simp only [Act.put, List.setIfInBounds_toArray, List.set_cons_zero, List.set_cons_succ]
    refine wpT_nd (o := ⟨some 7, Op.call { callee := Callee.value (Operand.func 123), args := #[Operand.tmp 6], argTypes := #[35] }, 4, "l02_matrices.go:256", #[{ on := 0, ground := Ground.data }], none⟩) rfl (by rfl) (by rfl) (fun w' hw' hF R__ hGo => ?_) ⟨_, rfl⟩ ?_
    · go_simp
      refine gives_enter rfl ?_
      refine (ValidMatrix_any r c A n cap xs _ (hr1.below hw'.undrew)).mono ?_
      rintro e w2 ⟨rfl, hx⟩
      exact ⟨_, rfl, hGo _ _ hx (congrArg Value.bool hv) trivial⟩
    intro v hv
    obtain rfl : v = (.bool false) := hv
    simp only [Act.put, List.setIfInBounds_toArray, List.set_cons_zero, List.set_cons_succ]
    refine' wpT_det (o := ⟨some 8, Op.unOp UnOp.not 4 (Operand.tmp 7), 4, "l02_matrices.go:256", #[{ on := 1, ground := Ground.data }], none⟩) rfl (by rfl) (by rfl) (fun w' hw' => ?_) ?_; rotate_left
    · go_simp <;> first | rfl | exact ⟨rfl, rfl⟩
    simp only [Act.put, List.setIfInBounds_toArray, List.set_cons_zero, List.set_cons_succ]
    refine' wpT_det (o := ⟨some 9, Op.move (Operand.tmp 8), 4, "l02_matrices.go:256", #[{ on := 2, ground := Ground.data }, { on := 1, ground := Ground.chain }], none⟩) rfl (by rfl) (by rfl) (fun w' hw' => ?_) ?_; rotate_left
    · go_simp <;> first | rfl | exact ⟨rfl, rfl⟩
    simp only [Act.put, List.setIfInBounds_toArray, List.set_cons_zero, List.set_cons_succ]
    refine wpT_skip (o := ⟨some 10, Op.move (Operand.tmp 1), 22, "l02_matrices.go:256", #[{ on := 3, ground := Ground.guard }], some (3, false)⟩) rfl (by rfl) ?_
    simp only [Act.put, List.setIfInBounds_toArray, List.set_cons_zero, List.set_cons_succ]
    refine wpT_skip (o := ⟨some 11, Op.call { callee := Callee.value (Operand.func 129), args := #[Operand.tmp 10], argTypes := #[22] }, 4, "l02_matrices.go:256", #[{ on := 4, ground := Ground.data }, { on := 3, ground := Ground.chain }, { on := 3, ground := Ground.guard }], some (3, false)⟩) rfl (by rfl) ?_
    simp only [Act.put, List.setIfInBounds_toArray, List.set_cons_zero, List.set_cons_succ]
    refine wpT_skip (o := ⟨some 12, Op.unOp UnOp.not 4 (Operand.tmp 11), 4, "l02_matrices.go:256", #[{ on := 5, ground := Ground.data }, { on := 3, ground := Ground.guard }], some (3, false)⟩) rfl (by rfl) ?_
    simp only [Act.put, List.setIfInBounds_toArray, List.set_cons_zero, List.set_cons_succ]
    refine' wpT_det (o := ⟨some 13, Op.pick (Operand.tmp 9) (Operand.const (Value.bool true)) (Operand.tmp 12), 4, "l02_matrices.go:256", #[{ on := 3, ground := Ground.data }, { on := 6, ground := Ground.data }], none⟩) rfl (by rfl) (by rfl) (fun w' hw' => ?_) ?_; rotate_left
    · go_simp <;> first | rfl | exact ⟨rfl, rfl⟩
    simp only [Act.put, List.setIfInBounds_toArray, List.set_cons_zero, List.set_cons_succ]
    refine' wpT_det (o := ⟨some 14, Op.move (Operand.tmp 13), 4, "l02_matrices.go:256", #[{ on := 7, ground := Ground.data }, { on := 5, ground := Ground.chain }], none⟩) rfl (by rfl) (by rfl) (fun w' hw' => ?_) ?_; rotate_left
    · go_simp <;> first | rfl | exact ⟨rfl, rfl⟩
    simp only [Act.put, List.setIfInBounds_toArray, List.set_cons_zero, List.set_cons_succ]
    refine wpT_skip (o := ⟨some 15, Op.move (Operand.tmp 1), 22, "l02_matrices.go:256", #[{ on := 8, ground := Ground.guard }], some (8, false)⟩) rfl (by rfl) ?_
    simp only [Act.put, List.setIfInBounds_toArray, List.set_cons_zero, List.set_cons_succ]
    refine wpT_skip (o := ⟨some 16, Op.call { callee := Callee.value (Operand.func 101), args := #[Operand.tmp 15], argTypes := #[22] }, 2, "l02_matrices.go:256", #[{ on := 9, ground := Ground.data }, { on := 8, ground := Ground.chain }, { on := 8, ground := Ground.guard }], some (8, false)⟩) rfl (by rfl) ?_
    simp only [Act.put, List.setIfInBounds_toArray, List.set_cons_zero, List.set_cons_succ]
    refine wpT_skip (o := ⟨some 17, Op.fieldAddr 35 (Operand.tmp 2) 1, 0, "l02_matrices.go:256", #[{ on := 8, ground := Ground.guard }], some (8, false)⟩) rfl (by rfl) ?_
    simp only [Act.put, List.setIfInBounds_toArray, List.set_cons_zero, List.set_cons_succ]
    refine wpT_skip (o := ⟨some 18, Op.load 2 (Operand.tmp 17), 2, "l02_matrices.go:256", #[{ on := 11, ground := Ground.data }, { on := 8, ground := Ground.guard }], some (8, false)⟩) rfl (by rfl) ?_
    simp only [Act.put, List.setIfInBounds_toArray, List.set_cons_zero, List.set_cons_succ]
    refine wpT_skip (o := ⟨some 19, Op.binOp BinOp.neq 2 (Operand.tmp 16) (Operand.tmp 18) 2, 4, "l02_matrices.go:256", #[{ on := 10, ground := Ground.data }, { on := 12, ground := Ground.data }, { on := 8, ground := Ground.guard }], some (8, false)⟩) rfl (by rfl) ?_
    simp only [Act.put, List.setIfInBounds_toArray, List.set_cons_zero, List.set_cons_succ]
    refine' wpT_det (o := ⟨some 20, Op.pick (Operand.tmp 14) (Operand.const (Value.bool true)) (Operand.tmp 19), 4, "l02_matrices.go:256", #[{ on := 8, ground := Ground.data }, { on := 13, ground := Ground.data }], none⟩) rfl (by rfl) (by rfl) (fun w' hw' => ?_) ?_; rotate_left
    · go_simp <;> first | rfl | exact ⟨rfl, rfl⟩
    simp only [Act.put, List.setIfInBounds_toArray, List.set_cons_zero, List.set_cons_succ]
    refine wpT_nil (fun w1 hw' hF => ?_)
    refine wpList_nil ?_
    go_wp2_with fail
    go_ret2
    exact RetLDb.bad hd (hx0.trans hw'.undrew)
  | true =>
    cases hv' : isVec vs with
    | false =>
      have hd : timesD r c xs vs = ([], false) := tD_bad (by unfold timesB; rw [hv, hv']; rfl)
      go_enter Try.func79, Try.ntmps79
      go_upto_region 1 with (fail)
      obtain ⟨w0, hw0⟩ : ∃ w0, w0 = (w.alloc (.cells #[.int .i64 r, .int .i64 c, .slice A n cap] 35)) := ⟨_, rfl⟩
      have hx0 : Ext w w0 := by subst hw0; exact (Ext.refl _).alloc _
      have ba : Blk w0 (w.heap.size) #[.int .i64 r, .int .i64 c, .slice A n cap] 35 := by subst hw0; exact (Blk.new w _ _)
      rw [← hw0]
      clear hw0
      obtain ⟨c0, c1, c2, hr1⟩ := MAt.blk ba (hr.below hx0)
      refine wp_region_T (cs := []) [0, 1, 2, 3, 4, 5, 6, 7, 8, 9, 10, 11, 12, 13, 14] [] [1, 5] [] (fun i__ v => match i__ with | 1 => v = (.bool true) | 5 => v = (.bool false) | _ => False) (fun _ _ _ => True) (by kernel_rfl) (by kernel_rfl) (fun _ _ _ _ _ _ => trivial) ?_
      refine' wpT_det (o := ⟨some 6, Op.load 35 (Operand.tmp 2), 35, "l02_matrices.go:256", #[], none⟩) rfl (by rfl) (by rfl) (fun w' hw' => ?_) ?_; rotate_left
      · have c0_ := Ext.cell hw' c0; have c1_ := Ext.cell hw' c1; have c2_ := Ext.cell hw' c2; go_simp <;> first | rfl | exact ⟨rfl, rfl⟩
      simp only [Act.put, List.setIfInBounds_toArray, List.set_cons_zero, List.set_cons_succ]
      refine wpT_nd (o := ⟨some 7, Op.call { callee := Callee.value (Operand.func 123), args := #[Operand.tmp 6], argTypes := #[35] }, 4, "l02_matrices.go:256", #[{ on := 0, ground := Ground.data }], none⟩) rfl (by rfl) (by rfl) (fun w' hw' hF R__ hGo => ?_) ⟨_, rfl⟩ ?_
      · go_simp
        refine gives_enter rfl ?_
        refine (ValidMatrix_any r c A n cap xs _ (hr1.below hw'.undrew)).mono ?_
        rintro e w2 ⟨rfl, hx⟩
        exact ⟨_, rfl, hGo _ _ hx (congrArg Value.bool hv) trivial⟩
      intro v hv
      obtain rfl : v = (.bool true) := hv
      simp only [Act.put, List.setIfInBounds_toArray, List.set_cons_zero, List.set_cons_succ]
      refine' wpT_det (o := ⟨some 8, Op.unOp UnOp.not 4 (Operand.tmp 7), 4, "l02_matrices.go:256", #[{ on := 1, ground := Ground.data }], none⟩) rfl (by rfl) (by rfl) (fun w' hw' => ?_) ?_; rotate_left
      · go_simp <;> first | rfl | exact ⟨rfl, rfl⟩
      simp only [Act.put, List.setIfInBounds_toArray, List.set_cons_zero, List.set_cons_succ]
      refine' wpT_det (o := ⟨some 9, Op.move (Operand.tmp 8), 4, "l02_matrices.go:256", #[{ on := 2, ground := Ground.data }, { on := 1, ground := Ground.chain }], none⟩) rfl (by rfl) (by rfl) (fun w' hw' => ?_) ?_; rotate_left
      · go_simp <;> first | rfl | exact ⟨rfl, rfl⟩
      simp only [Act.put, List.setIfInBounds_toArray, List.set_cons_zero, List.set_cons_succ]
      refine' wpT_det (o := ⟨some 10, Op.move (Operand.tmp 1), 22, "l02_matrices.go:256", #[{ on := 3, ground := Ground.guard }], some (3, false)⟩) rfl (by rfl) (by rfl) (fun w' hw' => ?_) ?_; rotate_left
      · go_simp <;> first | rfl | exact ⟨rfl, rfl⟩
      simp only [Act.put, List.setIfInBounds_toArray, List.set_cons_zero, List.set_cons_succ]
      refine wpT_nd (o := ⟨some 11, Op.call { callee := Callee.value (Operand.func 129), args := #[Operand.tmp 10], argTypes := #[22] }, 4, "l02_matrices.go:256", #[{ on := 4, ground := Ground.data }, { on := 3, ground := Ground.chain }, { on := 3, ground := Ground.guard }], some (3, false)⟩) rfl (by rfl) (by rfl) (fun w' hw' hF R__ hGo => ?_) ⟨_, rfl⟩ ?_
      · go_simp
        refine gives_enter rfl ?_
        refine (IsVector_any B m cap' vs _ ((hq.below hx0).below hw'.undrew)).mono ?_
        rintro e w2 ⟨rfl, hx⟩
        exact ⟨_, rfl, hGo _ _ hx (congrArg Value.bool hv') trivial⟩
      intro v hv
      obtain rfl : v = (.bool false) := hv
      simp only [Act.put, List.setIfInBounds_toArray, List.set_cons_zero, List.set_cons_succ]
      refine' wpT_det (o := ⟨some 12, Op.unOp UnOp.not 4 (Operand.tmp 11), 4, "l02_matrices.go:256", #[{ on := 5, ground := Ground.data }, { on := 3, ground := Ground.guard }], some (3, false)⟩) rfl (by rfl) (by rfl) (fun w' hw' => ?_) ?_; rotate_left
      · go_simp <;> first | rfl | exact ⟨rfl, rfl⟩
      simp only [Act.put, List.setIfInBounds_toArray, List.set_cons_zero, List.set_cons_succ]
      refine' wpT_det (o := ⟨some 13, Op.pick (Operand.tmp 9) (Operand.const (Value.bool true)) (Operand.tmp 12), 4, "l02_matrices.go:256", #[{ on := 3, ground := Ground.data }, { on := 6, ground := Ground.data }], none⟩) rfl (by rfl) (by rfl) (fun w' hw' => ?_) ?_; rotate_left
      · go_simp <;> first | rfl | exact ⟨rfl, rfl⟩
      simp only [Act.put, List.setIfInBounds_toArray, List.set_cons_zero, List.set_cons_succ]
      refine' wpT_det (o := ⟨some 14, Op.move (Operand.tmp 13), 4, "l02_matrices.go:256", #[{ on := 7, ground := Ground.data }, { on := 5, ground := Ground.chain }], none⟩) rfl (by rfl) (by rfl) (fun w' hw' => ?_) ?_; rotate_left
      · go_simp <;> first | rfl | exact ⟨rfl, rfl⟩
      simp only [Act.put, List.setIfInBounds_toArray, List.set_cons_zero, List.set_cons_succ]
      refine wpT_skip (o := ⟨some 15, Op.move (Operand.tmp 1), 22, "l02_matrices.go:256", #[{ on := 8, ground := Ground.guard }], some (8, false)⟩) rfl (by rfl) ?_
      simp only [Act.put, List.setIfInBounds_toArray, List.set_cons_zero, List.set_cons_succ]
      refine wpT_skip (o := ⟨some 16, Op.call { callee := Callee.value (Operand.func 101), args := #[Operand.tmp 15], argTypes := #[22] }, 2, "l02_matrices.go:256", #[{ on := 9, ground := Ground.data }, { on := 8, ground := Ground.chain }, { on := 8, ground := Ground.guard }], some (8, false)⟩) rfl (by rfl) ?_
      simp only [Act.put, List.setIfInBounds_toArray, List.set_cons_zero, List.set_cons_succ]
      refine wpT_skip (o := ⟨some 17, Op.fieldAddr 35 (Operand.tmp 2) 1, 0, "l02_matrices.go:256", #[{ on := 8, ground := Ground.guard }], some (8, false)⟩) rfl (by rfl) ?_
      simp only [Act.put, List.setIfInBounds_toArray, List.set_cons_zero, List.set_cons_succ]
      refine wpT_skip (o := ⟨some 18, Op.load 2 (Operand.tmp 17), 2, "l02_matrices.go:256", #[{ on := 11, ground := Ground.data }, { on := 8, ground := Ground.guard }], some (8, false)⟩) rfl (by rfl) ?_
      simp only [Act.put, List.setIfInBounds_toArray, List.set_cons_zero, List.set_cons_succ]
      refine wpT_skip (o := ⟨some 19, Op.binOp BinOp.neq 2 (Operand.tmp 16) (Operand.tmp 18) 2, 4, "l02_matrices.go:256", #[{ on := 10, ground := Ground.data }, { on := 12, ground := Ground.data }, { on := 8, ground := Ground.guard }], some (8, false)⟩) rfl (by rfl) ?_
      simp only [Act.put, List.setIfInBounds_toArray, List.set_cons_zero, List.set_cons_succ]
      refine' wpT_det (o := ⟨some 20, Op.pick (Operand.tmp 14) (Operand.const (Value.bool true)) (Operand.tmp 19), 4, "l02_matrices.go:256", #[{ on := 8, ground := Ground.data }, { on := 13, ground := Ground.data }], none⟩) rfl (by rfl) (by rfl) (fun w' hw' => ?_) ?_; rotate_left
      · go_simp <;> first | rfl | exact ⟨rfl, rfl⟩
      simp only [Act.put, List.setIfInBounds_toArray, List.set_cons_zero, List.set_cons_succ]
      refine wpT_nil (fun w1 hw' hF => ?_)
      refine wpList_nil ?_
      go_wp2_with fail
      go_ret2
      exact RetLDb.bad hd (hx0.trans hw'.undrew)
    | true =>
      by_cases hc : (m : Int) = c
      · have hc' : ((m : Int) != c) = false := by simp [hc]
        have hb : timesB r c xs vs = true := by unfold timesB; rw [hv, hv', HL'.out, decide_eq_true hc]; rfl
        obtain ⟨R, C, rfl, rfl, p1, p2, p3, p4, p5⟩ := mat_nat hv
        obtain rfl : m = C := by omega
        obtain ⟨d, hd⟩ : ∃ d, d = timesD R m xs vs := ⟨_, rfl⟩
        have hd' : d = giveL (timesF xs vs m R) := by rw [hd]; simp [timesD, hb]
        have HD := Lib.hid hd'
        have Hn : Hid (n = R * m) := by have := HL.out; show n = _; omega
        rw [← hd]
        clear hd hd' p5 hc
        go_enter Try.func79, Try.ntmps79
        go_upto_region 1 with (fail)
        obtain ⟨w0, hw0⟩ : ∃ w0, w0 = (w.alloc (.cells #[.int .i64 R, .int .i64 m, .slice A n cap] 35)) := ⟨_, rfl⟩
        have hx0 : Ext w w0 := by subst hw0; exact (Ext.refl _).alloc _
        have ba : Blk w0 (w.heap.size) #[.int .i64 R, .int .i64 m, .slice A n cap] 35 := by subst hw0; exact (Blk.new w _ _)
        rw [← hw0]
        clear hw0
        obtain ⟨c0, c1, c2, hr1⟩ := MAt.blk ba (hr.below hx0)
        refine wp_region_T (cs := []) [0, 1, 2, 3, 4, 5, 6, 7, 8, 9, 10, 11, 12, 13, 14] [] [1, 5, 10] [] (fun i__ v => match i__ with | 1 => v = (.bool true) | 5 => v = (.bool true) | 10 => v = (.int .i64 m) | _ => False) (fun _ _ _ => True) (by kernel_rfl) (by kernel_rfl) (fun _ _ _ _ _ _ => trivial) ?_
        refine' wpT_det (o := ⟨some 6, Op.load 35 (Operand.tmp 2), 35, "l02_matrices.go:256", #[], none⟩) rfl (by rfl) (by rfl) (fun w' hw' => ?_) ?_; rotate_left
        · have c0_ := Ext.cell hw' c0; have c1_ := Ext.cell hw' c1; have c2_ := Ext.cell hw' c2; go_simp <;> first | rfl | exact ⟨rfl, rfl⟩
        simp only [Act.put, List.setIfInBounds_toArray, List.set_cons_zero, List.set_cons_succ]
        refine wpT_nd (o := ⟨some 7, Op.call { callee := Callee.value (Operand.func 123), args := #[Operand.tmp 6], argTypes := #[35] }, 4, "l02_matrices.go:256", #[{ on := 0, ground := Ground.data }], none⟩) rfl (by rfl) (by rfl) (fun w' hw' hF R__ hGo => ?_) ⟨_, rfl⟩ ?_
        · go_simp
          refine gives_enter rfl ?_
          refine (ValidMatrix_any _ _ A n cap xs _ (hr1.below hw'.undrew)).mono ?_
          rintro e w2 ⟨rfl, hx⟩
          exact ⟨_, rfl, hGo _ _ hx (congrArg Value.bool hv) trivial⟩
        intro v hv
        obtain rfl : v = (.bool true) := hv
        simp only [Act.put, List.setIfInBounds_toArray, List.set_cons_zero, List.set_cons_succ]
        refine' wpT_det (o := ⟨some 8, Op.unOp UnOp.not 4 (Operand.tmp 7), 4, "l02_matrices.go:256", #[{ on := 1, ground := Ground.data }], none⟩) rfl (by rfl) (by rfl) (fun w' hw' => ?_) ?_; rotate_left
        · go_simp <;> first | rfl | exact ⟨rfl, rfl⟩
        simp only [Act.put, List.setIfInBounds_toArray, List.set_cons_zero, List.set_cons_succ]
        refine' wpT_det (o := ⟨some 9, Op.move (Operand.tmp 8), 4, "l02_matrices.go:256", #[{ on := 2, ground := Ground.data }, { on := 1, ground := Ground.chain }], none⟩) rfl (by rfl) (by rfl) (fun w' hw' => ?_) ?_; rotate_left
        · go_simp <;> first | rfl | exact ⟨rfl, rfl⟩
        simp only [Act.put, List.setIfInBounds_toArray, List.set_cons_zero, List.set_cons_succ]
        refine' wpT_det (o := ⟨some 10, Op.move (Operand.tmp 1), 22, "l02_matrices.go:256", #[{ on := 3, ground := Ground.guard }], some (3, false)⟩) rfl (by rfl) (by rfl) (fun w' hw' => ?_) ?_; rotate_left
        · go_simp <;> first | rfl | exact ⟨rfl, rfl⟩
        simp only [Act.put, List.setIfInBounds_toArray, List.set_cons_zero, List.set_cons_succ]
        refine wpT_nd (o := ⟨some 11, Op.call { callee := Callee.value (Operand.func 129), args := #[Operand.tmp 10], argTypes := #[22] }, 4, "l02_matrices.go:256", #[{ on := 4, ground := Ground.data }, { on := 3, ground := Ground.chain }, { on := 3, ground := Ground.guard }], some (3, false)⟩) rfl (by rfl) (by rfl) (fun w' hw' hF R__ hGo => ?_) ⟨_, rfl⟩ ?_
        · go_simp
          refine gives_enter rfl ?_
          refine (IsVector_any B m cap' vs _ ((hq.below hx0).below hw'.undrew)).mono ?_
          rintro e w2 ⟨rfl, hx⟩
          exact ⟨_, rfl, hGo _ _ hx (congrArg Value.bool hv') trivial⟩
        intro v hv
        obtain rfl : v = (.bool true) := hv
        simp only [Act.put, List.setIfInBounds_toArray, List.set_cons_zero, List.set_cons_succ]
        refine' wpT_det (o := ⟨some 12, Op.unOp UnOp.not 4 (Operand.tmp 11), 4, "l02_matrices.go:256", #[{ on := 5, ground := Ground.data }, { on := 3, ground := Ground.guard }], some (3, false)⟩) rfl (by rfl) (by rfl) (fun w' hw' => ?_) ?_; rotate_left
        · go_simp <;> first | rfl | exact ⟨rfl, rfl⟩
        simp only [Act.put, List.setIfInBounds_toArray, List.set_cons_zero, List.set_cons_succ]
        refine' wpT_det (o := ⟨some 13, Op.pick (Operand.tmp 9) (Operand.const (Value.bool true)) (Operand.tmp 12), 4, "l02_matrices.go:256", #[{ on := 3, ground := Ground.data }, { on := 6, ground := Ground.data }], none⟩) rfl (by rfl) (by rfl) (fun w' hw' => ?_) ?_; rotate_left
        · go_simp <;> first | rfl | exact ⟨rfl, rfl⟩
        simp only [Act.put, List.setIfInBounds_toArray, List.set_cons_zero, List.set_cons_succ]
        refine' wpT_det (o := ⟨some 14, Op.move (Operand.tmp 13), 4, "l02_matrices.go:256", #[{ on := 7, ground := Ground.data }, { on := 5, ground := Ground.chain }], none⟩) rfl (by rfl) (by rfl) (fun w' hw' => ?_) ?_; rotate_left
        · go_simp <;> first | rfl | exact ⟨rfl, rfl⟩
        simp only [Act.put, List.setIfInBounds_toArray, List.set_cons_zero, List.set_cons_succ]
        refine' wpT_det (o := ⟨some 15, Op.move (Operand.tmp 1), 22, "l02_matrices.go:256", #[{ on := 8, ground := Ground.guard }], some (8, false)⟩) rfl (by rfl) (by rfl) (fun w' hw' => ?_) ?_; rotate_left
        · go_simp <;> first | rfl | exact ⟨rfl, rfl⟩
        simp only [Act.put, List.setIfInBounds_toArray, List.set_cons_zero, List.set_cons_succ]
        refine wpT_nd (o := ⟨some 16, Op.call { callee := Callee.value (Operand.func 101), args := #[Operand.tmp 15], argTypes := #[22] }, 2, "l02_matrices.go:256", #[{ on := 9, ground := Ground.data }, { on := 8, ground := Ground.chain }, { on := 8, ground := Ground.guard }], some (8, false)⟩) rfl (by rfl) (by rfl) (fun w' hw' hF R__ hGo => ?_) ⟨_, rfl⟩ ?_
        · go_simp
          refine gives_enter rfl ?_
          refine (lengthF_any _ _ _ hsm _).mono ?_
          rintro e w2 ⟨rfl, rfl⟩
          exact ⟨_, rfl, hGo _ _ (Ext.refl _) rfl trivial⟩
        intro v hv
        obtain rfl : v = (.int .i64 m) := hv
        simp only [Act.put, List.setIfInBounds_toArray, List.set_cons_zero, List.set_cons_succ]
        refine' wpT_det (o := ⟨some 17, Op.fieldAddr 35 (Operand.tmp 2) 1, 0, "l02_matrices.go:256", #[{ on := 8, ground := Ground.guard }], some (8, false)⟩) rfl (by rfl) (by rfl) (fun w' hw' => ?_) ?_; rotate_left
        · go_simp <;> first | rfl | exact ⟨rfl, rfl⟩
        simp only [Act.put, List.setIfInBounds_toArray, List.set_cons_zero, List.set_cons_succ]
        refine' wpT_det (o := ⟨some 18, Op.load 2 (Operand.tmp 17), 2, "l02_matrices.go:256", #[{ on := 11, ground := Ground.data }, { on := 8, ground := Ground.guard }], some (8, false)⟩) rfl (by rfl) (by rfl) (fun w' hw' => ?_) ?_; rotate_left
        · have c0_ := Ext.cell hw' c0; have c1_ := Ext.cell hw' c1; have c2_ := Ext.cell hw' c2; go_simp <;> first | rfl | exact ⟨rfl, rfl⟩
        simp only [Act.put, List.setIfInBounds_toArray, List.set_cons_zero, List.set_cons_succ]
        refine' wpT_det (o := ⟨some 19, Op.binOp BinOp.neq 2 (Operand.tmp 16) (Operand.tmp 18) 2, 4, "l02_matrices.go:256", #[{ on := 10, ground := Ground.data }, { on := 12, ground := Ground.data }, { on := 8, ground := Ground.guard }], some (8, false)⟩) rfl (by rfl) (by rfl) (fun w' hw' => ?_) ?_; rotate_left
        · go_simp <;> first | rfl | exact ⟨rfl, rfl⟩
        simp only [Act.put, List.setIfInBounds_toArray, List.set_cons_zero, List.set_cons_succ]
        refine' wpT_det (o := ⟨some 20, Op.pick (Operand.tmp 14) (Operand.const (Value.bool true)) (Operand.tmp 19), 4, "l02_matrices.go:256", #[{ on := 8, ground := Ground.data }, { on := 13, ground := Ground.data }], none⟩) rfl (by rfl) (by rfl) (fun w' hw' => ?_) ?_; rotate_left
        · go_simp <;> first | rfl | exact ⟨rfl, rfl⟩
        simp only [Act.put, List.setIfInBounds_toArray, List.set_cons_zero, List.set_cons_succ]
        refine wpT_nil (fun w1 hw' hF => ?_)
        refine wpList_nil ?_
        replace ba := ba.ext hw'.undrew
        replace hx0 := hx0.trans hw'.undrew
        clear c0 c1 c2 hr1 hF hw'
        obtain ⟨c0, c1, c2, hr1⟩ := MAt.blk ba (hr.below hx0)
        go_wp2_with fail
        refine (timesVector_any R m n cap m cap' A B xs vs _ p2 p4 p3 Hn.out hcap (Nat.le_refl _) hr1 (hq.below hx0)).mono ?_
        rintro e w3 ⟨A1, k1, zs, hz, rfl, ho, hx⟩
        have ho' := ho.base hx0.size
        replace hx0 := hx0.trans hx
        clear ho hx c0 c1 c2
        go_wp2_with fail
        refine (allFinite_any w.heap.size A1 R k1 zs _ ho' hx0.size).mono ?_
        rw [hz, ← HD.out]
        rintro e w4 ⟨A2, k2, rfl, ho, hx⟩
        go_wp2_with fail
        go_ret2
        exact ⟨A2, k2, rfl, ho, hx0.trans hx⟩
      · have hc' : ((m : Int) != c) = true := by simp [hc]
        have hd : timesD r c xs vs = ([], false) := tD_bad (by unfold timesB; rw [hv, hv', HL'.out, decide_eq_false hc]; rfl)
        go_enter Try.func79, Try.ntmps79
        go_upto_region 1 with (fail)
        obtain ⟨w0, hw0⟩ : ∃ w0, w0 = (w.alloc (.cells #[.int .i64 r, .int .i64 c, .slice A n cap] 35)) := ⟨_, rfl⟩
        have hx0 : Ext w w0 := by subst hw0; exact (Ext.refl _).alloc _
        have ba : Blk w0 (w.heap.size) #[.int .i64 r, .int .i64 c, .slice A n cap] 35 := by subst hw0; exact (Blk.new w _ _)
        rw [← hw0]
        clear hw0
        obtain ⟨c0, c1, c2, hr1⟩ := MAt.blk ba (hr.below hx0)
        refine wp_region_T (cs := []) [0, 1, 2, 3, 4, 5, 6, 7, 8, 9, 10, 11, 12, 13, 14] [] [1, 5, 10] [] (fun i__ v => match i__ with | 1 => v = (.bool true) | 5 => v = (.bool true) | 10 => v = (.int .i64 m) | _ => False) (fun _ _ _ => True) (by kernel_rfl) (by kernel_rfl) (fun _ _ _ _ _ _ => trivial) ?_
        refine' wpT_det (o := ⟨some 6, Op.load 35 (Operand.tmp 2), 35, "l02_matrices.go:256", #[], none⟩) rfl (by rfl) (by rfl) (fun w' hw' => ?_) ?_; rotate_left
        · have c0_ := Ext.cell hw' c0; have c1_ := Ext.cell hw' c1; have c2_ := Ext.cell hw' c2; go_simp <;> first | rfl | exact ⟨rfl, rfl⟩
        simp only [Act.put, List.setIfInBounds_toArray, List.set_cons_zero, List.set_cons_succ]
        refine wpT_nd (o := ⟨some 7, Op.call { callee := Callee.value (Operand.func 123), args := #[Operand.tmp 6], argTypes := #[35] }, 4, "l02_matrices.go:256", #[{ on := 0, ground := Ground.data }], none⟩) rfl (by rfl) (by rfl) (fun w' hw' hF R__ hGo => ?_) ⟨_, rfl⟩ ?_
        · go_simp
          refine gives_enter rfl ?_
          refine (ValidMatrix_any r c A n cap xs _ (hr1.below hw'.undrew)).mono ?_
          rintro e w2 ⟨rfl, hx⟩
          exact ⟨_, rfl, hGo _ _ hx (congrArg Value.bool hv) trivial⟩
        intro v hv
        obtain rfl : v = (.bool true) := hv
        simp only [Act.put, List.setIfInBounds_toArray, List.set_cons_zero, List.set_cons_succ]
        refine' wpT_det (o := ⟨some 8, Op.unOp UnOp.not 4 (Operand.tmp 7), 4, "l02_matrices.go:256", #[{ on := 1, ground := Ground.data }], none⟩) rfl (by rfl) (by rfl) (fun w' hw' => ?_) ?_; rotate_left
        · go_simp <;> first | rfl | exact ⟨rfl, rfl⟩
        simp only [Act.put, List.setIfInBounds_toArray, List.set_cons_zero, List.set_cons_succ]
        refine' wpT_det (o := ⟨some 9, Op.move (Operand.tmp 8), 4, "l02_matrices.go:256", #[{ on := 2, ground := Ground.data }, { on := 1, ground := Ground.chain }], none⟩) rfl (by rfl) (by rfl) (fun w' hw' => ?_) ?_; rotate_left
        · go_simp <;> first | rfl | exact ⟨rfl, rfl⟩
        simp only [Act.put, List.setIfInBounds_toArray, List.set_cons_zero, List.set_cons_succ]
        refine' wpT_det (o := ⟨some 10, Op.move (Operand.tmp 1), 22, "l02_matrices.go:256", #[{ on := 3, ground := Ground.guard }], some (3, false)⟩) rfl (by rfl) (by rfl) (fun w' hw' => ?_) ?_; rotate_left
        · go_simp <;> first | rfl | exact ⟨rfl, rfl⟩
        simp only [Act.put, List.setIfInBounds_toArray, List.set_cons_zero, List.set_cons_succ]
        refine wpT_nd (o := ⟨some 11, Op.call { callee := Callee.value (Operand.func 129), args := #[Operand.tmp 10], argTypes := #[22] }, 4, "l02_matrices.go:256", #[{ on := 4, ground := Ground.data }, { on := 3, ground := Ground.chain }, { on := 3, ground := Ground.guard }], some (3, false)⟩) rfl (by rfl) (by rfl) (fun w' hw' hF R__ hGo => ?_) ⟨_, rfl⟩ ?_
        · go_simp
          refine gives_enter rfl ?_
          refine (IsVector_any B m cap' vs _ ((hq.below hx0).below hw'.undrew)).mono ?_
          rintro e w2 ⟨rfl, hx⟩
          exact ⟨_, rfl, hGo _ _ hx (congrArg Value.bool hv') trivial⟩
        intro v hv
        obtain rfl : v = (.bool true) := hv
        simp only [Act.put, List.setIfInBounds_toArray, List.set_cons_zero, List.set_cons_succ]
        refine' wpT_det (o := ⟨some 12, Op.unOp UnOp.not 4 (Operand.tmp 11), 4, "l02_matrices.go:256", #[{ on := 5, ground := Ground.data }, { on := 3, ground := Ground.guard }], some (3, false)⟩) rfl (by rfl) (by rfl) (fun w' hw' => ?_) ?_; rotate_left
        · go_simp <;> first | rfl | exact ⟨rfl, rfl⟩
        simp only [Act.put, List.setIfInBounds_toArray, List.set_cons_zero, List.set_cons_succ]
        refine' wpT_det (o := ⟨some 13, Op.pick (Operand.tmp 9) (Operand.const (Value.bool true)) (Operand.tmp 12), 4, "l02_matrices.go:256", #[{ on := 3, ground := Ground.data }, { on := 6, ground := Ground.data }], none⟩) rfl (by rfl) (by rfl) (fun w' hw' => ?_) ?_; rotate_left
        · go_simp <;> first | rfl | exact ⟨rfl, rfl⟩
        simp only [Act.put, List.setIfInBounds_toArray, List.set_cons_zero, List.set_cons_succ]
        refine' wpT_det (o := ⟨some 14, Op.move (Operand.tmp 13), 4, "l02_matrices.go:256", #[{ on := 7, ground := Ground.data }, { on := 5, ground := Ground.chain }], none⟩) rfl (by rfl) (by rfl) (fun w' hw' => ?_) ?_; rotate_left
        · go_simp <;> first | rfl | exact ⟨rfl, rfl⟩
        simp only [Act.put, List.setIfInBounds_toArray, List.set_cons_zero, List.set_cons_succ]
        refine' wpT_det (o := ⟨some 15, Op.move (Operand.tmp 1), 22, "l02_matrices.go:256", #[{ on := 8, ground := Ground.guard }], some (8, false)⟩) rfl (by rfl) (by rfl) (fun w' hw' => ?_) ?_; rotate_left
        · go_simp <;> first | rfl | exact ⟨rfl, rfl⟩
        simp only [Act.put, List.setIfInBounds_toArray, List.set_cons_zero, List.set_cons_succ]
        refine wpT_nd (o := ⟨some 16, Op.call { callee := Callee.value (Operand.func 101), args := #[Operand.tmp 15], argTypes := #[22] }, 2, "l02_matrices.go:256", #[{ on := 9, ground := Ground.data }, { on := 8, ground := Ground.chain }, { on := 8, ground := Ground.guard }], some (8, false)⟩) rfl (by rfl) (by rfl) (fun w' hw' hF R__ hGo => ?_) ⟨_, rfl⟩ ?_
        · go_simp
          refine gives_enter rfl ?_
          refine (lengthF_any _ _ _ hsm _).mono ?_
          rintro e w2 ⟨rfl, rfl⟩
          exact ⟨_, rfl, hGo _ _ (Ext.refl _) rfl trivial⟩
        intro v hv
        obtain rfl : v = (.int .i64 m) := hv
        simp only [Act.put, List.setIfInBounds_toArray, List.set_cons_zero, List.set_cons_succ]
        refine' wpT_det (o := ⟨some 17, Op.fieldAddr 35 (Operand.tmp 2) 1, 0, "l02_matrices.go:256", #[{ on := 8, ground := Ground.guard }], some (8, false)⟩) rfl (by rfl) (by rfl) (fun w' hw' => ?_) ?_; rotate_left
        · go_simp <;> first | rfl | exact ⟨rfl, rfl⟩
        simp only [Act.put, List.setIfInBounds_toArray, List.set_cons_zero, List.set_cons_succ]
        refine' wpT_det (o := ⟨some 18, Op.load 2 (Operand.tmp 17), 2, "l02_matrices.go:256", #[{ on := 11, ground := Ground.data }, { on := 8, ground := Ground.guard }], some (8, false)⟩) rfl (by rfl) (by rfl) (fun w' hw' => ?_) ?_; rotate_left
        · have c0_ := Ext.cell hw' c0; have c1_ := Ext.cell hw' c1; have c2_ := Ext.cell hw' c2; go_simp <;> first | rfl | exact ⟨rfl, rfl⟩
        simp only [Act.put, List.setIfInBounds_toArray, List.set_cons_zero, List.set_cons_succ]
        refine' wpT_det (o := ⟨some 19, Op.binOp BinOp.neq 2 (Operand.tmp 16) (Operand.tmp 18) 2, 4, "l02_matrices.go:256", #[{ on := 10, ground := Ground.data }, { on := 12, ground := Ground.data }, { on := 8, ground := Ground.guard }], some (8, false)⟩) rfl (by rfl) (by rfl) (fun w' hw' => ?_) ?_; rotate_left
        · go_simp <;> first | rfl | exact ⟨rfl, rfl⟩
        simp only [Act.put, List.setIfInBounds_toArray, List.set_cons_zero, List.set_cons_succ]
        refine' wpT_det (o := ⟨some 20, Op.pick (Operand.tmp 14) (Operand.const (Value.bool true)) (Operand.tmp 19), 4, "l02_matrices.go:256", #[{ on := 8, ground := Ground.data }, { on := 13, ground := Ground.data }], none⟩) rfl (by rfl) (by rfl) (fun w' hw' => ?_) ?_; rotate_left
        · go_simp <;> first | rfl | exact ⟨rfl, rfl⟩
        simp only [Act.put, List.setIfInBounds_toArray, List.set_cons_zero, List.set_cons_succ]
        refine wpT_nil (fun w1 hw' hF => ?_)
        refine wpList_nil ?_
        go_wp2_with fail
        go_ret2
        exact RetLDb.bad hd (hx0.trans hw'.undrew)

end Go.Proofs.Ytgjfdfmbknmpaaa
