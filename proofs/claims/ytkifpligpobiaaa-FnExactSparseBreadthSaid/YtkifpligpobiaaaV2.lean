
import Derived.Test.YtkifpligpobiaaaV1
set_option linter.unusedVariables false
set_option linter.unusedSimpArgs false

namespace Go.Proofs.Ytkifpligpobiaaa

open Go.RowKit


theorem allIn_of {sd : Int} {st co : List Int} {va : List Nat} (h : IsSp sd st co va) : (co.all fun x => inR 0 x (sd - 1)) = true := by
  refine List.all_eq_true.2 fun x hx => ?_
  obtain ⟨k, hk, rfl⟩ := List.mem_iff_getElem.1 hx
  have := h.s9 k hk
  rw [rd_get hk] at this
  exact inR_iff.2 (by omega)
theorem starts_in {sd : Int} {st : List Int} {m : Nat} (h8 : ∀ i : Nat, (i : Int) < sd → rd st i ≤ rd st ((i : Int) + 1)) (h0 : rd st 0 = 0) (h1 : rd st sd = m) (hs : 0 ≤ sd) : ∀ i : Nat, (i : Int) ≤ sd → 0 ≤ rd st i ∧ rd st i ≤ m := by
  have up : ∀ i : Nat, (i : Int) ≤ sd → 0 ≤ rd st i := by
    intro i
    induction i with
    | zero => intro _; have : rd st ((0 : Nat) : Int) = 0 := h0; omega
    | succ i ih =>
      intro h
      have a := ih (by omega)
      have b := h8 i (by omega)
      have e1 : ((i + 1 : Nat) : Int) = (i : Int) + 1 := by omega
      rw [e1]
      omega
  have dn : ∀ d i : Nat, (i : Int) + d = sd → rd st i ≤ m := by
    intro d
    induction d with
    | zero => intro i h; have e : (i : Int) = sd := by omega
              rw [e]; omega
    | succ d ih =>
      intro i h
      have a := ih (i + 1) (by omega)
      have b := h8 i (by omega)
      have e1 : ((i + 1 : Nat) : Int) = (i : Int) + 1 := by omega
      rw [e1] at a
      omega
  exact fun i hi => ⟨up i hi, dn (sd - i).toNat i (by omega)⟩

set_option maxRecDepth 20000 in
set_option maxHeartbeats 8000000 in
theorem implValidSparse_any (sd : Int) (A : Option Addr) (n ca : Nat) (B : Option Addr) (m cb : Nat) (V : Option Addr) (p cv : Nat) (st co : List Int) (va : List Nat) (w : World) (hr : Rds w A n (ints st)) (hq : Rds w B m (ints co)) (hv : Rds w V p (flts va)) :
    Calls Try.prog 38 #[.agg #[.int .i64 sd, .slice A n ca, .slice B m cb, .slice V p cv]] w fun e w' => e = .returned (.bool (isSp sd st co va)) ∧ Ext w w' := by
  have hs := hr.small
  have hs2 := hq.small
  have hs3 := hv.small
  have HA := Lib.hid hr.ilen
  have HB := Lib.hid hq.ilen
  have HV := Lib.hid hv.flen
  obtain ⟨res, hres⟩ : ∃ res, res = isSp sd st co va := ⟨_, rfl⟩
  rw [← hres]
  have Hres := Lib.hid hres
  clear hres
  by_cases h1b : 1 ≤ sd ∧ sd ≤ 32
  rotate_left
  · have h1 : inR 1 sd 32 = false := by cases h : inR 1 sd 32 with | false => rfl | true => exact absurd (inR_iff.1 h) h1b
    have hno : isSp sd st co va = false := isSp_not fun h => h1b h.s1
    go_enter Try.func38, Try.ntmps38
    go_upto_region 1 with (fail)
    obtain ⟨w0, hw0⟩ : ∃ w0, w0 = (w.alloc (.cells #[.int .i64 sd, .slice A n ca, .slice B m cb, .slice V p cv] 27)) := ⟨_, rfl⟩
    have hx0 : Ext w w0 := by subst hw0; exact (Ext.refl _).alloc _
    have ba : Blk w0 (w.heap.size) #[.int .i64 sd, .slice A n ca, .slice B m cb, .slice V p cv] 27 := by subst hw0; exact (Blk.new w _ _)
    rw [← hw0]
    clear hw0
    have a0 := ba.cell 0 rfl
    have a1 := ba.cell 1 rfl
    have a2 := ba.cell 2 rfl
    have a3 := ba.cell 3 rfl
    go_wp2_with fail
    refine (length_any B m cb hs2 _).mono ?_
    rintro e w1 ⟨rfl, rfl⟩
    go_upto_region 2 with (fail)
    refine wp_region_T (cs := []) [0, 1, 2, 3, 4, 5, 6, 7, 8, 9, 10, 11, 12, 13, 14, 15, 16, 17, 18, 19, 20, 21, 22, 23, 24, 25, 26, 27, 28, 29, 30, 31, 32, 33, 34, 35, 36, 37, 38, 39, 40, 41, 42] [] [2] [] (fun i__ v => match i__ with | 2 => v = (.bool false) | _ => False) (fun _ _ _ => True) (by kernel_rfl) (by kernel_rfl) (fun _ _ _ _ _ _ => trivial) ?_
    refine' wpT_det (o := ⟨some 9, Op.fieldAddr 27 (Operand.tmp 1) 0, 0, "l05_sparse.go:26", #[], none⟩) rfl (by rfl) (by rfl) (fun w' hw' => ?_) ?_; rotate_left
    · go_simp <;> first | rfl | exact ⟨rfl, rfl⟩
    simp only [Act.put, List.setIfInBounds_toArray, List.set_cons_zero, List.set_cons_succ]
    refine' wpT_det (o := ⟨some 10, Op.load 2 (Operand.tmp 9), 2, "l05_sparse.go:26", #[{ on := 0, ground := Ground.data }], none⟩) rfl (by rfl) (by rfl) (fun w' hw' => ?_) ?_; rotate_left
    · have a0_ := Ext.cell hw' a0; have a1_ := Ext.cell hw' a1; have a2_ := Ext.cell hw' a2; have a3_ := Ext.cell hw' a3; go_simp <;> first | rfl | exact ⟨rfl, rfl⟩
    simp only [Act.put, List.setIfInBounds_toArray, List.set_cons_zero, List.set_cons_succ]
    refine wpT_nd (o := ⟨some 11, Op.call { callee := Callee.value (Operand.func 107), args := #[Operand.tmp 10, Operand.const (Value.int IntKind.i64 1), Operand.const (Value.int IntKind.i64 32)], argTypes := #[2, 2, 2] }, 4, "l05_sparse.go:26", #[{ on := 1, ground := Ground.data }], none⟩) rfl (by rfl) (by rfl) (fun w' hw' hF R__ hGo => ?_) ⟨_, rfl⟩ ?_
    · go_simp
      refine gives_enter rfl ?_
      refine (inRange_any _ _ _ _).mono ?_
      rintro e w2 ⟨rfl, rfl⟩
      exact ⟨_, rfl, hGo _ _ (Ext.refl _) (congrArg Value.bool h1) trivial⟩
    intro v hv
    obtain rfl : v = (.bool false) := hv
    simp only [Act.put, List.setIfInBounds_toArray, List.set_cons_zero, List.set_cons_succ]
    refine' wpT_det (o := ⟨some 12, Op.unOp UnOp.not 4 (Operand.tmp 11), 4, "l05_sparse.go:26", #[{ on := 2, ground := Ground.data }], none⟩) rfl (by rfl) (by rfl) (fun w' hw' => ?_) ?_; rotate_left
    · go_simp <;> first | rfl | exact ⟨rfl, rfl⟩
    simp only [Act.put, List.setIfInBounds_toArray, List.set_cons_zero, List.set_cons_succ]
    refine' wpT_det (o := ⟨some 13, Op.move (Operand.tmp 12), 4, "l05_sparse.go:26", #[{ on := 3, ground := Ground.data }, { on := 2, ground := Ground.chain }], none⟩) rfl (by rfl) (by rfl) (fun w' hw' => ?_) ?_; rotate_left
    · go_simp <;> first | rfl | exact ⟨rfl, rfl⟩
    simp only [Act.put, List.setIfInBounds_toArray, List.set_cons_zero, List.set_cons_succ]
    refine wpT_skip (o := ⟨some 14, Op.fieldAddr 27 (Operand.tmp 1) 1, 0, "l05_sparse.go:26", #[{ on := 4, ground := Ground.guard }], some (4, false)⟩) rfl (by rfl) ?_
    simp only [Act.put, List.setIfInBounds_toArray, List.set_cons_zero, List.set_cons_succ]
    refine wpT_skip (o := ⟨some 15, Op.load 22 (Operand.tmp 14), 22, "l05_sparse.go:26", #[{ on := 5, ground := Ground.data }, { on := 4, ground := Ground.guard }], some (4, false)⟩) rfl (by rfl) ?_
    simp only [Act.put, List.setIfInBounds_toArray, List.set_cons_zero, List.set_cons_succ]
    refine wpT_skip (o := ⟨some 16, Op.call { callee := Callee.value (Operand.func 87), args := #[Operand.tmp 15], argTypes := #[22] }, 2, "l05_sparse.go:26", #[{ on := 6, ground := Ground.data }, { on := 4, ground := Ground.chain }, { on := 4, ground := Ground.guard }], some (4, false)⟩) rfl (by rfl) ?_
    simp only [Act.put, List.setIfInBounds_toArray, List.set_cons_zero, List.set_cons_succ]
    refine wpT_skip (o := ⟨some 17, Op.fieldAddr 27 (Operand.tmp 1) 0, 0, "l05_sparse.go:26", #[{ on := 4, ground := Ground.guard }], some (4, false)⟩) rfl (by rfl) ?_
    simp only [Act.put, List.setIfInBounds_toArray, List.set_cons_zero, List.set_cons_succ]
    refine wpT_skip (o := ⟨some 18, Op.load 2 (Operand.tmp 17), 2, "l05_sparse.go:26", #[{ on := 8, ground := Ground.data }, { on := 4, ground := Ground.guard }], some (4, false)⟩) rfl (by rfl) ?_
    simp only [Act.put, List.setIfInBounds_toArray, List.set_cons_zero, List.set_cons_succ]
    refine wpT_skip (o := ⟨some 19, Op.binOp BinOp.add 2 (Operand.tmp 18) (Operand.const (Value.int IntKind.i64 1)) 2, 2, "l05_sparse.go:26", #[{ on := 9, ground := Ground.data }, { on := 4, ground := Ground.guard }], some (4, false)⟩) rfl (by rfl) ?_
    simp only [Act.put, List.setIfInBounds_toArray, List.set_cons_zero, List.set_cons_succ]
    refine wpT_skip (o := ⟨some 20, Op.binOp BinOp.neq 2 (Operand.tmp 16) (Operand.tmp 19) 2, 4, "l05_sparse.go:26", #[{ on := 7, ground := Ground.data }, { on := 10, ground := Ground.data }, { on := 4, ground := Ground.guard }], some (4, false)⟩) rfl (by rfl) ?_
    simp only [Act.put, List.setIfInBounds_toArray, List.set_cons_zero, List.set_cons_succ]
    refine' wpT_det (o := ⟨some 21, Op.pick (Operand.tmp 13) (Operand.const (Value.bool true)) (Operand.tmp 20), 4, "l05_sparse.go:26", #[{ on := 4, ground := Ground.data }, { on := 11, ground := Ground.data }], none⟩) rfl (by rfl) (by rfl) (fun w' hw' => ?_) ?_; rotate_left
    · go_simp <;> first | rfl | exact ⟨rfl, rfl⟩
    simp only [Act.put, List.setIfInBounds_toArray, List.set_cons_zero, List.set_cons_succ]
    refine' wpT_det (o := ⟨some 22, Op.move (Operand.tmp 21), 4, "l05_sparse.go:26", #[{ on := 12, ground := Ground.data }, { on := 7, ground := Ground.chain }], none⟩) rfl (by rfl) (by rfl) (fun w' hw' => ?_) ?_; rotate_left
    · go_simp <;> first | rfl | exact ⟨rfl, rfl⟩
    simp only [Act.put, List.setIfInBounds_toArray, List.set_cons_zero, List.set_cons_succ]
    refine wpT_skip (o := ⟨some 23, Op.move (Operand.tmp 3), 2, "l05_sparse.go:26", #[{ on := 13, ground := Ground.guard }], some (13, false)⟩) rfl (by rfl) ?_
    simp only [Act.put, List.setIfInBounds_toArray, List.set_cons_zero, List.set_cons_succ]
    refine wpT_skip (o := ⟨some 24, Op.binOp BinOp.gtr 2 (Operand.tmp 23) (Operand.const (Value.int IntKind.i64 512)) 2, 4, "l05_sparse.go:26", #[{ on := 14, ground := Ground.data }, { on := 13, ground := Ground.guard }], some (13, false)⟩) rfl (by rfl) ?_
    simp only [Act.put, List.setIfInBounds_toArray, List.set_cons_zero, List.set_cons_succ]
    refine' wpT_det (o := ⟨some 25, Op.pick (Operand.tmp 22) (Operand.const (Value.bool true)) (Operand.tmp 24), 4, "l05_sparse.go:26", #[{ on := 13, ground := Ground.data }, { on := 15, ground := Ground.data }], none⟩) rfl (by rfl) (by rfl) (fun w' hw' => ?_) ?_; rotate_left
    · go_simp <;> first | rfl | exact ⟨rfl, rfl⟩
    simp only [Act.put, List.setIfInBounds_toArray, List.set_cons_zero, List.set_cons_succ]
    refine' wpT_det (o := ⟨some 26, Op.move (Operand.tmp 25), 4, "l05_sparse.go:26", #[{ on := 16, ground := Ground.data }, { on := 13, ground := Ground.chain }], none⟩) rfl (by rfl) (by rfl) (fun w' hw' => ?_) ?_; rotate_left
    · go_simp <;> first | rfl | exact ⟨rfl, rfl⟩
    simp only [Act.put, List.setIfInBounds_toArray, List.set_cons_zero, List.set_cons_succ]
    refine wpT_skip (o := ⟨some 27, Op.fieldAddr 27 (Operand.tmp 1) 3, 0, "l05_sparse.go:26", #[{ on := 17, ground := Ground.guard }], some (17, false)⟩) rfl (by rfl) ?_
    simp only [Act.put, List.setIfInBounds_toArray, List.set_cons_zero, List.set_cons_succ]
    refine wpT_skip (o := ⟨some 28, Op.load 23 (Operand.tmp 27), 23, "l05_sparse.go:26", #[{ on := 18, ground := Ground.data }, { on := 17, ground := Ground.guard }], some (17, false)⟩) rfl (by rfl) ?_
    simp only [Act.put, List.setIfInBounds_toArray, List.set_cons_zero, List.set_cons_succ]
    refine wpT_skip (o := ⟨some 29, Op.call { callee := Callee.builtin Builtin.len, args := #[Operand.tmp 28], argTypes := #[23] }, 3, "l05_sparse.go:26", #[{ on := 19, ground := Ground.data }, { on := 17, ground := Ground.guard }], some (17, false)⟩) rfl (by rfl) ?_
    simp only [Act.put, List.setIfInBounds_toArray, List.set_cons_zero, List.set_cons_succ]
    refine wpT_skip (o := ⟨some 30, Op.fieldAddr 27 (Operand.tmp 1) 2, 0, "l05_sparse.go:26", #[{ on := 17, ground := Ground.guard }], some (17, false)⟩) rfl (by rfl) ?_
    simp only [Act.put, List.setIfInBounds_toArray, List.set_cons_zero, List.set_cons_succ]
    refine wpT_skip (o := ⟨some 31, Op.load 22 (Operand.tmp 30), 22, "l05_sparse.go:26", #[{ on := 21, ground := Ground.data }, { on := 17, ground := Ground.guard }], some (17, false)⟩) rfl (by rfl) ?_
    simp only [Act.put, List.setIfInBounds_toArray, List.set_cons_zero, List.set_cons_succ]
    refine wpT_skip (o := ⟨some 32, Op.call { callee := Callee.builtin Builtin.len, args := #[Operand.tmp 31], argTypes := #[22] }, 3, "l05_sparse.go:26", #[{ on := 22, ground := Ground.data }, { on := 17, ground := Ground.guard }], some (17, false)⟩) rfl (by rfl) ?_
    simp only [Act.put, List.setIfInBounds_toArray, List.set_cons_zero, List.set_cons_succ]
    refine wpT_skip (o := ⟨some 33, Op.binOp BinOp.neq 3 (Operand.tmp 29) (Operand.tmp 32) 3, 4, "l05_sparse.go:26", #[{ on := 20, ground := Ground.data }, { on := 23, ground := Ground.data }, { on := 17, ground := Ground.guard }], some (17, false)⟩) rfl (by rfl) ?_
    simp only [Act.put, List.setIfInBounds_toArray, List.set_cons_zero, List.set_cons_succ]
    refine' wpT_det (o := ⟨some 34, Op.pick (Operand.tmp 26) (Operand.const (Value.bool true)) (Operand.tmp 33), 4, "l05_sparse.go:26", #[{ on := 17, ground := Ground.data }, { on := 24, ground := Ground.data }], none⟩) rfl (by rfl) (by rfl) (fun w' hw' => ?_) ?_; rotate_left
    · go_simp <;> first | rfl | exact ⟨rfl, rfl⟩
    simp only [Act.put, List.setIfInBounds_toArray, List.set_cons_zero, List.set_cons_succ]
    refine' wpT_det (o := ⟨some 35, Op.move (Operand.tmp 34), 4, "l05_sparse.go:26", #[{ on := 25, ground := Ground.data }, { on := 17, ground := Ground.chain }], none⟩) rfl (by rfl) (by rfl) (fun w' hw' => ?_) ?_; rotate_left
    · go_simp <;> first | rfl | exact ⟨rfl, rfl⟩
    simp only [Act.put, List.setIfInBounds_toArray, List.set_cons_zero, List.set_cons_succ]
    refine wpT_skip (o := ⟨some 36, Op.fieldAddr 27 (Operand.tmp 1) 1, 0, "l05_sparse.go:26", #[{ on := 26, ground := Ground.guard }], some (26, false)⟩) rfl (by rfl) ?_
    simp only [Act.put, List.setIfInBounds_toArray, List.set_cons_zero, List.set_cons_succ]
    refine wpT_skip (o := ⟨some 37, Op.load 22 (Operand.tmp 36), 22, "l05_sparse.go:26", #[{ on := 27, ground := Ground.data }, { on := 26, ground := Ground.guard }], some (26, false)⟩) rfl (by rfl) ?_
    simp only [Act.put, List.setIfInBounds_toArray, List.set_cons_zero, List.set_cons_succ]
    refine wpT_skip (o := ⟨some 38, Op.indexAddr 22 (Operand.tmp 37) (Operand.const (Value.int IntKind.i64 0)), 0, "l05_sparse.go:26", #[{ on := 28, ground := Ground.data }, { on := 26, ground := Ground.guard }], some (26, false)⟩) rfl (by rfl) ?_
    simp only [Act.put, List.setIfInBounds_toArray, List.set_cons_zero, List.set_cons_succ]
    refine wpT_skip (o := ⟨some 39, Op.load 2 (Operand.tmp 38), 2, "l05_sparse.go:26", #[{ on := 29, ground := Ground.data }, { on := 26, ground := Ground.guard }], some (26, false)⟩) rfl (by rfl) ?_
    simp only [Act.put, List.setIfInBounds_toArray, List.set_cons_zero, List.set_cons_succ]
    refine wpT_skip (o := ⟨some 40, Op.binOp BinOp.neq 2 (Operand.tmp 39) (Operand.const (Value.int IntKind.i64 0)) 2, 4, "l05_sparse.go:26", #[{ on := 30, ground := Ground.data }, { on := 26, ground := Ground.guard }], some (26, false)⟩) rfl (by rfl) ?_
    simp only [Act.put, List.setIfInBounds_toArray, List.set_cons_zero, List.set_cons_succ]
    refine' wpT_det (o := ⟨some 41, Op.pick (Operand.tmp 35) (Operand.const (Value.bool true)) (Operand.tmp 40), 4, "l05_sparse.go:26", #[{ on := 26, ground := Ground.data }, { on := 31, ground := Ground.data }], none⟩) rfl (by rfl) (by rfl) (fun w' hw' => ?_) ?_; rotate_left
    · go_simp <;> first | rfl | exact ⟨rfl, rfl⟩
    simp only [Act.put, List.setIfInBounds_toArray, List.set_cons_zero, List.set_cons_succ]
    refine' wpT_det (o := ⟨some 42, Op.move (Operand.tmp 41), 4, "l05_sparse.go:26", #[{ on := 32, ground := Ground.data }, { on := 26, ground := Ground.chain }], none⟩) rfl (by rfl) (by rfl) (fun w' hw' => ?_) ?_; rotate_left
    · go_simp <;> first | rfl | exact ⟨rfl, rfl⟩
    simp only [Act.put, List.setIfInBounds_toArray, List.set_cons_zero, List.set_cons_succ]
    refine wpT_skip (o := ⟨some 43, Op.fieldAddr 27 (Operand.tmp 1) 1, 0, "l05_sparse.go:26", #[{ on := 33, ground := Ground.guard }], some (33, false)⟩) rfl (by rfl) ?_
    simp only [Act.put, List.setIfInBounds_toArray, List.set_cons_zero, List.set_cons_succ]
    refine wpT_skip (o := ⟨some 44, Op.load 22 (Operand.tmp 43), 22, "l05_sparse.go:26", #[{ on := 34, ground := Ground.data }, { on := 33, ground := Ground.guard }], some (33, false)⟩) rfl (by rfl) ?_
    simp only [Act.put, List.setIfInBounds_toArray, List.set_cons_zero, List.set_cons_succ]
    refine wpT_skip (o := ⟨some 45, Op.fieldAddr 27 (Operand.tmp 1) 0, 0, "l05_sparse.go:26", #[{ on := 33, ground := Ground.guard }], some (33, false)⟩) rfl (by rfl) ?_
    simp only [Act.put, List.setIfInBounds_toArray, List.set_cons_zero, List.set_cons_succ]
    refine wpT_skip (o := ⟨some 46, Op.load 2 (Operand.tmp 45), 2, "l05_sparse.go:26", #[{ on := 36, ground := Ground.data }, { on := 33, ground := Ground.guard }], some (33, false)⟩) rfl (by rfl) ?_
    simp only [Act.put, List.setIfInBounds_toArray, List.set_cons_zero, List.set_cons_succ]
    refine wpT_skip (o := ⟨some 47, Op.indexAddr 22 (Operand.tmp 44) (Operand.tmp 46), 0, "l05_sparse.go:26", #[{ on := 35, ground := Ground.data }, { on := 37, ground := Ground.data }, { on := 33, ground := Ground.guard }], some (33, false)⟩) rfl (by rfl) ?_
    simp only [Act.put, List.setIfInBounds_toArray, List.set_cons_zero, List.set_cons_succ]
    refine wpT_skip (o := ⟨some 48, Op.load 2 (Operand.tmp 47), 2, "l05_sparse.go:26", #[{ on := 38, ground := Ground.data }, { on := 33, ground := Ground.guard }], some (33, false)⟩) rfl (by rfl) ?_
    simp only [Act.put, List.setIfInBounds_toArray, List.set_cons_zero, List.set_cons_succ]
    refine wpT_skip (o := ⟨some 49, Op.move (Operand.tmp 3), 2, "l05_sparse.go:26", #[{ on := 33, ground := Ground.guard }], some (33, false)⟩) rfl (by rfl) ?_
    simp only [Act.put, List.setIfInBounds_toArray, List.set_cons_zero, List.set_cons_succ]
    refine wpT_skip (o := ⟨some 50, Op.binOp BinOp.neq 2 (Operand.tmp 48) (Operand.tmp 49) 2, 4, "l05_sparse.go:26", #[{ on := 39, ground := Ground.data }, { on := 40, ground := Ground.data }, { on := 33, ground := Ground.guard }], some (33, false)⟩) rfl (by rfl) ?_
    simp only [Act.put, List.setIfInBounds_toArray, List.set_cons_zero, List.set_cons_succ]
    refine' wpT_det (o := ⟨some 51, Op.pick (Operand.tmp 42) (Operand.const (Value.bool true)) (Operand.tmp 50), 4, "l05_sparse.go:26", #[{ on := 33, ground := Ground.data }, { on := 41, ground := Ground.data }], none⟩) rfl (by rfl) (by rfl) (fun w' hw' => ?_) ?_; rotate_left
    · go_simp <;> first | rfl | exact ⟨rfl, rfl⟩
    simp only [Act.put, List.setIfInBounds_toArray, List.set_cons_zero, List.set_cons_succ]
    refine wpT_nil (fun w' hw' hF => ?_)
    refine wpList_nil ?_
    go_wp2_with fail
    go_ret
    exact ⟨ret_bool (by rw [Hres.out, hno]), hx0.trans hw'.undrew⟩
  have h1 : inR 1 sd 32 = true := inR_iff.2 h1b
  have hw1 : IntKind.i64.wrap (sd + 1) = sd + 1 := IntWalk.i64_in _ (by omega)
  by_cases h2 : (n : Int) = sd + 1
  rotate_left
  · have h2' : ((n : Int) != sd + 1) = true := by simpa using h2
    have hno : isSp sd st co va = false := isSp_not fun h => h2 (by have := h.s2; rw [HA.out] at this; exact this)
    clear h2
    go_enter Try.func38, Try.ntmps38
    go_upto_region 1 with (fail)
    obtain ⟨w0, hw0⟩ : ∃ w0, w0 = (w.alloc (.cells #[.int .i64 sd, .slice A n ca, .slice B m cb, .slice V p cv] 27)) := ⟨_, rfl⟩
    have hx0 : Ext w w0 := by subst hw0; exact (Ext.refl _).alloc _
    have ba : Blk w0 (w.heap.size) #[.int .i64 sd, .slice A n ca, .slice B m cb, .slice V p cv] 27 := by subst hw0; exact (Blk.new w _ _)
    rw [← hw0]
    clear hw0
    have a0 := ba.cell 0 rfl
    have a1 := ba.cell 1 rfl
    have a2 := ba.cell 2 rfl
    have a3 := ba.cell 3 rfl
    go_wp2_with fail
    refine (length_any B m cb hs2 _).mono ?_
    rintro e w1 ⟨rfl, rfl⟩
    go_upto_region 2 with (fail)
    refine wp_region_T (cs := []) [0, 1, 2, 3, 4, 5, 6, 7, 8, 9, 10, 11, 12, 13, 14, 15, 16, 17, 18, 19, 20, 21, 22, 23, 24, 25, 26, 27, 28, 29, 30, 31, 32, 33, 34, 35, 36, 37, 38, 39, 40, 41, 42] [] [2, 7] [] (fun i__ v => match i__ with | 2 => v = (.bool true) | 7 => v = (.int .i64 n) | _ => False) (fun _ _ _ => True) (by kernel_rfl) (by kernel_rfl) (fun _ _ _ _ _ _ => trivial) ?_
    refine' wpT_det (o := ⟨some 9, Op.fieldAddr 27 (Operand.tmp 1) 0, 0, "l05_sparse.go:26", #[], none⟩) rfl (by rfl) (by rfl) (fun w' hw' => ?_) ?_; rotate_left
    · go_simp <;> first | rfl | exact ⟨rfl, rfl⟩
    simp only [Act.put, List.setIfInBounds_toArray, List.set_cons_zero, List.set_cons_succ]
    refine' wpT_det (o := ⟨some 10, Op.load 2 (Operand.tmp 9), 2, "l05_sparse.go:26", #[{ on := 0, ground := Ground.data }], none⟩) rfl (by rfl) (by rfl) (fun w' hw' => ?_) ?_; rotate_left
    · have a0_ := Ext.cell hw' a0; have a1_ := Ext.cell hw' a1; have a2_ := Ext.cell hw' a2; have a3_ := Ext.cell hw' a3; go_simp <;> first | rfl | exact ⟨rfl, rfl⟩
    simp only [Act.put, List.setIfInBounds_toArray, List.set_cons_zero, List.set_cons_succ]
    refine wpT_nd (o := ⟨some 11, Op.call { callee := Callee.value (Operand.func 107), args := #[Operand.tmp 10, Operand.const (Value.int IntKind.i64 1), Operand.const (Value.int IntKind.i64 32)], argTypes := #[2, 2, 2] }, 4, "l05_sparse.go:26", #[{ on := 1, ground := Ground.data }], none⟩) rfl (by rfl) (by rfl) (fun w' hw' hF R__ hGo => ?_) ⟨_, rfl⟩ ?_
    · go_simp
      refine gives_enter rfl ?_
      refine (inRange_any _ _ _ _).mono ?_
      rintro e w2 ⟨rfl, rfl⟩
      exact ⟨_, rfl, hGo _ _ (Ext.refl _) (congrArg Value.bool h1) trivial⟩
    intro v hv
    obtain rfl : v = (.bool true) := hv
    simp only [Act.put, List.setIfInBounds_toArray, List.set_cons_zero, List.set_cons_succ]
    refine' wpT_det (o := ⟨some 12, Op.unOp UnOp.not 4 (Operand.tmp 11), 4, "l05_sparse.go:26", #[{ on := 2, ground := Ground.data }], none⟩) rfl (by rfl) (by rfl) (fun w' hw' => ?_) ?_; rotate_left
    · go_simp <;> first | rfl | exact ⟨rfl, rfl⟩
    simp only [Act.put, List.setIfInBounds_toArray, List.set_cons_zero, List.set_cons_succ]
    refine' wpT_det (o := ⟨some 13, Op.move (Operand.tmp 12), 4, "l05_sparse.go:26", #[{ on := 3, ground := Ground.data }, { on := 2, ground := Ground.chain }], none⟩) rfl (by rfl) (by rfl) (fun w' hw' => ?_) ?_; rotate_left
    · go_simp <;> first | rfl | exact ⟨rfl, rfl⟩
    simp only [Act.put, List.setIfInBounds_toArray, List.set_cons_zero, List.set_cons_succ]
    refine' wpT_det (o := ⟨some 14, Op.fieldAddr 27 (Operand.tmp 1) 1, 0, "l05_sparse.go:26", #[{ on := 4, ground := Ground.guard }], some (4, false)⟩) rfl (by rfl) (by rfl) (fun w' hw' => ?_) ?_; rotate_left
    · go_simp <;> first | rfl | exact ⟨rfl, rfl⟩
    simp only [Act.put, List.setIfInBounds_toArray, List.set_cons_zero, List.set_cons_succ]
    refine' wpT_det (o := ⟨some 15, Op.load 22 (Operand.tmp 14), 22, "l05_sparse.go:26", #[{ on := 5, ground := Ground.data }, { on := 4, ground := Ground.guard }], some (4, false)⟩) rfl (by rfl) (by rfl) (fun w' hw' => ?_) ?_; rotate_left
    · have a0_ := Ext.cell hw' a0; have a1_ := Ext.cell hw' a1; have a2_ := Ext.cell hw' a2; have a3_ := Ext.cell hw' a3; go_simp <;> first | rfl | exact ⟨rfl, rfl⟩
    simp only [Act.put, List.setIfInBounds_toArray, List.set_cons_zero, List.set_cons_succ]
    refine wpT_nd (o := ⟨some 16, Op.call { callee := Callee.value (Operand.func 87), args := #[Operand.tmp 15], argTypes := #[22] }, 2, "l05_sparse.go:26", #[{ on := 6, ground := Ground.data }, { on := 4, ground := Ground.chain }, { on := 4, ground := Ground.guard }], some (4, false)⟩) rfl (by rfl) (by rfl) (fun w' hw' hF R__ hGo => ?_) ⟨_, rfl⟩ ?_
    · go_simp
      refine gives_enter rfl ?_
      refine (length_any _ _ _ hs _).mono ?_
      rintro e w2 ⟨rfl, rfl⟩
      exact ⟨_, rfl, hGo _ _ (Ext.refl _) rfl trivial⟩
    intro v hv
    obtain rfl : v = (.int .i64 n) := hv
    simp only [Act.put, List.setIfInBounds_toArray, List.set_cons_zero, List.set_cons_succ]
    refine' wpT_det (o := ⟨some 17, Op.fieldAddr 27 (Operand.tmp 1) 0, 0, "l05_sparse.go:26", #[{ on := 4, ground := Ground.guard }], some (4, false)⟩) rfl (by rfl) (by rfl) (fun w' hw' => ?_) ?_; rotate_left
    · go_simp <;> first | rfl | exact ⟨rfl, rfl⟩
    simp only [Act.put, List.setIfInBounds_toArray, List.set_cons_zero, List.set_cons_succ]
    refine' wpT_det (o := ⟨some 18, Op.load 2 (Operand.tmp 17), 2, "l05_sparse.go:26", #[{ on := 8, ground := Ground.data }, { on := 4, ground := Ground.guard }], some (4, false)⟩) rfl (by rfl) (by rfl) (fun w' hw' => ?_) ?_; rotate_left
    · have a0_ := Ext.cell hw' a0; have a1_ := Ext.cell hw' a1; have a2_ := Ext.cell hw' a2; have a3_ := Ext.cell hw' a3; go_simp <;> first | rfl | exact ⟨rfl, rfl⟩
    simp only [Act.put, List.setIfInBounds_toArray, List.set_cons_zero, List.set_cons_succ]
    refine' wpT_det (o := ⟨some 19, Op.binOp BinOp.add 2 (Operand.tmp 18) (Operand.const (Value.int IntKind.i64 1)) 2, 2, "l05_sparse.go:26", #[{ on := 9, ground := Ground.data }, { on := 4, ground := Ground.guard }], some (4, false)⟩) rfl (by rfl) (by rfl) (fun w' hw' => ?_) ?_; rotate_left
    · go_simp <;> first | rfl | exact ⟨rfl, rfl⟩
    simp only [Act.put, List.setIfInBounds_toArray, List.set_cons_zero, List.set_cons_succ]
    refine' wpT_det (o := ⟨some 20, Op.binOp BinOp.neq 2 (Operand.tmp 16) (Operand.tmp 19) 2, 4, "l05_sparse.go:26", #[{ on := 7, ground := Ground.data }, { on := 10, ground := Ground.data }, { on := 4, ground := Ground.guard }], some (4, false)⟩) rfl (by rfl) (by rfl) (fun w' hw' => ?_) ?_; rotate_left
    · go_simp <;> first | rfl | exact ⟨rfl, rfl⟩
    simp only [Act.put, List.setIfInBounds_toArray, List.set_cons_zero, List.set_cons_succ]
    refine' wpT_det (o := ⟨some 21, Op.pick (Operand.tmp 13) (Operand.const (Value.bool true)) (Operand.tmp 20), 4, "l05_sparse.go:26", #[{ on := 4, ground := Ground.data }, { on := 11, ground := Ground.data }], none⟩) rfl (by rfl) (by rfl) (fun w' hw' => ?_) ?_; rotate_left
    · go_simp <;> first | rfl | exact ⟨rfl, rfl⟩
    simp only [Act.put, List.setIfInBounds_toArray, List.set_cons_zero, List.set_cons_succ]
    refine' wpT_det (o := ⟨some 22, Op.move (Operand.tmp 21), 4, "l05_sparse.go:26", #[{ on := 12, ground := Ground.data }, { on := 7, ground := Ground.chain }], none⟩) rfl (by rfl) (by rfl) (fun w' hw' => ?_) ?_; rotate_left
    · go_simp <;> first | rfl | exact ⟨rfl, rfl⟩
    simp only [Act.put, List.setIfInBounds_toArray, List.set_cons_zero, List.set_cons_succ]
    refine wpT_skip (o := ⟨some 23, Op.move (Operand.tmp 3), 2, "l05_sparse.go:26", #[{ on := 13, ground := Ground.guard }], some (13, false)⟩) rfl (by rfl) ?_
    simp only [Act.put, List.setIfInBounds_toArray, List.set_cons_zero, List.set_cons_succ]
    refine wpT_skip (o := ⟨some 24, Op.binOp BinOp.gtr 2 (Operand.tmp 23) (Operand.const (Value.int IntKind.i64 512)) 2, 4, "l05_sparse.go:26", #[{ on := 14, ground := Ground.data }, { on := 13, ground := Ground.guard }], some (13, false)⟩) rfl (by rfl) ?_
    simp only [Act.put, List.setIfInBounds_toArray, List.set_cons_zero, List.set_cons_succ]
    refine' wpT_det (o := ⟨some 25, Op.pick (Operand.tmp 22) (Operand.const (Value.bool true)) (Operand.tmp 24), 4, "l05_sparse.go:26", #[{ on := 13, ground := Ground.data }, { on := 15, ground := Ground.data }], none⟩) rfl (by rfl) (by rfl) (fun w' hw' => ?_) ?_; rotate_left
    · go_simp <;> first | rfl | exact ⟨rfl, rfl⟩
    simp only [Act.put, List.setIfInBounds_toArray, List.set_cons_zero, List.set_cons_succ]
    refine' wpT_det (o := ⟨some 26, Op.move (Operand.tmp 25), 4, "l05_sparse.go:26", #[{ on := 16, ground := Ground.data }, { on := 13, ground := Ground.chain }], none⟩) rfl (by rfl) (by rfl) (fun w' hw' => ?_) ?_; rotate_left
    · go_simp <;> first | rfl | exact ⟨rfl, rfl⟩
    simp only [Act.put, List.setIfInBounds_toArray, List.set_cons_zero, List.set_cons_succ]
    refine wpT_skip (o := ⟨some 27, Op.fieldAddr 27 (Operand.tmp 1) 3, 0, "l05_sparse.go:26", #[{ on := 17, ground := Ground.guard }], some (17, false)⟩) rfl (by rfl) ?_
    simp only [Act.put, List.setIfInBounds_toArray, List.set_cons_zero, List.set_cons_succ]
    refine wpT_skip (o := ⟨some 28, Op.load 23 (Operand.tmp 27), 23, "l05_sparse.go:26", #[{ on := 18, ground := Ground.data }, { on := 17, ground := Ground.guard }], some (17, false)⟩) rfl (by rfl) ?_
    simp only [Act.put, List.setIfInBounds_toArray, List.set_cons_zero, List.set_cons_succ]
    refine wpT_skip (o := ⟨some 29, Op.call { callee := Callee.builtin Builtin.len, args := #[Operand.tmp 28], argTypes := #[23] }, 3, "l05_sparse.go:26", #[{ on := 19, ground := Ground.data }, { on := 17, ground := Ground.guard }], some (17, false)⟩) rfl (by rfl) ?_
    simp only [Act.put, List.setIfInBounds_toArray, List.set_cons_zero, List.set_cons_succ]
    refine wpT_skip (o := ⟨some 30, Op.fieldAddr 27 (Operand.tmp 1) 2, 0, "l05_sparse.go:26", #[{ on := 17, ground := Ground.guard }], some (17, false)⟩) rfl (by rfl) ?_
    simp only [Act.put, List.setIfInBounds_toArray, List.set_cons_zero, List.set_cons_succ]
    refine wpT_skip (o := ⟨some 31, Op.load 22 (Operand.tmp 30), 22, "l05_sparse.go:26", #[{ on := 21, ground := Ground.data }, { on := 17, ground := Ground.guard }], some (17, false)⟩) rfl (by rfl) ?_
    simp only [Act.put, List.setIfInBounds_toArray, List.set_cons_zero, List.set_cons_succ]
    refine wpT_skip (o := ⟨some 32, Op.call { callee := Callee.builtin Builtin.len, args := #[Operand.tmp 31], argTypes := #[22] }, 3, "l05_sparse.go:26", #[{ on := 22, ground := Ground.data }, { on := 17, ground := Ground.guard }], some (17, false)⟩) rfl (by rfl) ?_
    simp only [Act.put, List.setIfInBounds_toArray, List.set_cons_zero, List.set_cons_succ]
    refine wpT_skip (o := ⟨some 33, Op.binOp BinOp.neq 3 (Operand.tmp 29) (Operand.tmp 32) 3, 4, "l05_sparse.go:26", #[{ on := 20, ground := Ground.data }, { on := 23, ground := Ground.data }, { on := 17, ground := Ground.guard }], some (17, false)⟩) rfl (by rfl) ?_
    simp only [Act.put, List.setIfInBounds_toArray, List.set_cons_zero, List.set_cons_succ]
    refine' wpT_det (o := ⟨some 34, Op.pick (Operand.tmp 26) (Operand.const (Value.bool true)) (Operand.tmp 33), 4, "l05_sparse.go:26", #[{ on := 17, ground := Ground.data }, { on := 24, ground := Ground.data }], none⟩) rfl (by rfl) (by rfl) (fun w' hw' => ?_) ?_; rotate_left
    · go_simp <;> first | rfl | exact ⟨rfl, rfl⟩
    simp only [Act.put, List.setIfInBounds_toArray, List.set_cons_zero, List.set_cons_succ]
    refine' wpT_det (o := ⟨some 35, Op.move (Operand.tmp 34), 4, "l05_sparse.go:26", #[{ on := 25, ground := Ground.data }, { on := 17, ground := Ground.chain }], none⟩) rfl (by rfl) (by rfl) (fun w' hw' => ?_) ?_; rotate_left
    · go_simp <;> first | rfl | exact ⟨rfl, rfl⟩
    simp only [Act.put, List.setIfInBounds_toArray, List.set_cons_zero, List.set_cons_succ]
    refine wpT_skip (o := ⟨some 36, Op.fieldAddr 27 (Operand.tmp 1) 1, 0, "l05_sparse.go:26", #[{ on := 26, ground := Ground.guard }], some (26, false)⟩) rfl (by rfl) ?_
    simp only [Act.put, List.setIfInBounds_toArray, List.set_cons_zero, List.set_cons_succ]
    refine wpT_skip (o := ⟨some 37, Op.load 22 (Operand.tmp 36), 22, "l05_sparse.go:26", #[{ on := 27, ground := Ground.data }, { on := 26, ground := Ground.guard }], some (26, false)⟩) rfl (by rfl) ?_
    simp only [Act.put, List.setIfInBounds_toArray, List.set_cons_zero, List.set_cons_succ]
    refine wpT_skip (o := ⟨some 38, Op.indexAddr 22 (Operand.tmp 37) (Operand.const (Value.int IntKind.i64 0)), 0, "l05_sparse.go:26", #[{ on := 28, ground := Ground.data }, { on := 26, ground := Ground.guard }], some (26, false)⟩) rfl (by rfl) ?_
    simp only [Act.put, List.setIfInBounds_toArray, List.set_cons_zero, List.set_cons_succ]
    refine wpT_skip (o := ⟨some 39, Op.load 2 (Operand.tmp 38), 2, "l05_sparse.go:26", #[{ on := 29, ground := Ground.data }, { on := 26, ground := Ground.guard }], some (26, false)⟩) rfl (by rfl) ?_
    simp only [Act.put, List.setIfInBounds_toArray, List.set_cons_zero, List.set_cons_succ]
    refine wpT_skip (o := ⟨some 40, Op.binOp BinOp.neq 2 (Operand.tmp 39) (Operand.const (Value.int IntKind.i64 0)) 2, 4, "l05_sparse.go:26", #[{ on := 30, ground := Ground.data }, { on := 26, ground := Ground.guard }], some (26, false)⟩) rfl (by rfl) ?_
    simp only [Act.put, List.setIfInBounds_toArray, List.set_cons_zero, List.set_cons_succ]
    refine' wpT_det (o := ⟨some 41, Op.pick (Operand.tmp 35) (Operand.const (Value.bool true)) (Operand.tmp 40), 4, "l05_sparse.go:26", #[{ on := 26, ground := Ground.data }, { on := 31, ground := Ground.data }], none⟩) rfl (by rfl) (by rfl) (fun w' hw' => ?_) ?_; rotate_left
    · go_simp <;> first | rfl | exact ⟨rfl, rfl⟩
    simp only [Act.put, List.setIfInBounds_toArray, List.set_cons_zero, List.set_cons_succ]
    refine' wpT_det (o := ⟨some 42, Op.move (Operand.tmp 41), 4, "l05_sparse.go:26", #[{ on := 32, ground := Ground.data }, { on := 26, ground := Ground.chain }], none⟩) rfl (by rfl) (by rfl) (fun w' hw' => ?_) ?_; rotate_left
    · go_simp <;> first | rfl | exact ⟨rfl, rfl⟩
    simp only [Act.put, List.setIfInBounds_toArray, List.set_cons_zero, List.set_cons_succ]
    refine wpT_skip (o := ⟨some 43, Op.fieldAddr 27 (Operand.tmp 1) 1, 0, "l05_sparse.go:26", #[{ on := 33, ground := Ground.guard }], some (33, false)⟩) rfl (by rfl) ?_
    simp only [Act.put, List.setIfInBounds_toArray, List.set_cons_zero, List.set_cons_succ]
    refine wpT_skip (o := ⟨some 44, Op.load 22 (Operand.tmp 43), 22, "l05_sparse.go:26", #[{ on := 34, ground := Ground.data }, { on := 33, ground := Ground.guard }], some (33, false)⟩) rfl (by rfl) ?_
    simp only [Act.put, List.setIfInBounds_toArray, List.set_cons_zero, List.set_cons_succ]
    refine wpT_skip (o := ⟨some 45, Op.fieldAddr 27 (Operand.tmp 1) 0, 0, "l05_sparse.go:26", #[{ on := 33, ground := Ground.guard }], some (33, false)⟩) rfl (by rfl) ?_
    simp only [Act.put, List.setIfInBounds_toArray, List.set_cons_zero, List.set_cons_succ]
    refine wpT_skip (o := ⟨some 46, Op.load 2 (Operand.tmp 45), 2, "l05_sparse.go:26", #[{ on := 36, ground := Ground.data }, { on := 33, ground := Ground.guard }], some (33, false)⟩) rfl (by rfl) ?_
    simp only [Act.put, List.setIfInBounds_toArray, List.set_cons_zero, List.set_cons_succ]
    refine wpT_skip (o := ⟨some 47, Op.indexAddr 22 (Operand.tmp 44) (Operand.tmp 46), 0, "l05_sparse.go:26", #[{ on := 35, ground := Ground.data }, { on := 37, ground := Ground.data }, { on := 33, ground := Ground.guard }], some (33, false)⟩) rfl (by rfl) ?_
    simp only [Act.put, List.setIfInBounds_toArray, List.set_cons_zero, List.set_cons_succ]
    refine wpT_skip (o := ⟨some 48, Op.load 2 (Operand.tmp 47), 2, "l05_sparse.go:26", #[{ on := 38, ground := Ground.data }, { on := 33, ground := Ground.guard }], some (33, false)⟩) rfl (by rfl) ?_
    simp only [Act.put, List.setIfInBounds_toArray, List.set_cons_zero, List.set_cons_succ]
    refine wpT_skip (o := ⟨some 49, Op.move (Operand.tmp 3), 2, "l05_sparse.go:26", #[{ on := 33, ground := Ground.guard }], some (33, false)⟩) rfl (by rfl) ?_
    simp only [Act.put, List.setIfInBounds_toArray, List.set_cons_zero, List.set_cons_succ]
    refine wpT_skip (o := ⟨some 50, Op.binOp BinOp.neq 2 (Operand.tmp 48) (Operand.tmp 49) 2, 4, "l05_sparse.go:26", #[{ on := 39, ground := Ground.data }, { on := 40, ground := Ground.data }, { on := 33, ground := Ground.guard }], some (33, false)⟩) rfl (by rfl) ?_
    simp only [Act.put, List.setIfInBounds_toArray, List.set_cons_zero, List.set_cons_succ]
    refine' wpT_det (o := ⟨some 51, Op.pick (Operand.tmp 42) (Operand.const (Value.bool true)) (Operand.tmp 50), 4, "l05_sparse.go:26", #[{ on := 33, ground := Ground.data }, { on := 41, ground := Ground.data }], none⟩) rfl (by rfl) (by rfl) (fun w' hw' => ?_) ?_; rotate_left
    · go_simp <;> first | rfl | exact ⟨rfl, rfl⟩
    simp only [Act.put, List.setIfInBounds_toArray, List.set_cons_zero, List.set_cons_succ]
    refine wpT_nil (fun w' hw' hF => ?_)
    refine wpList_nil ?_
    go_wp2_with fail
    go_ret
    exact ⟨ret_bool (by rw [Hres.out, hno]), hx0.trans hw'.undrew⟩
  have h2' : ((n : Int) != sd + 1) = false := by simpa using h2
  have b1 : (0 : Int) < n := by omega
  have b2 : 0 < n := by omega
  have b3 : sd < (n : Int) := by omega
  have b4 : 0 ≤ sd := by omega
  have H2 := Lib.hid h2
  clear h2
  by_cases h3 : (m : Int) > 512
  · have hno : isSp sd st co va = false := isSp_not fun h => by have := h.s3; rw [HB.out] at this; omega
    have h3n : 512 < m := by omega
    have h3i : (512 : Int) < m := by omega
    have h3d : decide ((512 : Int) < m) = true := decide_eq_true h3i
    go_enter Try.func38, Try.ntmps38
    go_upto_region 1 with (fail)
    obtain ⟨w0, hw0⟩ : ∃ w0, w0 = (w.alloc (.cells #[.int .i64 sd, .slice A n ca, .slice B m cb, .slice V p cv] 27)) := ⟨_, rfl⟩
    have hx0 : Ext w w0 := by subst hw0; exact (Ext.refl _).alloc _
    have ba : Blk w0 (w.heap.size) #[.int .i64 sd, .slice A n ca, .slice B m cb, .slice V p cv] 27 := by subst hw0; exact (Blk.new w _ _)
    rw [← hw0]
    clear hw0
    have a0 := ba.cell 0 rfl
    have a1 := ba.cell 1 rfl
    have a2 := ba.cell 2 rfl
    have a3 := ba.cell 3 rfl
    go_wp2_with fail
    refine (length_any B m cb hs2 _).mono ?_
    rintro e w1 ⟨rfl, rfl⟩
    go_upto_region 2 with (fail)
    refine wp_region_T (cs := []) [0, 1, 2, 3, 4, 5, 6, 7, 8, 9, 10, 11, 12, 13, 14, 15, 16, 17, 18, 19, 20, 21, 22, 23, 24, 25, 26, 27, 28, 29, 30, 31, 32, 33, 34, 35, 36, 37, 38, 39, 40, 41, 42] [] [2, 7] [] (fun i__ v => match i__ with | 2 => v = (.bool true) | 7 => v = (.int .i64 n) | _ => False) (fun _ _ _ => True) (by kernel_rfl) (by kernel_rfl) (fun _ _ _ _ _ _ => trivial) ?_
    refine' wpT_det (o := ⟨some 9, Op.fieldAddr 27 (Operand.tmp 1) 0, 0, "l05_sparse.go:26", #[], none⟩) rfl (by rfl) (by rfl) (fun w' hw' => ?_) ?_; rotate_left
    · go_simp <;> first | rfl | exact ⟨rfl, rfl⟩
    simp only [Act.put, List.setIfInBounds_toArray, List.set_cons_zero, List.set_cons_succ]
    refine' wpT_det (o := ⟨some 10, Op.load 2 (Operand.tmp 9), 2, "l05_sparse.go:26", #[{ on := 0, ground := Ground.data }], none⟩) rfl (by rfl) (by rfl) (fun w' hw' => ?_) ?_; rotate_left
    · have a0_ := Ext.cell hw' a0; have a1_ := Ext.cell hw' a1; have a2_ := Ext.cell hw' a2; have a3_ := Ext.cell hw' a3; go_simp <;> first | rfl | exact ⟨rfl, rfl⟩
    simp only [Act.put, List.setIfInBounds_toArray, List.set_cons_zero, List.set_cons_succ]
    refine wpT_nd (o := ⟨some 11, Op.call { callee := Callee.value (Operand.func 107), args := #[Operand.tmp 10, Operand.const (Value.int IntKind.i64 1), Operand.const (Value.int IntKind.i64 32)], argTypes := #[2, 2, 2] }, 4, "l05_sparse.go:26", #[{ on := 1, ground := Ground.data }], none⟩) rfl (by rfl) (by rfl) (fun w' hw' hF R__ hGo => ?_) ⟨_, rfl⟩ ?_
    · go_simp
      refine gives_enter rfl ?_
      refine (inRange_any _ _ _ _).mono ?_
      rintro e w2 ⟨rfl, rfl⟩
      exact ⟨_, rfl, hGo _ _ (Ext.refl _) (congrArg Value.bool h1) trivial⟩
    intro v hv
    obtain rfl : v = (.bool true) := hv
    simp only [Act.put, List.setIfInBounds_toArray, List.set_cons_zero, List.set_cons_succ]
    refine' wpT_det (o := ⟨some 12, Op.unOp UnOp.not 4 (Operand.tmp 11), 4, "l05_sparse.go:26", #[{ on := 2, ground := Ground.data }], none⟩) rfl (by rfl) (by rfl) (fun w' hw' => ?_) ?_; rotate_left
    · go_simp <;> first | rfl | exact ⟨rfl, rfl⟩
    simp only [Act.put, List.setIfInBounds_toArray, List.set_cons_zero, List.set_cons_succ]
    refine' wpT_det (o := ⟨some 13, Op.move (Operand.tmp 12), 4, "l05_sparse.go:26", #[{ on := 3, ground := Ground.data }, { on := 2, ground := Ground.chain }], none⟩) rfl (by rfl) (by rfl) (fun w' hw' => ?_) ?_; rotate_left
    · go_simp <;> first | rfl | exact ⟨rfl, rfl⟩
    simp only [Act.put, List.setIfInBounds_toArray, List.set_cons_zero, List.set_cons_succ]
    refine' wpT_det (o := ⟨some 14, Op.fieldAddr 27 (Operand.tmp 1) 1, 0, "l05_sparse.go:26", #[{ on := 4, ground := Ground.guard }], some (4, false)⟩) rfl (by rfl) (by rfl) (fun w' hw' => ?_) ?_; rotate_left
    · go_simp <;> first | rfl | exact ⟨rfl, rfl⟩
    simp only [Act.put, List.setIfInBounds_toArray, List.set_cons_zero, List.set_cons_succ]
    refine' wpT_det (o := ⟨some 15, Op.load 22 (Operand.tmp 14), 22, "l05_sparse.go:26", #[{ on := 5, ground := Ground.data }, { on := 4, ground := Ground.guard }], some (4, false)⟩) rfl (by rfl) (by rfl) (fun w' hw' => ?_) ?_; rotate_left
    · have a0_ := Ext.cell hw' a0; have a1_ := Ext.cell hw' a1; have a2_ := Ext.cell hw' a2; have a3_ := Ext.cell hw' a3; go_simp <;> first | rfl | exact ⟨rfl, rfl⟩
    simp only [Act.put, List.setIfInBounds_toArray, List.set_cons_zero, List.set_cons_succ]
    refine wpT_nd (o := ⟨some 16, Op.call { callee := Callee.value (Operand.func 87), args := #[Operand.tmp 15], argTypes := #[22] }, 2, "l05_sparse.go:26", #[{ on := 6, ground := Ground.data }, { on := 4, ground := Ground.chain }, { on := 4, ground := Ground.guard }], some (4, false)⟩) rfl (by rfl) (by rfl) (fun w' hw' hF R__ hGo => ?_) ⟨_, rfl⟩ ?_
    · go_simp
      refine gives_enter rfl ?_
      refine (length_any _ _ _ hs _).mono ?_
      rintro e w2 ⟨rfl, rfl⟩
      exact ⟨_, rfl, hGo _ _ (Ext.refl _) rfl trivial⟩
    intro v hv
    obtain rfl : v = (.int .i64 n) := hv
    simp only [Act.put, List.setIfInBounds_toArray, List.set_cons_zero, List.set_cons_succ]
    refine' wpT_det (o := ⟨some 17, Op.fieldAddr 27 (Operand.tmp 1) 0, 0, "l05_sparse.go:26", #[{ on := 4, ground := Ground.guard }], some (4, false)⟩) rfl (by rfl) (by rfl) (fun w' hw' => ?_) ?_; rotate_left
    · go_simp <;> first | rfl | exact ⟨rfl, rfl⟩
    simp only [Act.put, List.setIfInBounds_toArray, List.set_cons_zero, List.set_cons_succ]
    refine' wpT_det (o := ⟨some 18, Op.load 2 (Operand.tmp 17), 2, "l05_sparse.go:26", #[{ on := 8, ground := Ground.data }, { on := 4, ground := Ground.guard }], some (4, false)⟩) rfl (by rfl) (by rfl) (fun w' hw' => ?_) ?_; rotate_left
    · have a0_ := Ext.cell hw' a0; have a1_ := Ext.cell hw' a1; have a2_ := Ext.cell hw' a2; have a3_ := Ext.cell hw' a3; go_simp <;> first | rfl | exact ⟨rfl, rfl⟩
    simp only [Act.put, List.setIfInBounds_toArray, List.set_cons_zero, List.set_cons_succ]
    refine' wpT_det (o := ⟨some 19, Op.binOp BinOp.add 2 (Operand.tmp 18) (Operand.const (Value.int IntKind.i64 1)) 2, 2, "l05_sparse.go:26", #[{ on := 9, ground := Ground.data }, { on := 4, ground := Ground.guard }], some (4, false)⟩) rfl (by rfl) (by rfl) (fun w' hw' => ?_) ?_; rotate_left
    · go_simp <;> first | rfl | exact ⟨rfl, rfl⟩
    simp only [Act.put, List.setIfInBounds_toArray, List.set_cons_zero, List.set_cons_succ]
    refine' wpT_det (o := ⟨some 20, Op.binOp BinOp.neq 2 (Operand.tmp 16) (Operand.tmp 19) 2, 4, "l05_sparse.go:26", #[{ on := 7, ground := Ground.data }, { on := 10, ground := Ground.data }, { on := 4, ground := Ground.guard }], some (4, false)⟩) rfl (by rfl) (by rfl) (fun w' hw' => ?_) ?_; rotate_left
    · go_simp <;> first | rfl | exact ⟨rfl, rfl⟩
    simp only [Act.put, List.setIfInBounds_toArray, List.set_cons_zero, List.set_cons_succ]
    refine' wpT_det (o := ⟨some 21, Op.pick (Operand.tmp 13) (Operand.const (Value.bool true)) (Operand.tmp 20), 4, "l05_sparse.go:26", #[{ on := 4, ground := Ground.data }, { on := 11, ground := Ground.data }], none⟩) rfl (by rfl) (by rfl) (fun w' hw' => ?_) ?_; rotate_left
    · go_simp <;> first | rfl | exact ⟨rfl, rfl⟩
    simp only [Act.put, List.setIfInBounds_toArray, List.set_cons_zero, List.set_cons_succ]
    refine' wpT_det (o := ⟨some 22, Op.move (Operand.tmp 21), 4, "l05_sparse.go:26", #[{ on := 12, ground := Ground.data }, { on := 7, ground := Ground.chain }], none⟩) rfl (by rfl) (by rfl) (fun w' hw' => ?_) ?_; rotate_left
    · go_simp <;> first | rfl | exact ⟨rfl, rfl⟩
    simp only [Act.put, List.setIfInBounds_toArray, List.set_cons_zero, List.set_cons_succ]
    refine' wpT_det (o := ⟨some 23, Op.move (Operand.tmp 3), 2, "l05_sparse.go:26", #[{ on := 13, ground := Ground.guard }], some (13, false)⟩) rfl (by rfl) (by rfl) (fun w' hw' => ?_) ?_; rotate_left
    · go_simp <;> first | rfl | exact ⟨rfl, rfl⟩
    simp only [Act.put, List.setIfInBounds_toArray, List.set_cons_zero, List.set_cons_succ]
    refine' wpT_det (o := ⟨some 24, Op.binOp BinOp.gtr 2 (Operand.tmp 23) (Operand.const (Value.int IntKind.i64 512)) 2, 4, "l05_sparse.go:26", #[{ on := 14, ground := Ground.data }, { on := 13, ground := Ground.guard }], some (13, false)⟩) rfl (by rfl) (by rfl) (fun w' hw' => ?_) ?_; rotate_left
    · go_simp <;> first | rfl | exact ⟨rfl, rfl⟩
    simp only [Act.put, List.setIfInBounds_toArray, List.set_cons_zero, List.set_cons_succ]
    refine' wpT_det (o := ⟨some 25, Op.pick (Operand.tmp 22) (Operand.const (Value.bool true)) (Operand.tmp 24), 4, "l05_sparse.go:26", #[{ on := 13, ground := Ground.data }, { on := 15, ground := Ground.data }], none⟩) rfl (by rfl) (by rfl) (fun w' hw' => ?_) ?_; rotate_left
    · go_simp <;> first | rfl | exact ⟨rfl, rfl⟩
    simp only [Act.put, List.setIfInBounds_toArray, List.set_cons_zero, List.set_cons_succ]
    refine' wpT_det (o := ⟨some 26, Op.move (Operand.tmp 25), 4, "l05_sparse.go:26", #[{ on := 16, ground := Ground.data }, { on := 13, ground := Ground.chain }], none⟩) rfl (by rfl) (by rfl) (fun w' hw' => ?_) ?_; rotate_left
    · go_simp <;> first | rfl | exact ⟨rfl, rfl⟩
    simp only [Act.put, List.setIfInBounds_toArray, List.set_cons_zero, List.set_cons_succ]
    refine wpT_skip (o := ⟨some 27, Op.fieldAddr 27 (Operand.tmp 1) 3, 0, "l05_sparse.go:26", #[{ on := 17, ground := Ground.guard }], some (17, false)⟩) rfl (by rfl) ?_
    simp only [Act.put, List.setIfInBounds_toArray, List.set_cons_zero, List.set_cons_succ]
    refine wpT_skip (o := ⟨some 28, Op.load 23 (Operand.tmp 27), 23, "l05_sparse.go:26", #[{ on := 18, ground := Ground.data }, { on := 17, ground := Ground.guard }], some (17, false)⟩) rfl (by rfl) ?_
    simp only [Act.put, List.setIfInBounds_toArray, List.set_cons_zero, List.set_cons_succ]
    refine wpT_skip (o := ⟨some 29, Op.call { callee := Callee.builtin Builtin.len, args := #[Operand.tmp 28], argTypes := #[23] }, 3, "l05_sparse.go:26", #[{ on := 19, ground := Ground.data }, { on := 17, ground := Ground.guard }], some (17, false)⟩) rfl (by rfl) ?_
    simp only [Act.put, List.setIfInBounds_toArray, List.set_cons_zero, List.set_cons_succ]
    refine wpT_skip (o := ⟨some 30, Op.fieldAddr 27 (Operand.tmp 1) 2, 0, "l05_sparse.go:26", #[{ on := 17, ground := Ground.guard }], some (17, false)⟩) rfl (by rfl) ?_
    simp only [Act.put, List.setIfInBounds_toArray, List.set_cons_zero, List.set_cons_succ]
    refine wpT_skip (o := ⟨some 31, Op.load 22 (Operand.tmp 30), 22, "l05_sparse.go:26", #[{ on := 21, ground := Ground.data }, { on := 17, ground := Ground.guard }], some (17, false)⟩) rfl (by rfl) ?_
    simp only [Act.put, List.setIfInBounds_toArray, List.set_cons_zero, List.set_cons_succ]
    refine wpT_skip (o := ⟨some 32, Op.call { callee := Callee.builtin Builtin.len, args := #[Operand.tmp 31], argTypes := #[22] }, 3, "l05_sparse.go:26", #[{ on := 22, ground := Ground.data }, { on := 17, ground := Ground.guard }], some (17, false)⟩) rfl (by rfl) ?_
    simp only [Act.put, List.setIfInBounds_toArray, List.set_cons_zero, List.set_cons_succ]
    refine wpT_skip (o := ⟨some 33, Op.binOp BinOp.neq 3 (Operand.tmp 29) (Operand.tmp 32) 3, 4, "l05_sparse.go:26", #[{ on := 20, ground := Ground.data }, { on := 23, ground := Ground.data }, { on := 17, ground := Ground.guard }], some (17, false)⟩) rfl (by rfl) ?_
    simp only [Act.put, List.setIfInBounds_toArray, List.set_cons_zero, List.set_cons_succ]
    refine' wpT_det (o := ⟨some 34, Op.pick (Operand.tmp 26) (Operand.const (Value.bool true)) (Operand.tmp 33), 4, "l05_sparse.go:26", #[{ on := 17, ground := Ground.data }, { on := 24, ground := Ground.data }], none⟩) rfl (by rfl) (by rfl) (fun w' hw' => ?_) ?_; rotate_left
    · go_simp <;> first | rfl | exact ⟨rfl, rfl⟩
    simp only [Act.put, List.setIfInBounds_toArray, List.set_cons_zero, List.set_cons_succ]
    refine' wpT_det (o := ⟨some 35, Op.move (Operand.tmp 34), 4, "l05_sparse.go:26", #[{ on := 25, ground := Ground.data }, { on := 17, ground := Ground.chain }], none⟩) rfl (by rfl) (by rfl) (fun w' hw' => ?_) ?_; rotate_left
    · go_simp <;> first | rfl | exact ⟨rfl, rfl⟩
    simp only [Act.put, List.setIfInBounds_toArray, List.set_cons_zero, List.set_cons_succ]
    refine wpT_skip (o := ⟨some 36, Op.fieldAddr 27 (Operand.tmp 1) 1, 0, "l05_sparse.go:26", #[{ on := 26, ground := Ground.guard }], some (26, false)⟩) rfl (by rfl) ?_
    simp only [Act.put, List.setIfInBounds_toArray, List.set_cons_zero, List.set_cons_succ]
    refine wpT_skip (o := ⟨some 37, Op.load 22 (Operand.tmp 36), 22, "l05_sparse.go:26", #[{ on := 27, ground := Ground.data }, { on := 26, ground := Ground.guard }], some (26, false)⟩) rfl (by rfl) ?_
    simp only [Act.put, List.setIfInBounds_toArray, List.set_cons_zero, List.set_cons_succ]
    refine wpT_skip (o := ⟨some 38, Op.indexAddr 22 (Operand.tmp 37) (Operand.const (Value.int IntKind.i64 0)), 0, "l05_sparse.go:26", #[{ on := 28, ground := Ground.data }, { on := 26, ground := Ground.guard }], some (26, false)⟩) rfl (by rfl) ?_
    simp only [Act.put, List.setIfInBounds_toArray, List.set_cons_zero, List.set_cons_succ]
    refine wpT_skip (o := ⟨some 39, Op.load 2 (Operand.tmp 38), 2, "l05_sparse.go:26", #[{ on := 29, ground := Ground.data }, { on := 26, ground := Ground.guard }], some (26, false)⟩) rfl (by rfl) ?_
    simp only [Act.put, List.setIfInBounds_toArray, List.set_cons_zero, List.set_cons_succ]
    refine wpT_skip (o := ⟨some 40, Op.binOp BinOp.neq 2 (Operand.tmp 39) (Operand.const (Value.int IntKind.i64 0)) 2, 4, "l05_sparse.go:26", #[{ on := 30, ground := Ground.data }, { on := 26, ground := Ground.guard }], some (26, false)⟩) rfl (by rfl) ?_
    simp only [Act.put, List.setIfInBounds_toArray, List.set_cons_zero, List.set_cons_succ]
    refine' wpT_det (o := ⟨some 41, Op.pick (Operand.tmp 35) (Operand.const (Value.bool true)) (Operand.tmp 40), 4, "l05_sparse.go:26", #[{ on := 26, ground := Ground.data }, { on := 31, ground := Ground.data }], none⟩) rfl (by rfl) (by rfl) (fun w' hw' => ?_) ?_; rotate_left
    · go_simp <;> first | rfl | exact ⟨rfl, rfl⟩
    simp only [Act.put, List.setIfInBounds_toArray, List.set_cons_zero, List.set_cons_succ]
    refine' wpT_det (o := ⟨some 42, Op.move (Operand.tmp 41), 4, "l05_sparse.go:26", #[{ on := 32, ground := Ground.data }, { on := 26, ground := Ground.chain }], none⟩) rfl (by rfl) (by rfl) (fun w' hw' => ?_) ?_; rotate_left
    · go_simp <;> first | rfl | exact ⟨rfl, rfl⟩
    simp only [Act.put, List.setIfInBounds_toArray, List.set_cons_zero, List.set_cons_succ]
    refine wpT_skip (o := ⟨some 43, Op.fieldAddr 27 (Operand.tmp 1) 1, 0, "l05_sparse.go:26", #[{ on := 33, ground := Ground.guard }], some (33, false)⟩) rfl (by rfl) ?_
    simp only [Act.put, List.setIfInBounds_toArray, List.set_cons_zero, List.set_cons_succ]
    refine wpT_skip (o := ⟨some 44, Op.load 22 (Operand.tmp 43), 22, "l05_sparse.go:26", #[{ on := 34, ground := Ground.data }, { on := 33, ground := Ground.guard }], some (33, false)⟩) rfl (by rfl) ?_
    simp only [Act.put, List.setIfInBounds_toArray, List.set_cons_zero, List.set_cons_succ]
    refine wpT_skip (o := ⟨some 45, Op.fieldAddr 27 (Operand.tmp 1) 0, 0, "l05_sparse.go:26", #[{ on := 33, ground := Ground.guard }], some (33, false)⟩) rfl (by rfl) ?_
    simp only [Act.put, List.setIfInBounds_toArray, List.set_cons_zero, List.set_cons_succ]
    refine wpT_skip (o := ⟨some 46, Op.load 2 (Operand.tmp 45), 2, "l05_sparse.go:26", #[{ on := 36, ground := Ground.data }, { on := 33, ground := Ground.guard }], some (33, false)⟩) rfl (by rfl) ?_
    simp only [Act.put, List.setIfInBounds_toArray, List.set_cons_zero, List.set_cons_succ]
    refine wpT_skip (o := ⟨some 47, Op.indexAddr 22 (Operand.tmp 44) (Operand.tmp 46), 0, "l05_sparse.go:26", #[{ on := 35, ground := Ground.data }, { on := 37, ground := Ground.data }, { on := 33, ground := Ground.guard }], some (33, false)⟩) rfl (by rfl) ?_
    simp only [Act.put, List.setIfInBounds_toArray, List.set_cons_zero, List.set_cons_succ]
    refine wpT_skip (o := ⟨some 48, Op.load 2 (Operand.tmp 47), 2, "l05_sparse.go:26", #[{ on := 38, ground := Ground.data }, { on := 33, ground := Ground.guard }], some (33, false)⟩) rfl (by rfl) ?_
    simp only [Act.put, List.setIfInBounds_toArray, List.set_cons_zero, List.set_cons_succ]
    refine wpT_skip (o := ⟨some 49, Op.move (Operand.tmp 3), 2, "l05_sparse.go:26", #[{ on := 33, ground := Ground.guard }], some (33, false)⟩) rfl (by rfl) ?_
    simp only [Act.put, List.setIfInBounds_toArray, List.set_cons_zero, List.set_cons_succ]
    refine wpT_skip (o := ⟨some 50, Op.binOp BinOp.neq 2 (Operand.tmp 48) (Operand.tmp 49) 2, 4, "l05_sparse.go:26", #[{ on := 39, ground := Ground.data }, { on := 40, ground := Ground.data }, { on := 33, ground := Ground.guard }], some (33, false)⟩) rfl (by rfl) ?_
    simp only [Act.put, List.setIfInBounds_toArray, List.set_cons_zero, List.set_cons_succ]
    refine' wpT_det (o := ⟨some 51, Op.pick (Operand.tmp 42) (Operand.const (Value.bool true)) (Operand.tmp 50), 4, "l05_sparse.go:26", #[{ on := 33, ground := Ground.data }, { on := 41, ground := Ground.data }], none⟩) rfl (by rfl) (by rfl) (fun w' hw' => ?_) ?_; rotate_left
    · go_simp <;> first | rfl | exact ⟨rfl, rfl⟩
    simp only [Act.put, List.setIfInBounds_toArray, List.set_cons_zero, List.set_cons_succ]
    refine wpT_nil (fun w' hw' hF => ?_)
    refine wpList_nil ?_
    go_wp2_with fail
    go_ret
    exact ⟨ret_bool (by rw [Hres.out, hno]), hx0.trans hw'.undrew⟩
  have h3n : ¬ 512 < m := by omega
  have h3m : m ≤ 512 := by omega
  have h3i : ¬ (512 : Int) < m := by omega
  have h3d : decide ((512 : Int) < m) = false := decide_eq_false h3i
  clear h3
  by_cases h4 : (p : Int) = m
  rotate_left
  · have h4' : ((p : Int) != m) = true := by simpa using h4
    have hno : isSp sd st co va = false := isSp_not fun h => h4 (by have := h.s4; rw [HV.out, HB.out] at this; omega)
    clear h4
    go_enter Try.func38, Try.ntmps38
    go_upto_region 1 with (fail)
    obtain ⟨w0, hw0⟩ : ∃ w0, w0 = (w.alloc (.cells #[.int .i64 sd, .slice A n ca, .slice B m cb, .slice V p cv] 27)) := ⟨_, rfl⟩
    have hx0 : Ext w w0 := by subst hw0; exact (Ext.refl _).alloc _
    have ba : Blk w0 (w.heap.size) #[.int .i64 sd, .slice A n ca, .slice B m cb, .slice V p cv] 27 := by subst hw0; exact (Blk.new w _ _)
    rw [← hw0]
    clear hw0
    have a0 := ba.cell 0 rfl
    have a1 := ba.cell 1 rfl
    have a2 := ba.cell 2 rfl
    have a3 := ba.cell 3 rfl
    go_wp2_with fail
    refine (length_any B m cb hs2 _).mono ?_
    rintro e w1 ⟨rfl, rfl⟩
    go_upto_region 2 with (fail)
    refine wp_region_T (cs := []) [0, 1, 2, 3, 4, 5, 6, 7, 8, 9, 10, 11, 12, 13, 14, 15, 16, 17, 18, 19, 20, 21, 22, 23, 24, 25, 26, 27, 28, 29, 30, 31, 32, 33, 34, 35, 36, 37, 38, 39, 40, 41, 42] [] [2, 7] [] (fun i__ v => match i__ with | 2 => v = (.bool true) | 7 => v = (.int .i64 n) | _ => False) (fun _ _ _ => True) (by kernel_rfl) (by kernel_rfl) (fun _ _ _ _ _ _ => trivial) ?_
    refine' wpT_det (o := ⟨some 9, Op.fieldAddr 27 (Operand.tmp 1) 0, 0, "l05_sparse.go:26", #[], none⟩) rfl (by rfl) (by rfl) (fun w' hw' => ?_) ?_; rotate_left
    · go_simp <;> first | rfl | exact ⟨rfl, rfl⟩
    simp only [Act.put, List.setIfInBounds_toArray, List.set_cons_zero, List.set_cons_succ]
    refine' wpT_det (o := ⟨some 10, Op.load 2 (Operand.tmp 9), 2, "l05_sparse.go:26", #[{ on := 0, ground := Ground.data }], none⟩) rfl (by rfl) (by rfl) (fun w' hw' => ?_) ?_; rotate_left
    · have a0_ := Ext.cell hw' a0; have a1_ := Ext.cell hw' a1; have a2_ := Ext.cell hw' a2; have a3_ := Ext.cell hw' a3; go_simp <;> first | rfl | exact ⟨rfl, rfl⟩
    simp only [Act.put, List.setIfInBounds_toArray, List.set_cons_zero, List.set_cons_succ]
    refine wpT_nd (o := ⟨some 11, Op.call { callee := Callee.value (Operand.func 107), args := #[Operand.tmp 10, Operand.const (Value.int IntKind.i64 1), Operand.const (Value.int IntKind.i64 32)], argTypes := #[2, 2, 2] }, 4, "l05_sparse.go:26", #[{ on := 1, ground := Ground.data }], none⟩) rfl (by rfl) (by rfl) (fun w' hw' hF R__ hGo => ?_) ⟨_, rfl⟩ ?_
    · go_simp
      refine gives_enter rfl ?_
      refine (inRange_any _ _ _ _).mono ?_
      rintro e w2 ⟨rfl, rfl⟩
      exact ⟨_, rfl, hGo _ _ (Ext.refl _) (congrArg Value.bool h1) trivial⟩
    intro v hv
    obtain rfl : v = (.bool true) := hv
    simp only [Act.put, List.setIfInBounds_toArray, List.set_cons_zero, List.set_cons_succ]
    refine' wpT_det (o := ⟨some 12, Op.unOp UnOp.not 4 (Operand.tmp 11), 4, "l05_sparse.go:26", #[{ on := 2, ground := Ground.data }], none⟩) rfl (by rfl) (by rfl) (fun w' hw' => ?_) ?_; rotate_left
    · go_simp <;> first | rfl | exact ⟨rfl, rfl⟩
    simp only [Act.put, List.setIfInBounds_toArray, List.set_cons_zero, List.set_cons_succ]
    refine' wpT_det (o := ⟨some 13, Op.move (Operand.tmp 12), 4, "l05_sparse.go:26", #[{ on := 3, ground := Ground.data }, { on := 2, ground := Ground.chain }], none⟩) rfl (by rfl) (by rfl) (fun w' hw' => ?_) ?_; rotate_left
    · go_simp <;> first | rfl | exact ⟨rfl, rfl⟩
    simp only [Act.put, List.setIfInBounds_toArray, List.set_cons_zero, List.set_cons_succ]
    refine' wpT_det (o := ⟨some 14, Op.fieldAddr 27 (Operand.tmp 1) 1, 0, "l05_sparse.go:26", #[{ on := 4, ground := Ground.guard }], some (4, false)⟩) rfl (by rfl) (by rfl) (fun w' hw' => ?_) ?_; rotate_left
    · go_simp <;> first | rfl | exact ⟨rfl, rfl⟩
    simp only [Act.put, List.setIfInBounds_toArray, List.set_cons_zero, List.set_cons_succ]
    refine' wpT_det (o := ⟨some 15, Op.load 22 (Operand.tmp 14), 22, "l05_sparse.go:26", #[{ on := 5, ground := Ground.data }, { on := 4, ground := Ground.guard }], some (4, false)⟩) rfl (by rfl) (by rfl) (fun w' hw' => ?_) ?_; rotate_left
    · have a0_ := Ext.cell hw' a0; have a1_ := Ext.cell hw' a1; have a2_ := Ext.cell hw' a2; have a3_ := Ext.cell hw' a3; go_simp <;> first | rfl | exact ⟨rfl, rfl⟩
    simp only [Act.put, List.setIfInBounds_toArray, List.set_cons_zero, List.set_cons_succ]
    refine wpT_nd (o := ⟨some 16, Op.call { callee := Callee.value (Operand.func 87), args := #[Operand.tmp 15], argTypes := #[22] }, 2, "l05_sparse.go:26", #[{ on := 6, ground := Ground.data }, { on := 4, ground := Ground.chain }, { on := 4, ground := Ground.guard }], some (4, false)⟩) rfl (by rfl) (by rfl) (fun w' hw' hF R__ hGo => ?_) ⟨_, rfl⟩ ?_
    · go_simp
      refine gives_enter rfl ?_
      refine (length_any _ _ _ hs _).mono ?_
      rintro e w2 ⟨rfl, rfl⟩
      exact ⟨_, rfl, hGo _ _ (Ext.refl _) rfl trivial⟩
    intro v hv
    obtain rfl : v = (.int .i64 n) := hv
    simp only [Act.put, List.setIfInBounds_toArray, List.set_cons_zero, List.set_cons_succ]
    refine' wpT_det (o := ⟨some 17, Op.fieldAddr 27 (Operand.tmp 1) 0, 0, "l05_sparse.go:26", #[{ on := 4, ground := Ground.guard }], some (4, false)⟩) rfl (by rfl) (by rfl) (fun w' hw' => ?_) ?_; rotate_left
    · go_simp <;> first | rfl | exact ⟨rfl, rfl⟩
    simp only [Act.put, List.setIfInBounds_toArray, List.set_cons_zero, List.set_cons_succ]
    refine' wpT_det (o := ⟨some 18, Op.load 2 (Operand.tmp 17), 2, "l05_sparse.go:26", #[{ on := 8, ground := Ground.data }, { on := 4, ground := Ground.guard }], some (4, false)⟩) rfl (by rfl) (by rfl) (fun w' hw' => ?_) ?_; rotate_left
    · have a0_ := Ext.cell hw' a0; have a1_ := Ext.cell hw' a1; have a2_ := Ext.cell hw' a2; have a3_ := Ext.cell hw' a3; go_simp <;> first | rfl | exact ⟨rfl, rfl⟩
    simp only [Act.put, List.setIfInBounds_toArray, List.set_cons_zero, List.set_cons_succ]
    refine' wpT_det (o := ⟨some 19, Op.binOp BinOp.add 2 (Operand.tmp 18) (Operand.const (Value.int IntKind.i64 1)) 2, 2, "l05_sparse.go:26", #[{ on := 9, ground := Ground.data }, { on := 4, ground := Ground.guard }], some (4, false)⟩) rfl (by rfl) (by rfl) (fun w' hw' => ?_) ?_; rotate_left
    · go_simp <;> first | rfl | exact ⟨rfl, rfl⟩
    simp only [Act.put, List.setIfInBounds_toArray, List.set_cons_zero, List.set_cons_succ]
    refine' wpT_det (o := ⟨some 20, Op.binOp BinOp.neq 2 (Operand.tmp 16) (Operand.tmp 19) 2, 4, "l05_sparse.go:26", #[{ on := 7, ground := Ground.data }, { on := 10, ground := Ground.data }, { on := 4, ground := Ground.guard }], some (4, false)⟩) rfl (by rfl) (by rfl) (fun w' hw' => ?_) ?_; rotate_left
    · go_simp <;> first | rfl | exact ⟨rfl, rfl⟩
    simp only [Act.put, List.setIfInBounds_toArray, List.set_cons_zero, List.set_cons_succ]
    refine' wpT_det (o := ⟨some 21, Op.pick (Operand.tmp 13) (Operand.const (Value.bool true)) (Operand.tmp 20), 4, "l05_sparse.go:26", #[{ on := 4, ground := Ground.data }, { on := 11, ground := Ground.data }], none⟩) rfl (by rfl) (by rfl) (fun w' hw' => ?_) ?_; rotate_left
    · go_simp <;> first | rfl | exact ⟨rfl, rfl⟩
    simp only [Act.put, List.setIfInBounds_toArray, List.set_cons_zero, List.set_cons_succ]
    refine' wpT_det (o := ⟨some 22, Op.move (Operand.tmp 21), 4, "l05_sparse.go:26", #[{ on := 12, ground := Ground.data }, { on := 7, ground := Ground.chain }], none⟩) rfl (by rfl) (by rfl) (fun w' hw' => ?_) ?_; rotate_left
    · go_simp <;> first | rfl | exact ⟨rfl, rfl⟩
    simp only [Act.put, List.setIfInBounds_toArray, List.set_cons_zero, List.set_cons_succ]
    refine' wpT_det (o := ⟨some 23, Op.move (Operand.tmp 3), 2, "l05_sparse.go:26", #[{ on := 13, ground := Ground.guard }], some (13, false)⟩) rfl (by rfl) (by rfl) (fun w' hw' => ?_) ?_; rotate_left
    · go_simp <;> first | rfl | exact ⟨rfl, rfl⟩
    simp only [Act.put, List.setIfInBounds_toArray, List.set_cons_zero, List.set_cons_succ]
    refine' wpT_det (o := ⟨some 24, Op.binOp BinOp.gtr 2 (Operand.tmp 23) (Operand.const (Value.int IntKind.i64 512)) 2, 4, "l05_sparse.go:26", #[{ on := 14, ground := Ground.data }, { on := 13, ground := Ground.guard }], some (13, false)⟩) rfl (by rfl) (by rfl) (fun w' hw' => ?_) ?_; rotate_left
    · go_simp <;> first | rfl | exact ⟨rfl, rfl⟩
    simp only [Act.put, List.setIfInBounds_toArray, List.set_cons_zero, List.set_cons_succ]
    refine' wpT_det (o := ⟨some 25, Op.pick (Operand.tmp 22) (Operand.const (Value.bool true)) (Operand.tmp 24), 4, "l05_sparse.go:26", #[{ on := 13, ground := Ground.data }, { on := 15, ground := Ground.data }], none⟩) rfl (by rfl) (by rfl) (fun w' hw' => ?_) ?_; rotate_left
    · go_simp <;> first | rfl | exact ⟨rfl, rfl⟩
    simp only [Act.put, List.setIfInBounds_toArray, List.set_cons_zero, List.set_cons_succ]
    refine' wpT_det (o := ⟨some 26, Op.move (Operand.tmp 25), 4, "l05_sparse.go:26", #[{ on := 16, ground := Ground.data }, { on := 13, ground := Ground.chain }], none⟩) rfl (by rfl) (by rfl) (fun w' hw' => ?_) ?_; rotate_left
    · go_simp <;> first | rfl | exact ⟨rfl, rfl⟩
    simp only [Act.put, List.setIfInBounds_toArray, List.set_cons_zero, List.set_cons_succ]
    refine' wpT_det (o := ⟨some 27, Op.fieldAddr 27 (Operand.tmp 1) 3, 0, "l05_sparse.go:26", #[{ on := 17, ground := Ground.guard }], some (17, false)⟩) rfl (by rfl) (by rfl) (fun w' hw' => ?_) ?_; rotate_left
    · go_simp <;> first | rfl | exact ⟨rfl, rfl⟩
    simp only [Act.put, List.setIfInBounds_toArray, List.set_cons_zero, List.set_cons_succ]
    refine' wpT_det (o := ⟨some 28, Op.load 23 (Operand.tmp 27), 23, "l05_sparse.go:26", #[{ on := 18, ground := Ground.data }, { on := 17, ground := Ground.guard }], some (17, false)⟩) rfl (by rfl) (by rfl) (fun w' hw' => ?_) ?_; rotate_left
    · have a0_ := Ext.cell hw' a0; have a1_ := Ext.cell hw' a1; have a2_ := Ext.cell hw' a2; have a3_ := Ext.cell hw' a3; go_simp <;> first | rfl | exact ⟨rfl, rfl⟩
    simp only [Act.put, List.setIfInBounds_toArray, List.set_cons_zero, List.set_cons_succ]
    refine' wpT_det (o := ⟨some 29, Op.call { callee := Callee.builtin Builtin.len, args := #[Operand.tmp 28], argTypes := #[23] }, 3, "l05_sparse.go:26", #[{ on := 19, ground := Ground.data }, { on := 17, ground := Ground.guard }], some (17, false)⟩) rfl (by rfl) (by rfl) (fun w' hw' => ?_) ?_; rotate_left
    · go_simp <;> first | rfl | exact ⟨rfl, rfl⟩
    simp only [Act.put, List.setIfInBounds_toArray, List.set_cons_zero, List.set_cons_succ]
    refine' wpT_det (o := ⟨some 30, Op.fieldAddr 27 (Operand.tmp 1) 2, 0, "l05_sparse.go:26", #[{ on := 17, ground := Ground.guard }], some (17, false)⟩) rfl (by rfl) (by rfl) (fun w' hw' => ?_) ?_; rotate_left
    · go_simp <;> first | rfl | exact ⟨rfl, rfl⟩
    simp only [Act.put, List.setIfInBounds_toArray, List.set_cons_zero, List.set_cons_succ]
    refine' wpT_det (o := ⟨some 31, Op.load 22 (Operand.tmp 30), 22, "l05_sparse.go:26", #[{ on := 21, ground := Ground.data }, { on := 17, ground := Ground.guard }], some (17, false)⟩) rfl (by rfl) (by rfl) (fun w' hw' => ?_) ?_; rotate_left
    · have a0_ := Ext.cell hw' a0; have a1_ := Ext.cell hw' a1; have a2_ := Ext.cell hw' a2; have a3_ := Ext.cell hw' a3; go_simp <;> first | rfl | exact ⟨rfl, rfl⟩
    simp only [Act.put, List.setIfInBounds_toArray, List.set_cons_zero, List.set_cons_succ]
    refine' wpT_det (o := ⟨some 32, Op.call { callee := Callee.builtin Builtin.len, args := #[Operand.tmp 31], argTypes := #[22] }, 3, "l05_sparse.go:26", #[{ on := 22, ground := Ground.data }, { on := 17, ground := Ground.guard }], some (17, false)⟩) rfl (by rfl) (by rfl) (fun w' hw' => ?_) ?_; rotate_left
    · go_simp <;> first | rfl | exact ⟨rfl, rfl⟩
    simp only [Act.put, List.setIfInBounds_toArray, List.set_cons_zero, List.set_cons_succ]
    refine' wpT_det (o := ⟨some 33, Op.binOp BinOp.neq 3 (Operand.tmp 29) (Operand.tmp 32) 3, 4, "l05_sparse.go:26", #[{ on := 20, ground := Ground.data }, { on := 23, ground := Ground.data }, { on := 17, ground := Ground.guard }], some (17, false)⟩) rfl (by rfl) (by rfl) (fun w' hw' => ?_) ?_; rotate_left
    · go_simp <;> first | rfl | exact ⟨rfl, rfl⟩
    simp only [Act.put, List.setIfInBounds_toArray, List.set_cons_zero, List.set_cons_succ]
    refine' wpT_det (o := ⟨some 34, Op.pick (Operand.tmp 26) (Operand.const (Value.bool true)) (Operand.tmp 33), 4, "l05_sparse.go:26", #[{ on := 17, ground := Ground.data }, { on := 24, ground := Ground.data }], none⟩) rfl (by rfl) (by rfl) (fun w' hw' => ?_) ?_; rotate_left
    · go_simp <;> first | rfl | exact ⟨rfl, rfl⟩
    simp only [Act.put, List.setIfInBounds_toArray, List.set_cons_zero, List.set_cons_succ]
    refine' wpT_det (o := ⟨some 35, Op.move (Operand.tmp 34), 4, "l05_sparse.go:26", #[{ on := 25, ground := Ground.data }, { on := 17, ground := Ground.chain }], none⟩) rfl (by rfl) (by rfl) (fun w' hw' => ?_) ?_; rotate_left
    · go_simp <;> first | rfl | exact ⟨rfl, rfl⟩
    simp only [Act.put, List.setIfInBounds_toArray, List.set_cons_zero, List.set_cons_succ]
    refine wpT_skip (o := ⟨some 36, Op.fieldAddr 27 (Operand.tmp 1) 1, 0, "l05_sparse.go:26", #[{ on := 26, ground := Ground.guard }], some (26, false)⟩) rfl (by rfl) ?_
    simp only [Act.put, List.setIfInBounds_toArray, List.set_cons_zero, List.set_cons_succ]
    refine wpT_skip (o := ⟨some 37, Op.load 22 (Operand.tmp 36), 22, "l05_sparse.go:26", #[{ on := 27, ground := Ground.data }, { on := 26, ground := Ground.guard }], some (26, false)⟩) rfl (by rfl) ?_
    simp only [Act.put, List.setIfInBounds_toArray, List.set_cons_zero, List.set_cons_succ]
    refine wpT_skip (o := ⟨some 38, Op.indexAddr 22 (Operand.tmp 37) (Operand.const (Value.int IntKind.i64 0)), 0, "l05_sparse.go:26", #[{ on := 28, ground := Ground.data }, { on := 26, ground := Ground.guard }], some (26, false)⟩) rfl (by rfl) ?_
    simp only [Act.put, List.setIfInBounds_toArray, List.set_cons_zero, List.set_cons_succ]
    refine wpT_skip (o := ⟨some 39, Op.load 2 (Operand.tmp 38), 2, "l05_sparse.go:26", #[{ on := 29, ground := Ground.data }, { on := 26, ground := Ground.guard }], some (26, false)⟩) rfl (by rfl) ?_
    simp only [Act.put, List.setIfInBounds_toArray, List.set_cons_zero, List.set_cons_succ]
    refine wpT_skip (o := ⟨some 40, Op.binOp BinOp.neq 2 (Operand.tmp 39) (Operand.const (Value.int IntKind.i64 0)) 2, 4, "l05_sparse.go:26", #[{ on := 30, ground := Ground.data }, { on := 26, ground := Ground.guard }], some (26, false)⟩) rfl (by rfl) ?_
    simp only [Act.put, List.setIfInBounds_toArray, List.set_cons_zero, List.set_cons_succ]
    refine' wpT_det (o := ⟨some 41, Op.pick (Operand.tmp 35) (Operand.const (Value.bool true)) (Operand.tmp 40), 4, "l05_sparse.go:26", #[{ on := 26, ground := Ground.data }, { on := 31, ground := Ground.data }], none⟩) rfl (by rfl) (by rfl) (fun w' hw' => ?_) ?_; rotate_left
    · go_simp <;> first | rfl | exact ⟨rfl, rfl⟩
    simp only [Act.put, List.setIfInBounds_toArray, List.set_cons_zero, List.set_cons_succ]
    refine' wpT_det (o := ⟨some 42, Op.move (Operand.tmp 41), 4, "l05_sparse.go:26", #[{ on := 32, ground := Ground.data }, { on := 26, ground := Ground.chain }], none⟩) rfl (by rfl) (by rfl) (fun w' hw' => ?_) ?_; rotate_left
    · go_simp <;> first | rfl | exact ⟨rfl, rfl⟩
    simp only [Act.put, List.setIfInBounds_toArray, List.set_cons_zero, List.set_cons_succ]
    refine wpT_skip (o := ⟨some 43, Op.fieldAddr 27 (Operand.tmp 1) 1, 0, "l05_sparse.go:26", #[{ on := 33, ground := Ground.guard }], some (33, false)⟩) rfl (by rfl) ?_
    simp only [Act.put, List.setIfInBounds_toArray, List.set_cons_zero, List.set_cons_succ]
    refine wpT_skip (o := ⟨some 44, Op.load 22 (Operand.tmp 43), 22, "l05_sparse.go:26", #[{ on := 34, ground := Ground.data }, { on := 33, ground := Ground.guard }], some (33, false)⟩) rfl (by rfl) ?_
    simp only [Act.put, List.setIfInBounds_toArray, List.set_cons_zero, List.set_cons_succ]
    refine wpT_skip (o := ⟨some 45, Op.fieldAddr 27 (Operand.tmp 1) 0, 0, "l05_sparse.go:26", #[{ on := 33, ground := Ground.guard }], some (33, false)⟩) rfl (by rfl) ?_
    simp only [Act.put, List.setIfInBounds_toArray, List.set_cons_zero, List.set_cons_succ]
    refine wpT_skip (o := ⟨some 46, Op.load 2 (Operand.tmp 45), 2, "l05_sparse.go:26", #[{ on := 36, ground := Ground.data }, { on := 33, ground := Ground.guard }], some (33, false)⟩) rfl (by rfl) ?_
    simp only [Act.put, List.setIfInBounds_toArray, List.set_cons_zero, List.set_cons_succ]
    refine wpT_skip (o := ⟨some 47, Op.indexAddr 22 (Operand.tmp 44) (Operand.tmp 46), 0, "l05_sparse.go:26", #[{ on := 35, ground := Ground.data }, { on := 37, ground := Ground.data }, { on := 33, ground := Ground.guard }], some (33, false)⟩) rfl (by rfl) ?_
    simp only [Act.put, List.setIfInBounds_toArray, List.set_cons_zero, List.set_cons_succ]
    refine wpT_skip (o := ⟨some 48, Op.load 2 (Operand.tmp 47), 2, "l05_sparse.go:26", #[{ on := 38, ground := Ground.data }, { on := 33, ground := Ground.guard }], some (33, false)⟩) rfl (by rfl) ?_
    simp only [Act.put, List.setIfInBounds_toArray, List.set_cons_zero, List.set_cons_succ]
    refine wpT_skip (o := ⟨some 49, Op.move (Operand.tmp 3), 2, "l05_sparse.go:26", #[{ on := 33, ground := Ground.guard }], some (33, false)⟩) rfl (by rfl) ?_
    simp only [Act.put, List.setIfInBounds_toArray, List.set_cons_zero, List.set_cons_succ]
    refine wpT_skip (o := ⟨some 50, Op.binOp BinOp.neq 2 (Operand.tmp 48) (Operand.tmp 49) 2, 4, "l05_sparse.go:26", #[{ on := 39, ground := Ground.data }, { on := 40, ground := Ground.data }, { on := 33, ground := Ground.guard }], some (33, false)⟩) rfl (by rfl) ?_
    simp only [Act.put, List.setIfInBounds_toArray, List.set_cons_zero, List.set_cons_succ]
    refine' wpT_det (o := ⟨some 51, Op.pick (Operand.tmp 42) (Operand.const (Value.bool true)) (Operand.tmp 50), 4, "l05_sparse.go:26", #[{ on := 33, ground := Ground.data }, { on := 41, ground := Ground.data }], none⟩) rfl (by rfl) (by rfl) (fun w' hw' => ?_) ?_; rotate_left
    · go_simp <;> first | rfl | exact ⟨rfl, rfl⟩
    simp only [Act.put, List.setIfInBounds_toArray, List.set_cons_zero, List.set_cons_succ]
    refine wpT_nil (fun w' hw' hF => ?_)
    refine wpList_nil ?_
    go_wp2_with fail
    go_ret
    exact ⟨ret_bool (by rw [Hres.out, hno]), hx0.trans hw'.undrew⟩
  have h4' : ((p : Int) != m) = false := by simpa using h4
  have H4 := Lib.hid h4
  clear h4
  by_cases h5 : rd st 0 = 0
  rotate_left
  · have h5' : (rd st 0 != 0) = true := by simpa using h5
    have hno : isSp sd st co va = false := isSp_not fun h => h5 h.s6
    clear h5
    go_enter Try.func38, Try.ntmps38
    go_upto_region 1 with (fail)
    obtain ⟨w0, hw0⟩ : ∃ w0, w0 = (w.alloc (.cells #[.int .i64 sd, .slice A n ca, .slice B m cb, .slice V p cv] 27)) := ⟨_, rfl⟩
    have hx0 : Ext w w0 := by subst hw0; exact (Ext.refl _).alloc _
    have ba : Blk w0 (w.heap.size) #[.int .i64 sd, .slice A n ca, .slice B m cb, .slice V p cv] 27 := by subst hw0; exact (Blk.new w _ _)
    rw [← hw0]
    clear hw0
    have a0 := ba.cell 0 rfl
    have a1 := ba.cell 1 rfl
    have a2 := ba.cell 2 rfl
    have a3 := ba.cell 3 rfl
    go_wp2_with fail
    refine (length_any B m cb hs2 _).mono ?_
    rintro e w1 ⟨rfl, rfl⟩
    go_upto_region 2 with (fail)
    have ec0 := (hr.below hx0).int 0 (by omega) (by omega)
    have ec1 := (hr.below hx0).int sd (by omega) (by omega)
    obtain ⟨ad, rfl, hc⟩ := ec0
    obtain ⟨ad', had, hc'⟩ := ec1
    obtain rfl := Option.some.inj had
    clear had
    replace hc : w0.cell? ad = some (.int .i64 (rd st 0)) := by rwa [show ad.add (0 : Int).toNat = ad by cases ad; simp [Addr.add]] at hc
    refine wp_region_T (cs := []) [0, 1, 2, 3, 4, 5, 6, 7, 8, 9, 10, 11, 12, 13, 14, 15, 16, 17, 18, 19, 20, 21, 22, 23, 24, 25, 26, 27, 28, 29, 30, 31, 32, 33, 34, 35, 36, 37, 38, 39, 40, 41, 42] [] [2, 7] [] (fun i__ v => match i__ with | 2 => v = (.bool true) | 7 => v = (.int .i64 n) | _ => False) (fun _ _ _ => True) (by kernel_rfl) (by kernel_rfl) (fun _ _ _ _ _ _ => trivial) ?_
    refine' wpT_det (o := ⟨some 9, Op.fieldAddr 27 (Operand.tmp 1) 0, 0, "l05_sparse.go:26", #[], none⟩) rfl (by rfl) (by rfl) (fun w' hw' => ?_) ?_; rotate_left
    · go_simp <;> first | rfl | exact ⟨rfl, rfl⟩
    simp only [Act.put, List.setIfInBounds_toArray, List.set_cons_zero, List.set_cons_succ]
    refine' wpT_det (o := ⟨some 10, Op.load 2 (Operand.tmp 9), 2, "l05_sparse.go:26", #[{ on := 0, ground := Ground.data }], none⟩) rfl (by rfl) (by rfl) (fun w' hw' => ?_) ?_; rotate_left
    · have a0_ := Ext.cell hw' a0; have a1_ := Ext.cell hw' a1; have a2_ := Ext.cell hw' a2; have a3_ := Ext.cell hw' a3; have hc_ := Ext.cell hw' hc; have hc'_ := Ext.cell hw' hc'; go_simp <;> first | rfl | exact ⟨rfl, rfl⟩
    simp only [Act.put, List.setIfInBounds_toArray, List.set_cons_zero, List.set_cons_succ]
    refine wpT_nd (o := ⟨some 11, Op.call { callee := Callee.value (Operand.func 107), args := #[Operand.tmp 10, Operand.const (Value.int IntKind.i64 1), Operand.const (Value.int IntKind.i64 32)], argTypes := #[2, 2, 2] }, 4, "l05_sparse.go:26", #[{ on := 1, ground := Ground.data }], none⟩) rfl (by rfl) (by rfl) (fun w' hw' hF R__ hGo => ?_) ⟨_, rfl⟩ ?_
    · go_simp
      refine gives_enter rfl ?_
      refine (inRange_any _ _ _ _).mono ?_
      rintro e w2 ⟨rfl, rfl⟩
      exact ⟨_, rfl, hGo _ _ (Ext.refl _) (congrArg Value.bool h1) trivial⟩
    intro v hv
    obtain rfl : v = (.bool true) := hv
    simp only [Act.put, List.setIfInBounds_toArray, List.set_cons_zero, List.set_cons_succ]
    refine' wpT_det (o := ⟨some 12, Op.unOp UnOp.not 4 (Operand.tmp 11), 4, "l05_sparse.go:26", #[{ on := 2, ground := Ground.data }], none⟩) rfl (by rfl) (by rfl) (fun w' hw' => ?_) ?_; rotate_left
    · go_simp <;> first | rfl | exact ⟨rfl, rfl⟩
    simp only [Act.put, List.setIfInBounds_toArray, List.set_cons_zero, List.set_cons_succ]
    refine' wpT_det (o := ⟨some 13, Op.move (Operand.tmp 12), 4, "l05_sparse.go:26", #[{ on := 3, ground := Ground.data }, { on := 2, ground := Ground.chain }], none⟩) rfl (by rfl) (by rfl) (fun w' hw' => ?_) ?_; rotate_left
    · go_simp <;> first | rfl | exact ⟨rfl, rfl⟩
    simp only [Act.put, List.setIfInBounds_toArray, List.set_cons_zero, List.set_cons_succ]
    refine' wpT_det (o := ⟨some 14, Op.fieldAddr 27 (Operand.tmp 1) 1, 0, "l05_sparse.go:26", #[{ on := 4, ground := Ground.guard }], some (4, false)⟩) rfl (by rfl) (by rfl) (fun w' hw' => ?_) ?_; rotate_left
    · go_simp <;> first | rfl | exact ⟨rfl, rfl⟩
    simp only [Act.put, List.setIfInBounds_toArray, List.set_cons_zero, List.set_cons_succ]
    refine' wpT_det (o := ⟨some 15, Op.load 22 (Operand.tmp 14), 22, "l05_sparse.go:26", #[{ on := 5, ground := Ground.data }, { on := 4, ground := Ground.guard }], some (4, false)⟩) rfl (by rfl) (by rfl) (fun w' hw' => ?_) ?_; rotate_left
    · have a0_ := Ext.cell hw' a0; have a1_ := Ext.cell hw' a1; have a2_ := Ext.cell hw' a2; have a3_ := Ext.cell hw' a3; have hc_ := Ext.cell hw' hc; have hc'_ := Ext.cell hw' hc'; go_simp <;> first | rfl | exact ⟨rfl, rfl⟩
    simp only [Act.put, List.setIfInBounds_toArray, List.set_cons_zero, List.set_cons_succ]
    refine wpT_nd (o := ⟨some 16, Op.call { callee := Callee.value (Operand.func 87), args := #[Operand.tmp 15], argTypes := #[22] }, 2, "l05_sparse.go:26", #[{ on := 6, ground := Ground.data }, { on := 4, ground := Ground.chain }, { on := 4, ground := Ground.guard }], some (4, false)⟩) rfl (by rfl) (by rfl) (fun w' hw' hF R__ hGo => ?_) ⟨_, rfl⟩ ?_
    · go_simp
      refine gives_enter rfl ?_
      refine (length_any _ _ _ hs _).mono ?_
      rintro e w2 ⟨rfl, rfl⟩
      exact ⟨_, rfl, hGo _ _ (Ext.refl _) rfl trivial⟩
    intro v hv
    obtain rfl : v = (.int .i64 n) := hv
    simp only [Act.put, List.setIfInBounds_toArray, List.set_cons_zero, List.set_cons_succ]
    refine' wpT_det (o := ⟨some 17, Op.fieldAddr 27 (Operand.tmp 1) 0, 0, "l05_sparse.go:26", #[{ on := 4, ground := Ground.guard }], some (4, false)⟩) rfl (by rfl) (by rfl) (fun w' hw' => ?_) ?_; rotate_left
    · go_simp <;> first | rfl | exact ⟨rfl, rfl⟩
    simp only [Act.put, List.setIfInBounds_toArray, List.set_cons_zero, List.set_cons_succ]
    refine' wpT_det (o := ⟨some 18, Op.load 2 (Operand.tmp 17), 2, "l05_sparse.go:26", #[{ on := 8, ground := Ground.data }, { on := 4, ground := Ground.guard }], some (4, false)⟩) rfl (by rfl) (by rfl) (fun w' hw' => ?_) ?_; rotate_left
    · have a0_ := Ext.cell hw' a0; have a1_ := Ext.cell hw' a1; have a2_ := Ext.cell hw' a2; have a3_ := Ext.cell hw' a3; have hc_ := Ext.cell hw' hc; have hc'_ := Ext.cell hw' hc'; go_simp <;> first | rfl | exact ⟨rfl, rfl⟩
    simp only [Act.put, List.setIfInBounds_toArray, List.set_cons_zero, List.set_cons_succ]
    refine' wpT_det (o := ⟨some 19, Op.binOp BinOp.add 2 (Operand.tmp 18) (Operand.const (Value.int IntKind.i64 1)) 2, 2, "l05_sparse.go:26", #[{ on := 9, ground := Ground.data }, { on := 4, ground := Ground.guard }], some (4, false)⟩) rfl (by rfl) (by rfl) (fun w' hw' => ?_) ?_; rotate_left
    · go_simp <;> first | rfl | exact ⟨rfl, rfl⟩
    simp only [Act.put, List.setIfInBounds_toArray, List.set_cons_zero, List.set_cons_succ]
    refine' wpT_det (o := ⟨some 20, Op.binOp BinOp.neq 2 (Operand.tmp 16) (Operand.tmp 19) 2, 4, "l05_sparse.go:26", #[{ on := 7, ground := Ground.data }, { on := 10, ground := Ground.data }, { on := 4, ground := Ground.guard }], some (4, false)⟩) rfl (by rfl) (by rfl) (fun w' hw' => ?_) ?_; rotate_left
    · go_simp <;> first | rfl | exact ⟨rfl, rfl⟩
    simp only [Act.put, List.setIfInBounds_toArray, List.set_cons_zero, List.set_cons_succ]
    refine' wpT_det (o := ⟨some 21, Op.pick (Operand.tmp 13) (Operand.const (Value.bool true)) (Operand.tmp 20), 4, "l05_sparse.go:26", #[{ on := 4, ground := Ground.data }, { on := 11, ground := Ground.data }], none⟩) rfl (by rfl) (by rfl) (fun w' hw' => ?_) ?_; rotate_left
    · go_simp <;> first | rfl | exact ⟨rfl, rfl⟩
    simp only [Act.put, List.setIfInBounds_toArray, List.set_cons_zero, List.set_cons_succ]
    refine' wpT_det (o := ⟨some 22, Op.move (Operand.tmp 21), 4, "l05_sparse.go:26", #[{ on := 12, ground := Ground.data }, { on := 7, ground := Ground.chain }], none⟩) rfl (by rfl) (by rfl) (fun w' hw' => ?_) ?_; rotate_left
    · go_simp <;> first | rfl | exact ⟨rfl, rfl⟩
    simp only [Act.put, List.setIfInBounds_toArray, List.set_cons_zero, List.set_cons_succ]
    refine' wpT_det (o := ⟨some 23, Op.move (Operand.tmp 3), 2, "l05_sparse.go:26", #[{ on := 13, ground := Ground.guard }], some (13, false)⟩) rfl (by rfl) (by rfl) (fun w' hw' => ?_) ?_; rotate_left
    · go_simp <;> first | rfl | exact ⟨rfl, rfl⟩
    simp only [Act.put, List.setIfInBounds_toArray, List.set_cons_zero, List.set_cons_succ]
    refine' wpT_det (o := ⟨some 24, Op.binOp BinOp.gtr 2 (Operand.tmp 23) (Operand.const (Value.int IntKind.i64 512)) 2, 4, "l05_sparse.go:26", #[{ on := 14, ground := Ground.data }, { on := 13, ground := Ground.guard }], some (13, false)⟩) rfl (by rfl) (by rfl) (fun w' hw' => ?_) ?_; rotate_left
    · go_simp <;> first | rfl | exact ⟨rfl, rfl⟩
    simp only [Act.put, List.setIfInBounds_toArray, List.set_cons_zero, List.set_cons_succ]
    refine' wpT_det (o := ⟨some 25, Op.pick (Operand.tmp 22) (Operand.const (Value.bool true)) (Operand.tmp 24), 4, "l05_sparse.go:26", #[{ on := 13, ground := Ground.data }, { on := 15, ground := Ground.data }], none⟩) rfl (by rfl) (by rfl) (fun w' hw' => ?_) ?_; rotate_left
    · go_simp <;> first | rfl | exact ⟨rfl, rfl⟩
    simp only [Act.put, List.setIfInBounds_toArray, List.set_cons_zero, List.set_cons_succ]
    refine' wpT_det (o := ⟨some 26, Op.move (Operand.tmp 25), 4, "l05_sparse.go:26", #[{ on := 16, ground := Ground.data }, { on := 13, ground := Ground.chain }], none⟩) rfl (by rfl) (by rfl) (fun w' hw' => ?_) ?_; rotate_left
    · go_simp <;> first | rfl | exact ⟨rfl, rfl⟩
    simp only [Act.put, List.setIfInBounds_toArray, List.set_cons_zero, List.set_cons_succ]
    refine' wpT_det (o := ⟨some 27, Op.fieldAddr 27 (Operand.tmp 1) 3, 0, "l05_sparse.go:26", #[{ on := 17, ground := Ground.guard }], some (17, false)⟩) rfl (by rfl) (by rfl) (fun w' hw' => ?_) ?_; rotate_left
    · go_simp <;> first | rfl | exact ⟨rfl, rfl⟩
    simp only [Act.put, List.setIfInBounds_toArray, List.set_cons_zero, List.set_cons_succ]
    refine' wpT_det (o := ⟨some 28, Op.load 23 (Operand.tmp 27), 23, "l05_sparse.go:26", #[{ on := 18, ground := Ground.data }, { on := 17, ground := Ground.guard }], some (17, false)⟩) rfl (by rfl) (by rfl) (fun w' hw' => ?_) ?_; rotate_left
    · have a0_ := Ext.cell hw' a0; have a1_ := Ext.cell hw' a1; have a2_ := Ext.cell hw' a2; have a3_ := Ext.cell hw' a3; have hc_ := Ext.cell hw' hc; have hc'_ := Ext.cell hw' hc'; go_simp <;> first | rfl | exact ⟨rfl, rfl⟩
    simp only [Act.put, List.setIfInBounds_toArray, List.set_cons_zero, List.set_cons_succ]
    refine' wpT_det (o := ⟨some 29, Op.call { callee := Callee.builtin Builtin.len, args := #[Operand.tmp 28], argTypes := #[23] }, 3, "l05_sparse.go:26", #[{ on := 19, ground := Ground.data }, { on := 17, ground := Ground.guard }], some (17, false)⟩) rfl (by rfl) (by rfl) (fun w' hw' => ?_) ?_; rotate_left
    · go_simp <;> first | rfl | exact ⟨rfl, rfl⟩
    simp only [Act.put, List.setIfInBounds_toArray, List.set_cons_zero, List.set_cons_succ]
    refine' wpT_det (o := ⟨some 30, Op.fieldAddr 27 (Operand.tmp 1) 2, 0, "l05_sparse.go:26", #[{ on := 17, ground := Ground.guard }], some (17, false)⟩) rfl (by rfl) (by rfl) (fun w' hw' => ?_) ?_; rotate_left
    · go_simp <;> first | rfl | exact ⟨rfl, rfl⟩
    simp only [Act.put, List.setIfInBounds_toArray, List.set_cons_zero, List.set_cons_succ]
    refine' wpT_det (o := ⟨some 31, Op.load 22 (Operand.tmp 30), 22, "l05_sparse.go:26", #[{ on := 21, ground := Ground.data }, { on := 17, ground := Ground.guard }], some (17, false)⟩) rfl (by rfl) (by rfl) (fun w' hw' => ?_) ?_; rotate_left
    · have a0_ := Ext.cell hw' a0; have a1_ := Ext.cell hw' a1; have a2_ := Ext.cell hw' a2; have a3_ := Ext.cell hw' a3; have hc_ := Ext.cell hw' hc; have hc'_ := Ext.cell hw' hc'; go_simp <;> first | rfl | exact ⟨rfl, rfl⟩
    simp only [Act.put, List.setIfInBounds_toArray, List.set_cons_zero, List.set_cons_succ]
    refine' wpT_det (o := ⟨some 32, Op.call { callee := Callee.builtin Builtin.len, args := #[Operand.tmp 31], argTypes := #[22] }, 3, "l05_sparse.go:26", #[{ on := 22, ground := Ground.data }, { on := 17, ground := Ground.guard }], some (17, false)⟩) rfl (by rfl) (by rfl) (fun w' hw' => ?_) ?_; rotate_left
    · go_simp <;> first | rfl | exact ⟨rfl, rfl⟩
    simp only [Act.put, List.setIfInBounds_toArray, List.set_cons_zero, List.set_cons_succ]
    refine' wpT_det (o := ⟨some 33, Op.binOp BinOp.neq 3 (Operand.tmp 29) (Operand.tmp 32) 3, 4, "l05_sparse.go:26", #[{ on := 20, ground := Ground.data }, { on := 23, ground := Ground.data }, { on := 17, ground := Ground.guard }], some (17, false)⟩) rfl (by rfl) (by rfl) (fun w' hw' => ?_) ?_; rotate_left
    · go_simp <;> first | rfl | exact ⟨rfl, rfl⟩
    simp only [Act.put, List.setIfInBounds_toArray, List.set_cons_zero, List.set_cons_succ]
    refine' wpT_det (o := ⟨some 34, Op.pick (Operand.tmp 26) (Operand.const (Value.bool true)) (Operand.tmp 33), 4, "l05_sparse.go:26", #[{ on := 17, ground := Ground.data }, { on := 24, ground := Ground.data }], none⟩) rfl (by rfl) (by rfl) (fun w' hw' => ?_) ?_; rotate_left
    · go_simp <;> first | rfl | exact ⟨rfl, rfl⟩
    simp only [Act.put, List.setIfInBounds_toArray, List.set_cons_zero, List.set_cons_succ]
    refine' wpT_det (o := ⟨some 35, Op.move (Operand.tmp 34), 4, "l05_sparse.go:26", #[{ on := 25, ground := Ground.data }, { on := 17, ground := Ground.chain }], none⟩) rfl (by rfl) (by rfl) (fun w' hw' => ?_) ?_; rotate_left
    · go_simp <;> first | rfl | exact ⟨rfl, rfl⟩
    simp only [Act.put, List.setIfInBounds_toArray, List.set_cons_zero, List.set_cons_succ]
    refine' wpT_det (o := ⟨some 36, Op.fieldAddr 27 (Operand.tmp 1) 1, 0, "l05_sparse.go:26", #[{ on := 26, ground := Ground.guard }], some (26, false)⟩) rfl (by rfl) (by rfl) (fun w' hw' => ?_) ?_; rotate_left
    · go_simp <;> first | rfl | exact ⟨rfl, rfl⟩
    simp only [Act.put, List.setIfInBounds_toArray, List.set_cons_zero, List.set_cons_succ]
    refine' wpT_det (o := ⟨some 37, Op.load 22 (Operand.tmp 36), 22, "l05_sparse.go:26", #[{ on := 27, ground := Ground.data }, { on := 26, ground := Ground.guard }], some (26, false)⟩) rfl (by rfl) (by rfl) (fun w' hw' => ?_) ?_; rotate_left
    · have a0_ := Ext.cell hw' a0; have a1_ := Ext.cell hw' a1; have a2_ := Ext.cell hw' a2; have a3_ := Ext.cell hw' a3; have hc_ := Ext.cell hw' hc; have hc'_ := Ext.cell hw' hc'; go_simp <;> first | rfl | exact ⟨rfl, rfl⟩
    simp only [Act.put, List.setIfInBounds_toArray, List.set_cons_zero, List.set_cons_succ]
    refine' wpT_det (o := ⟨some 38, Op.indexAddr 22 (Operand.tmp 37) (Operand.const (Value.int IntKind.i64 0)), 0, "l05_sparse.go:26", #[{ on := 28, ground := Ground.data }, { on := 26, ground := Ground.guard }], some (26, false)⟩) rfl (by rfl) (by rfl) (fun w' hw' => ?_) ?_; rotate_left
    · go_simp <;> first | rfl | exact ⟨rfl, rfl⟩
    simp only [Act.put, List.setIfInBounds_toArray, List.set_cons_zero, List.set_cons_succ]
    refine' wpT_det (o := ⟨some 39, Op.load 2 (Operand.tmp 38), 2, "l05_sparse.go:26", #[{ on := 29, ground := Ground.data }, { on := 26, ground := Ground.guard }], some (26, false)⟩) rfl (by rfl) (by rfl) (fun w' hw' => ?_) ?_; rotate_left
    · have a0_ := Ext.cell hw' a0; have a1_ := Ext.cell hw' a1; have a2_ := Ext.cell hw' a2; have a3_ := Ext.cell hw' a3; have hc_ := Ext.cell hw' hc; have hc'_ := Ext.cell hw' hc'; go_simp <;> first | rfl | exact ⟨rfl, rfl⟩
    simp only [Act.put, List.setIfInBounds_toArray, List.set_cons_zero, List.set_cons_succ]
    refine' wpT_det (o := ⟨some 40, Op.binOp BinOp.neq 2 (Operand.tmp 39) (Operand.const (Value.int IntKind.i64 0)) 2, 4, "l05_sparse.go:26", #[{ on := 30, ground := Ground.data }, { on := 26, ground := Ground.guard }], some (26, false)⟩) rfl (by rfl) (by rfl) (fun w' hw' => ?_) ?_; rotate_left
    · go_simp <;> first | rfl | exact ⟨rfl, rfl⟩
    simp only [Act.put, List.setIfInBounds_toArray, List.set_cons_zero, List.set_cons_succ]
    refine' wpT_det (o := ⟨some 41, Op.pick (Operand.tmp 35) (Operand.const (Value.bool true)) (Operand.tmp 40), 4, "l05_sparse.go:26", #[{ on := 26, ground := Ground.data }, { on := 31, ground := Ground.data }], none⟩) rfl (by rfl) (by rfl) (fun w' hw' => ?_) ?_; rotate_left
    · go_simp <;> first | rfl | exact ⟨rfl, rfl⟩
    simp only [Act.put, List.setIfInBounds_toArray, List.set_cons_zero, List.set_cons_succ]
    refine' wpT_det (o := ⟨some 42, Op.move (Operand.tmp 41), 4, "l05_sparse.go:26", #[{ on := 32, ground := Ground.data }, { on := 26, ground := Ground.chain }], none⟩) rfl (by rfl) (by rfl) (fun w' hw' => ?_) ?_; rotate_left
    · go_simp <;> first | rfl | exact ⟨rfl, rfl⟩
    simp only [Act.put, List.setIfInBounds_toArray, List.set_cons_zero, List.set_cons_succ]
    refine wpT_skip (o := ⟨some 43, Op.fieldAddr 27 (Operand.tmp 1) 1, 0, "l05_sparse.go:26", #[{ on := 33, ground := Ground.guard }], some (33, false)⟩) rfl (by rfl) ?_
    simp only [Act.put, List.setIfInBounds_toArray, List.set_cons_zero, List.set_cons_succ]
    refine wpT_skip (o := ⟨some 44, Op.load 22 (Operand.tmp 43), 22, "l05_sparse.go:26", #[{ on := 34, ground := Ground.data }, { on := 33, ground := Ground.guard }], some (33, false)⟩) rfl (by rfl) ?_
    simp only [Act.put, List.setIfInBounds_toArray, List.set_cons_zero, List.set_cons_succ]
    refine wpT_skip (o := ⟨some 45, Op.fieldAddr 27 (Operand.tmp 1) 0, 0, "l05_sparse.go:26", #[{ on := 33, ground := Ground.guard }], some (33, false)⟩) rfl (by rfl) ?_
    simp only [Act.put, List.setIfInBounds_toArray, List.set_cons_zero, List.set_cons_succ]
    refine wpT_skip (o := ⟨some 46, Op.load 2 (Operand.tmp 45), 2, "l05_sparse.go:26", #[{ on := 36, ground := Ground.data }, { on := 33, ground := Ground.guard }], some (33, false)⟩) rfl (by rfl) ?_
    simp only [Act.put, List.setIfInBounds_toArray, List.set_cons_zero, List.set_cons_succ]
    refine wpT_skip (o := ⟨some 47, Op.indexAddr 22 (Operand.tmp 44) (Operand.tmp 46), 0, "l05_sparse.go:26", #[{ on := 35, ground := Ground.data }, { on := 37, ground := Ground.data }, { on := 33, ground := Ground.guard }], some (33, false)⟩) rfl (by rfl) ?_
    simp only [Act.put, List.setIfInBounds_toArray, List.set_cons_zero, List.set_cons_succ]
    refine wpT_skip (o := ⟨some 48, Op.load 2 (Operand.tmp 47), 2, "l05_sparse.go:26", #[{ on := 38, ground := Ground.data }, { on := 33, ground := Ground.guard }], some (33, false)⟩) rfl (by rfl) ?_
    simp only [Act.put, List.setIfInBounds_toArray, List.set_cons_zero, List.set_cons_succ]
    refine wpT_skip (o := ⟨some 49, Op.move (Operand.tmp 3), 2, "l05_sparse.go:26", #[{ on := 33, ground := Ground.guard }], some (33, false)⟩) rfl (by rfl) ?_
    simp only [Act.put, List.setIfInBounds_toArray, List.set_cons_zero, List.set_cons_succ]
    refine wpT_skip (o := ⟨some 50, Op.binOp BinOp.neq 2 (Operand.tmp 48) (Operand.tmp 49) 2, 4, "l05_sparse.go:26", #[{ on := 39, ground := Ground.data }, { on := 40, ground := Ground.data }, { on := 33, ground := Ground.guard }], some (33, false)⟩) rfl (by rfl) ?_
    simp only [Act.put, List.setIfInBounds_toArray, List.set_cons_zero, List.set_cons_succ]
    refine' wpT_det (o := ⟨some 51, Op.pick (Operand.tmp 42) (Operand.const (Value.bool true)) (Operand.tmp 50), 4, "l05_sparse.go:26", #[{ on := 33, ground := Ground.data }, { on := 41, ground := Ground.data }], none⟩) rfl (by rfl) (by rfl) (fun w' hw' => ?_) ?_; rotate_left
    · go_simp <;> first | rfl | exact ⟨rfl, rfl⟩
    simp only [Act.put, List.setIfInBounds_toArray, List.set_cons_zero, List.set_cons_succ]
    refine wpT_nil (fun w' hw' hF => ?_)
    refine wpList_nil ?_
    go_wp2_with fail
    go_ret
    exact ⟨ret_bool (by rw [Hres.out, hno]), hx0.trans hw'.undrew⟩
  have h5' : (rd st 0 != 0) = false := by simpa using h5
  have H5 := Lib.hid h5
  clear h5
  by_cases h6 : rd st sd = m
  rotate_left
  · have h6' : (rd st sd != m) = true := by simpa using h6
    have hno : isSp sd st co va = false := isSp_not fun h => h6 (by have := h.s7; rw [HB.out] at this; exact this)
    clear h6
    go_enter Try.func38, Try.ntmps38
    go_upto_region 1 with (fail)
    obtain ⟨w0, hw0⟩ : ∃ w0, w0 = (w.alloc (.cells #[.int .i64 sd, .slice A n ca, .slice B m cb, .slice V p cv] 27)) := ⟨_, rfl⟩
    have hx0 : Ext w w0 := by subst hw0; exact (Ext.refl _).alloc _
    have ba : Blk w0 (w.heap.size) #[.int .i64 sd, .slice A n ca, .slice B m cb, .slice V p cv] 27 := by subst hw0; exact (Blk.new w _ _)
    rw [← hw0]
    clear hw0
    have a0 := ba.cell 0 rfl
    have a1 := ba.cell 1 rfl
    have a2 := ba.cell 2 rfl
    have a3 := ba.cell 3 rfl
    go_wp2_with fail
    refine (length_any B m cb hs2 _).mono ?_
    rintro e w1 ⟨rfl, rfl⟩
    go_upto_region 2 with (fail)
    have ec0 := (hr.below hx0).int 0 (by omega) (by omega)
    have ec1 := (hr.below hx0).int sd (by omega) (by omega)
    obtain ⟨ad, rfl, hc⟩ := ec0
    obtain ⟨ad', had, hc'⟩ := ec1
    obtain rfl := Option.some.inj had
    clear had
    replace hc : w0.cell? ad = some (.int .i64 (rd st 0)) := by rwa [show ad.add (0 : Int).toNat = ad by cases ad; simp [Addr.add]] at hc
    refine wp_region_T (cs := []) [0, 1, 2, 3, 4, 5, 6, 7, 8, 9, 10, 11, 12, 13, 14, 15, 16, 17, 18, 19, 20, 21, 22, 23, 24, 25, 26, 27, 28, 29, 30, 31, 32, 33, 34, 35, 36, 37, 38, 39, 40, 41, 42] [] [2, 7] [] (fun i__ v => match i__ with | 2 => v = (.bool true) | 7 => v = (.int .i64 n) | _ => False) (fun _ _ _ => True) (by kernel_rfl) (by kernel_rfl) (fun _ _ _ _ _ _ => trivial) ?_
    refine' wpT_det (o := ⟨some 9, Op.fieldAddr 27 (Operand.tmp 1) 0, 0, "l05_sparse.go:26", #[], none⟩) rfl (by rfl) (by rfl) (fun w' hw' => ?_) ?_; rotate_left
    · go_simp <;> first | rfl | exact ⟨rfl, rfl⟩
    simp only [Act.put, List.setIfInBounds_toArray, List.set_cons_zero, List.set_cons_succ]
    refine' wpT_det (o := ⟨some 10, Op.load 2 (Operand.tmp 9), 2, "l05_sparse.go:26", #[{ on := 0, ground := Ground.data }], none⟩) rfl (by rfl) (by rfl) (fun w' hw' => ?_) ?_; rotate_left
    · have a0_ := Ext.cell hw' a0; have a1_ := Ext.cell hw' a1; have a2_ := Ext.cell hw' a2; have a3_ := Ext.cell hw' a3; have hc_ := Ext.cell hw' hc; have hc'_ := Ext.cell hw' hc'; go_simp <;> first | rfl | exact ⟨rfl, rfl⟩
    simp only [Act.put, List.setIfInBounds_toArray, List.set_cons_zero, List.set_cons_succ]
    refine wpT_nd (o := ⟨some 11, Op.call { callee := Callee.value (Operand.func 107), args := #[Operand.tmp 10, Operand.const (Value.int IntKind.i64 1), Operand.const (Value.int IntKind.i64 32)], argTypes := #[2, 2, 2] }, 4, "l05_sparse.go:26", #[{ on := 1, ground := Ground.data }], none⟩) rfl (by rfl) (by rfl) (fun w' hw' hF R__ hGo => ?_) ⟨_, rfl⟩ ?_
    · go_simp
      refine gives_enter rfl ?_
      refine (inRange_any _ _ _ _).mono ?_
      rintro e w2 ⟨rfl, rfl⟩
      exact ⟨_, rfl, hGo _ _ (Ext.refl _) (congrArg Value.bool h1) trivial⟩
    intro v hv
    obtain rfl : v = (.bool true) := hv
    simp only [Act.put, List.setIfInBounds_toArray, List.set_cons_zero, List.set_cons_succ]
    refine' wpT_det (o := ⟨some 12, Op.unOp UnOp.not 4 (Operand.tmp 11), 4, "l05_sparse.go:26", #[{ on := 2, ground := Ground.data }], none⟩) rfl (by rfl) (by rfl) (fun w' hw' => ?_) ?_; rotate_left
    · go_simp <;> first | rfl | exact ⟨rfl, rfl⟩
    simp only [Act.put, List.setIfInBounds_toArray, List.set_cons_zero, List.set_cons_succ]
    refine' wpT_det (o := ⟨some 13, Op.move (Operand.tmp 12), 4, "l05_sparse.go:26", #[{ on := 3, ground := Ground.data }, { on := 2, ground := Ground.chain }], none⟩) rfl (by rfl) (by rfl) (fun w' hw' => ?_) ?_; rotate_left
    · go_simp <;> first | rfl | exact ⟨rfl, rfl⟩
    simp only [Act.put, List.setIfInBounds_toArray, List.set_cons_zero, List.set_cons_succ]
    refine' wpT_det (o := ⟨some 14, Op.fieldAddr 27 (Operand.tmp 1) 1, 0, "l05_sparse.go:26", #[{ on := 4, ground := Ground.guard }], some (4, false)⟩) rfl (by rfl) (by rfl) (fun w' hw' => ?_) ?_; rotate_left
    · go_simp <;> first | rfl | exact ⟨rfl, rfl⟩
    simp only [Act.put, List.setIfInBounds_toArray, List.set_cons_zero, List.set_cons_succ]
    refine' wpT_det (o := ⟨some 15, Op.load 22 (Operand.tmp 14), 22, "l05_sparse.go:26", #[{ on := 5, ground := Ground.data }, { on := 4, ground := Ground.guard }], some (4, false)⟩) rfl (by rfl) (by rfl) (fun w' hw' => ?_) ?_; rotate_left
    · have a0_ := Ext.cell hw' a0; have a1_ := Ext.cell hw' a1; have a2_ := Ext.cell hw' a2; have a3_ := Ext.cell hw' a3; have hc_ := Ext.cell hw' hc; have hc'_ := Ext.cell hw' hc'; go_simp <;> first | rfl | exact ⟨rfl, rfl⟩
    simp only [Act.put, List.setIfInBounds_toArray, List.set_cons_zero, List.set_cons_succ]
    refine wpT_nd (o := ⟨some 16, Op.call { callee := Callee.value (Operand.func 87), args := #[Operand.tmp 15], argTypes := #[22] }, 2, "l05_sparse.go:26", #[{ on := 6, ground := Ground.data }, { on := 4, ground := Ground.chain }, { on := 4, ground := Ground.guard }], some (4, false)⟩) rfl (by rfl) (by rfl) (fun w' hw' hF R__ hGo => ?_) ⟨_, rfl⟩ ?_
    · go_simp
      refine gives_enter rfl ?_
      refine (length_any _ _ _ hs _).mono ?_
      rintro e w2 ⟨rfl, rfl⟩
      exact ⟨_, rfl, hGo _ _ (Ext.refl _) rfl trivial⟩
    intro v hv
    obtain rfl : v = (.int .i64 n) := hv
    simp only [Act.put, List.setIfInBounds_toArray, List.set_cons_zero, List.set_cons_succ]
    refine' wpT_det (o := ⟨some 17, Op.fieldAddr 27 (Operand.tmp 1) 0, 0, "l05_sparse.go:26", #[{ on := 4, ground := Ground.guard }], some (4, false)⟩) rfl (by rfl) (by rfl) (fun w' hw' => ?_) ?_; rotate_left
    · go_simp <;> first | rfl | exact ⟨rfl, rfl⟩
    simp only [Act.put, List.setIfInBounds_toArray, List.set_cons_zero, List.set_cons_succ]
    refine' wpT_det (o := ⟨some 18, Op.load 2 (Operand.tmp 17), 2, "l05_sparse.go:26", #[{ on := 8, ground := Ground.data }, { on := 4, ground := Ground.guard }], some (4, false)⟩) rfl (by rfl) (by rfl) (fun w' hw' => ?_) ?_; rotate_left
    · have a0_ := Ext.cell hw' a0; have a1_ := Ext.cell hw' a1; have a2_ := Ext.cell hw' a2; have a3_ := Ext.cell hw' a3; have hc_ := Ext.cell hw' hc; have hc'_ := Ext.cell hw' hc'; go_simp <;> first | rfl | exact ⟨rfl, rfl⟩
    simp only [Act.put, List.setIfInBounds_toArray, List.set_cons_zero, List.set_cons_succ]
    refine' wpT_det (o := ⟨some 19, Op.binOp BinOp.add 2 (Operand.tmp 18) (Operand.const (Value.int IntKind.i64 1)) 2, 2, "l05_sparse.go:26", #[{ on := 9, ground := Ground.data }, { on := 4, ground := Ground.guard }], some (4, false)⟩) rfl (by rfl) (by rfl) (fun w' hw' => ?_) ?_; rotate_left
    · go_simp <;> first | rfl | exact ⟨rfl, rfl⟩
    simp only [Act.put, List.setIfInBounds_toArray, List.set_cons_zero, List.set_cons_succ]
    refine' wpT_det (o := ⟨some 20, Op.binOp BinOp.neq 2 (Operand.tmp 16) (Operand.tmp 19) 2, 4, "l05_sparse.go:26", #[{ on := 7, ground := Ground.data }, { on := 10, ground := Ground.data }, { on := 4, ground := Ground.guard }], some (4, false)⟩) rfl (by rfl) (by rfl) (fun w' hw' => ?_) ?_; rotate_left
    · go_simp <;> first | rfl | exact ⟨rfl, rfl⟩
    simp only [Act.put, List.setIfInBounds_toArray, List.set_cons_zero, List.set_cons_succ]
    refine' wpT_det (o := ⟨some 21, Op.pick (Operand.tmp 13) (Operand.const (Value.bool true)) (Operand.tmp 20), 4, "l05_sparse.go:26", #[{ on := 4, ground := Ground.data }, { on := 11, ground := Ground.data }], none⟩) rfl (by rfl) (by rfl) (fun w' hw' => ?_) ?_; rotate_left
    · go_simp <;> first | rfl | exact ⟨rfl, rfl⟩
    simp only [Act.put, List.setIfInBounds_toArray, List.set_cons_zero, List.set_cons_succ]
    refine' wpT_det (o := ⟨some 22, Op.move (Operand.tmp 21), 4, "l05_sparse.go:26", #[{ on := 12, ground := Ground.data }, { on := 7, ground := Ground.chain }], none⟩) rfl (by rfl) (by rfl) (fun w' hw' => ?_) ?_; rotate_left
    · go_simp <;> first | rfl | exact ⟨rfl, rfl⟩
    simp only [Act.put, List.setIfInBounds_toArray, List.set_cons_zero, List.set_cons_succ]
    refine' wpT_det (o := ⟨some 23, Op.move (Operand.tmp 3), 2, "l05_sparse.go:26", #[{ on := 13, ground := Ground.guard }], some (13, false)⟩) rfl (by rfl) (by rfl) (fun w' hw' => ?_) ?_; rotate_left
    · go_simp <;> first | rfl | exact ⟨rfl, rfl⟩
    simp only [Act.put, List.setIfInBounds_toArray, List.set_cons_zero, List.set_cons_succ]
    refine' wpT_det (o := ⟨some 24, Op.binOp BinOp.gtr 2 (Operand.tmp 23) (Operand.const (Value.int IntKind.i64 512)) 2, 4, "l05_sparse.go:26", #[{ on := 14, ground := Ground.data }, { on := 13, ground := Ground.guard }], some (13, false)⟩) rfl (by rfl) (by rfl) (fun w' hw' => ?_) ?_; rotate_left
    · go_simp <;> first | rfl | exact ⟨rfl, rfl⟩
    simp only [Act.put, List.setIfInBounds_toArray, List.set_cons_zero, List.set_cons_succ]
    refine' wpT_det (o := ⟨some 25, Op.pick (Operand.tmp 22) (Operand.const (Value.bool true)) (Operand.tmp 24), 4, "l05_sparse.go:26", #[{ on := 13, ground := Ground.data }, { on := 15, ground := Ground.data }], none⟩) rfl (by rfl) (by rfl) (fun w' hw' => ?_) ?_; rotate_left
    · go_simp <;> first | rfl | exact ⟨rfl, rfl⟩
    simp only [Act.put, List.setIfInBounds_toArray, List.set_cons_zero, List.set_cons_succ]
    refine' wpT_det (o := ⟨some 26, Op.move (Operand.tmp 25), 4, "l05_sparse.go:26", #[{ on := 16, ground := Ground.data }, { on := 13, ground := Ground.chain }], none⟩) rfl (by rfl) (by rfl) (fun w' hw' => ?_) ?_; rotate_left
    · go_simp <;> first | rfl | exact ⟨rfl, rfl⟩
    simp only [Act.put, List.setIfInBounds_toArray, List.set_cons_zero, List.set_cons_succ]
    refine' wpT_det (o := ⟨some 27, Op.fieldAddr 27 (Operand.tmp 1) 3, 0, "l05_sparse.go:26", #[{ on := 17, ground := Ground.guard }], some (17, false)⟩) rfl (by rfl) (by rfl) (fun w' hw' => ?_) ?_; rotate_left
    · go_simp <;> first | rfl | exact ⟨rfl, rfl⟩
    simp only [Act.put, List.setIfInBounds_toArray, List.set_cons_zero, List.set_cons_succ]
    refine' wpT_det (o := ⟨some 28, Op.load 23 (Operand.tmp 27), 23, "l05_sparse.go:26", #[{ on := 18, ground := Ground.data }, { on := 17, ground := Ground.guard }], some (17, false)⟩) rfl (by rfl) (by rfl) (fun w' hw' => ?_) ?_; rotate_left
    · have a0_ := Ext.cell hw' a0; have a1_ := Ext.cell hw' a1; have a2_ := Ext.cell hw' a2; have a3_ := Ext.cell hw' a3; have hc_ := Ext.cell hw' hc; have hc'_ := Ext.cell hw' hc'; go_simp <;> first | rfl | exact ⟨rfl, rfl⟩
    simp only [Act.put, List.setIfInBounds_toArray, List.set_cons_zero, List.set_cons_succ]
    refine' wpT_det (o := ⟨some 29, Op.call { callee := Callee.builtin Builtin.len, args := #[Operand.tmp 28], argTypes := #[23] }, 3, "l05_sparse.go:26", #[{ on := 19, ground := Ground.data }, { on := 17, ground := Ground.guard }], some (17, false)⟩) rfl (by rfl) (by rfl) (fun w' hw' => ?_) ?_; rotate_left
    · go_simp <;> first | rfl | exact ⟨rfl, rfl⟩
    simp only [Act.put, List.setIfInBounds_toArray, List.set_cons_zero, List.set_cons_succ]
    refine' wpT_det (o := ⟨some 30, Op.fieldAddr 27 (Operand.tmp 1) 2, 0, "l05_sparse.go:26", #[{ on := 17, ground := Ground.guard }], some (17, false)⟩) rfl (by rfl) (by rfl) (fun w' hw' => ?_) ?_; rotate_left
    · go_simp <;> first | rfl | exact ⟨rfl, rfl⟩
    simp only [Act.put, List.setIfInBounds_toArray, List.set_cons_zero, List.set_cons_succ]
    refine' wpT_det (o := ⟨some 31, Op.load 22 (Operand.tmp 30), 22, "l05_sparse.go:26", #[{ on := 21, ground := Ground.data }, { on := 17, ground := Ground.guard }], some (17, false)⟩) rfl (by rfl) (by rfl) (fun w' hw' => ?_) ?_; rotate_left
    · have a0_ := Ext.cell hw' a0; have a1_ := Ext.cell hw' a1; have a2_ := Ext.cell hw' a2; have a3_ := Ext.cell hw' a3; have hc_ := Ext.cell hw' hc; have hc'_ := Ext.cell hw' hc'; go_simp <;> first | rfl | exact ⟨rfl, rfl⟩
    simp only [Act.put, List.setIfInBounds_toArray, List.set_cons_zero, List.set_cons_succ]
    refine' wpT_det (o := ⟨some 32, Op.call { callee := Callee.builtin Builtin.len, args := #[Operand.tmp 31], argTypes := #[22] }, 3, "l05_sparse.go:26", #[{ on := 22, ground := Ground.data }, { on := 17, ground := Ground.guard }], some (17, false)⟩) rfl (by rfl) (by rfl) (fun w' hw' => ?_) ?_; rotate_left
    · go_simp <;> first | rfl | exact ⟨rfl, rfl⟩
    simp only [Act.put, List.setIfInBounds_toArray, List.set_cons_zero, List.set_cons_succ]
    refine' wpT_det (o := ⟨some 33, Op.binOp BinOp.neq 3 (Operand.tmp 29) (Operand.tmp 32) 3, 4, "l05_sparse.go:26", #[{ on := 20, ground := Ground.data }, { on := 23, ground := Ground.data }, { on := 17, ground := Ground.guard }], some (17, false)⟩) rfl (by rfl) (by rfl) (fun w' hw' => ?_) ?_; rotate_left
    · go_simp <;> first | rfl | exact ⟨rfl, rfl⟩
    simp only [Act.put, List.setIfInBounds_toArray, List.set_cons_zero, List.set_cons_succ]
    refine' wpT_det (o := ⟨some 34, Op.pick (Operand.tmp 26) (Operand.const (Value.bool true)) (Operand.tmp 33), 4, "l05_sparse.go:26", #[{ on := 17, ground := Ground.data }, { on := 24, ground := Ground.data }], none⟩) rfl (by rfl) (by rfl) (fun w' hw' => ?_) ?_; rotate_left
    · go_simp <;> first | rfl | exact ⟨rfl, rfl⟩
    simp only [Act.put, List.setIfInBounds_toArray, List.set_cons_zero, List.set_cons_succ]
    refine' wpT_det (o := ⟨some 35, Op.move (Operand.tmp 34), 4, "l05_sparse.go:26", #[{ on := 25, ground := Ground.data }, { on := 17, ground := Ground.chain }], none⟩) rfl (by rfl) (by rfl) (fun w' hw' => ?_) ?_; rotate_left
    · go_simp <;> first | rfl | exact ⟨rfl, rfl⟩
    simp only [Act.put, List.setIfInBounds_toArray, List.set_cons_zero, List.set_cons_succ]
    refine' wpT_det (o := ⟨some 36, Op.fieldAddr 27 (Operand.tmp 1) 1, 0, "l05_sparse.go:26", #[{ on := 26, ground := Ground.guard }], some (26, false)⟩) rfl (by rfl) (by rfl) (fun w' hw' => ?_) ?_; rotate_left
    · go_simp <;> first | rfl | exact ⟨rfl, rfl⟩
    simp only [Act.put, List.setIfInBounds_toArray, List.set_cons_zero, List.set_cons_succ]
    refine' wpT_det (o := ⟨some 37, Op.load 22 (Operand.tmp 36), 22, "l05_sparse.go:26", #[{ on := 27, ground := Ground.data }, { on := 26, ground := Ground.guard }], some (26, false)⟩) rfl (by rfl) (by rfl) (fun w' hw' => ?_) ?_; rotate_left
    · have a0_ := Ext.cell hw' a0; have a1_ := Ext.cell hw' a1; have a2_ := Ext.cell hw' a2; have a3_ := Ext.cell hw' a3; have hc_ := Ext.cell hw' hc; have hc'_ := Ext.cell hw' hc'; go_simp <;> first | rfl | exact ⟨rfl, rfl⟩
    simp only [Act.put, List.setIfInBounds_toArray, List.set_cons_zero, List.set_cons_succ]
    refine' wpT_det (o := ⟨some 38, Op.indexAddr 22 (Operand.tmp 37) (Operand.const (Value.int IntKind.i64 0)), 0, "l05_sparse.go:26", #[{ on := 28, ground := Ground.data }, { on := 26, ground := Ground.guard }], some (26, false)⟩) rfl (by rfl) (by rfl) (fun w' hw' => ?_) ?_; rotate_left
    · go_simp <;> first | rfl | exact ⟨rfl, rfl⟩
    simp only [Act.put, List.setIfInBounds_toArray, List.set_cons_zero, List.set_cons_succ]
    refine' wpT_det (o := ⟨some 39, Op.load 2 (Operand.tmp 38), 2, "l05_sparse.go:26", #[{ on := 29, ground := Ground.data }, { on := 26, ground := Ground.guard }], some (26, false)⟩) rfl (by rfl) (by rfl) (fun w' hw' => ?_) ?_; rotate_left
    · have a0_ := Ext.cell hw' a0; have a1_ := Ext.cell hw' a1; have a2_ := Ext.cell hw' a2; have a3_ := Ext.cell hw' a3; have hc_ := Ext.cell hw' hc; have hc'_ := Ext.cell hw' hc'; go_simp <;> first | rfl | exact ⟨rfl, rfl⟩
    simp only [Act.put, List.setIfInBounds_toArray, List.set_cons_zero, List.set_cons_succ]
    refine' wpT_det (o := ⟨some 40, Op.binOp BinOp.neq 2 (Operand.tmp 39) (Operand.const (Value.int IntKind.i64 0)) 2, 4, "l05_sparse.go:26", #[{ on := 30, ground := Ground.data }, { on := 26, ground := Ground.guard }], some (26, false)⟩) rfl (by rfl) (by rfl) (fun w' hw' => ?_) ?_; rotate_left
    · go_simp <;> first | rfl | exact ⟨rfl, rfl⟩
    simp only [Act.put, List.setIfInBounds_toArray, List.set_cons_zero, List.set_cons_succ]
    refine' wpT_det (o := ⟨some 41, Op.pick (Operand.tmp 35) (Operand.const (Value.bool true)) (Operand.tmp 40), 4, "l05_sparse.go:26", #[{ on := 26, ground := Ground.data }, { on := 31, ground := Ground.data }], none⟩) rfl (by rfl) (by rfl) (fun w' hw' => ?_) ?_; rotate_left
    · go_simp <;> first | rfl | exact ⟨rfl, rfl⟩
    simp only [Act.put, List.setIfInBounds_toArray, List.set_cons_zero, List.set_cons_succ]
    refine' wpT_det (o := ⟨some 42, Op.move (Operand.tmp 41), 4, "l05_sparse.go:26", #[{ on := 32, ground := Ground.data }, { on := 26, ground := Ground.chain }], none⟩) rfl (by rfl) (by rfl) (fun w' hw' => ?_) ?_; rotate_left
    · go_simp <;> first | rfl | exact ⟨rfl, rfl⟩
    simp only [Act.put, List.setIfInBounds_toArray, List.set_cons_zero, List.set_cons_succ]
    refine' wpT_det (o := ⟨some 43, Op.fieldAddr 27 (Operand.tmp 1) 1, 0, "l05_sparse.go:26", #[{ on := 33, ground := Ground.guard }], some (33, false)⟩) rfl (by rfl) (by rfl) (fun w' hw' => ?_) ?_; rotate_left
    · go_simp <;> first | rfl | exact ⟨rfl, rfl⟩
    simp only [Act.put, List.setIfInBounds_toArray, List.set_cons_zero, List.set_cons_succ]
    refine' wpT_det (o := ⟨some 44, Op.load 22 (Operand.tmp 43), 22, "l05_sparse.go:26", #[{ on := 34, ground := Ground.data }, { on := 33, ground := Ground.guard }], some (33, false)⟩) rfl (by rfl) (by rfl) (fun w' hw' => ?_) ?_; rotate_left
    · have a0_ := Ext.cell hw' a0; have a1_ := Ext.cell hw' a1; have a2_ := Ext.cell hw' a2; have a3_ := Ext.cell hw' a3; have hc_ := Ext.cell hw' hc; have hc'_ := Ext.cell hw' hc'; go_simp <;> first | rfl | exact ⟨rfl, rfl⟩
    simp only [Act.put, List.setIfInBounds_toArray, List.set_cons_zero, List.set_cons_succ]
    refine' wpT_det (o := ⟨some 45, Op.fieldAddr 27 (Operand.tmp 1) 0, 0, "l05_sparse.go:26", #[{ on := 33, ground := Ground.guard }], some (33, false)⟩) rfl (by rfl) (by rfl) (fun w' hw' => ?_) ?_; rotate_left
    · go_simp <;> first | rfl | exact ⟨rfl, rfl⟩
    simp only [Act.put, List.setIfInBounds_toArray, List.set_cons_zero, List.set_cons_succ]
    refine' wpT_det (o := ⟨some 46, Op.load 2 (Operand.tmp 45), 2, "l05_sparse.go:26", #[{ on := 36, ground := Ground.data }, { on := 33, ground := Ground.guard }], some (33, false)⟩) rfl (by rfl) (by rfl) (fun w' hw' => ?_) ?_; rotate_left
    · have a0_ := Ext.cell hw' a0; have a1_ := Ext.cell hw' a1; have a2_ := Ext.cell hw' a2; have a3_ := Ext.cell hw' a3; have hc_ := Ext.cell hw' hc; have hc'_ := Ext.cell hw' hc'; go_simp <;> first | rfl | exact ⟨rfl, rfl⟩
    simp only [Act.put, List.setIfInBounds_toArray, List.set_cons_zero, List.set_cons_succ]
    refine' wpT_det (o := ⟨some 47, Op.indexAddr 22 (Operand.tmp 44) (Operand.tmp 46), 0, "l05_sparse.go:26", #[{ on := 35, ground := Ground.data }, { on := 37, ground := Ground.data }, { on := 33, ground := Ground.guard }], some (33, false)⟩) rfl (by rfl) (by rfl) (fun w' hw' => ?_) ?_; rotate_left
    · go_simp <;> first | rfl | exact ⟨rfl, rfl⟩
    simp only [Act.put, List.setIfInBounds_toArray, List.set_cons_zero, List.set_cons_succ]
    refine' wpT_det (o := ⟨some 48, Op.load 2 (Operand.tmp 47), 2, "l05_sparse.go:26", #[{ on := 38, ground := Ground.data }, { on := 33, ground := Ground.guard }], some (33, false)⟩) rfl (by rfl) (by rfl) (fun w' hw' => ?_) ?_; rotate_left
    · have a0_ := Ext.cell hw' a0; have a1_ := Ext.cell hw' a1; have a2_ := Ext.cell hw' a2; have a3_ := Ext.cell hw' a3; have hc_ := Ext.cell hw' hc; have hc'_ := Ext.cell hw' hc'; go_simp <;> first | rfl | exact ⟨rfl, rfl⟩
    simp only [Act.put, List.setIfInBounds_toArray, List.set_cons_zero, List.set_cons_succ]
    refine' wpT_det (o := ⟨some 49, Op.move (Operand.tmp 3), 2, "l05_sparse.go:26", #[{ on := 33, ground := Ground.guard }], some (33, false)⟩) rfl (by rfl) (by rfl) (fun w' hw' => ?_) ?_; rotate_left
    · go_simp <;> first | rfl | exact ⟨rfl, rfl⟩
    simp only [Act.put, List.setIfInBounds_toArray, List.set_cons_zero, List.set_cons_succ]
    refine' wpT_det (o := ⟨some 50, Op.binOp BinOp.neq 2 (Operand.tmp 48) (Operand.tmp 49) 2, 4, "l05_sparse.go:26", #[{ on := 39, ground := Ground.data }, { on := 40, ground := Ground.data }, { on := 33, ground := Ground.guard }], some (33, false)⟩) rfl (by rfl) (by rfl) (fun w' hw' => ?_) ?_; rotate_left
    · go_simp <;> first | rfl | exact ⟨rfl, rfl⟩
    simp only [Act.put, List.setIfInBounds_toArray, List.set_cons_zero, List.set_cons_succ]
    refine' wpT_det (o := ⟨some 51, Op.pick (Operand.tmp 42) (Operand.const (Value.bool true)) (Operand.tmp 50), 4, "l05_sparse.go:26", #[{ on := 33, ground := Ground.data }, { on := 41, ground := Ground.data }], none⟩) rfl (by rfl) (by rfl) (fun w' hw' => ?_) ?_; rotate_left
    · go_simp <;> first | rfl | exact ⟨rfl, rfl⟩
    simp only [Act.put, List.setIfInBounds_toArray, List.set_cons_zero, List.set_cons_succ]
    refine wpT_nil (fun w' hw' hF => ?_)
    refine wpList_nil ?_
    go_wp2_with fail
    go_ret
    exact ⟨ret_bool (by rw [Hres.out, hno]), hx0.trans hw'.undrew⟩
  have h6' : (rd st sd != m) = false := by simpa using h6
  have H6 := Lib.hid h6
  clear h6
  have hw2 : IntKind.i64.wrap (sd - 1) = sd - 1 := IntWalk.i64_in _ (by omega)
  cases h7 : srtB st with
  | false =>
    have hno : isSp sd st co va = false := isSp_not fun h => by have hc := srtB_iff.2 (show Srt st from fun j hj => h.s8 j (by have := h.s2; omega)); rw [h7] at hc; cases hc
    go_enter Try.func38, Try.ntmps38
    go_upto_region 1 with (fail)
    obtain ⟨w0, hw0⟩ : ∃ w0, w0 = (w.alloc (.cells #[.int .i64 sd, .slice A n ca, .slice B m cb, .slice V p cv] 27)) := ⟨_, rfl⟩
    have hx0 : Ext w w0 := by subst hw0; exact (Ext.refl _).alloc _
    have ba : Blk w0 (w.heap.size) #[.int .i64 sd, .slice A n ca, .slice B m cb, .slice V p cv] 27 := by subst hw0; exact (Blk.new w _ _)
    rw [← hw0]
    clear hw0
    have a0 := ba.cell 0 rfl
    have a1 := ba.cell 1 rfl
    have a2 := ba.cell 2 rfl
    have a3 := ba.cell 3 rfl
    go_wp2_with fail
    refine (length_any B m cb hs2 _).mono ?_
    rintro e w1 ⟨rfl, rfl⟩
    go_upto_region 2 with (fail)
    have ec0 := (hr.below hx0).int 0 (by omega) (by omega)
    have ec1 := (hr.below hx0).int sd (by omega) (by omega)
    obtain ⟨ad, rfl, hc⟩ := ec0
    obtain ⟨ad', had, hc'⟩ := ec1
    obtain rfl := Option.some.inj had
    clear had
    replace hc : w0.cell? ad = some (.int .i64 (rd st 0)) := by rwa [show ad.add (0 : Int).toNat = ad by cases ad; simp [Addr.add]] at hc
    refine wp_region_T (cs := []) [0, 1, 2, 3, 4, 5, 6, 7, 8, 9, 10, 11, 12, 13, 14, 15, 16, 17, 18, 19, 20, 21, 22, 23, 24, 25, 26, 27, 28, 29, 30, 31, 32, 33, 34, 35, 36, 37, 38, 39, 40, 41, 42] [] [2, 7] [] (fun i__ v => match i__ with | 2 => v = (.bool true) | 7 => v = (.int .i64 n) | _ => False) (fun _ _ _ => True) (by kernel_rfl) (by kernel_rfl) (fun _ _ _ _ _ _ => trivial) ?_
    refine' wpT_det (o := ⟨some 9, Op.fieldAddr 27 (Operand.tmp 1) 0, 0, "l05_sparse.go:26", #[], none⟩) rfl (by rfl) (by rfl) (fun w' hw' => ?_) ?_; rotate_left
    · go_simp <;> first | rfl | exact ⟨rfl, rfl⟩
    simp only [Act.put, List.setIfInBounds_toArray, List.set_cons_zero, List.set_cons_succ]
    refine' wpT_det (o := ⟨some 10, Op.load 2 (Operand.tmp 9), 2, "l05_sparse.go:26", #[{ on := 0, ground := Ground.data }], none⟩) rfl (by rfl) (by rfl) (fun w' hw' => ?_) ?_; rotate_left
    · have a0_ := Ext.cell hw' a0; have a1_ := Ext.cell hw' a1; have a2_ := Ext.cell hw' a2; have a3_ := Ext.cell hw' a3; have hc_ := Ext.cell hw' hc; have hc'_ := Ext.cell hw' hc'; go_simp <;> first | rfl | exact ⟨rfl, rfl⟩
    simp only [Act.put, List.setIfInBounds_toArray, List.set_cons_zero, List.set_cons_succ]
    refine wpT_nd (o := ⟨some 11, Op.call { callee := Callee.value (Operand.func 107), args := #[Operand.tmp 10, Operand.const (Value.int IntKind.i64 1), Operand.const (Value.int IntKind.i64 32)], argTypes := #[2, 2, 2] }, 4, "l05_sparse.go:26", #[{ on := 1, ground := Ground.data }], none⟩) rfl (by rfl) (by rfl) (fun w' hw' hF R__ hGo => ?_) ⟨_, rfl⟩ ?_
    · go_simp
      refine gives_enter rfl ?_
      refine (inRange_any _ _ _ _).mono ?_
      rintro e w2 ⟨rfl, rfl⟩
      exact ⟨_, rfl, hGo _ _ (Ext.refl _) (congrArg Value.bool h1) trivial⟩
    intro v hv
    obtain rfl : v = (.bool true) := hv
    simp only [Act.put, List.setIfInBounds_toArray, List.set_cons_zero, List.set_cons_succ]
    refine' wpT_det (o := ⟨some 12, Op.unOp UnOp.not 4 (Operand.tmp 11), 4, "l05_sparse.go:26", #[{ on := 2, ground := Ground.data }], none⟩) rfl (by rfl) (by rfl) (fun w' hw' => ?_) ?_; rotate_left
    · go_simp <;> first | rfl | exact ⟨rfl, rfl⟩
    simp only [Act.put, List.setIfInBounds_toArray, List.set_cons_zero, List.set_cons_succ]
    refine' wpT_det (o := ⟨some 13, Op.move (Operand.tmp 12), 4, "l05_sparse.go:26", #[{ on := 3, ground := Ground.data }, { on := 2, ground := Ground.chain }], none⟩) rfl (by rfl) (by rfl) (fun w' hw' => ?_) ?_; rotate_left
    · go_simp <;> first | rfl | exact ⟨rfl, rfl⟩
    simp only [Act.put, List.setIfInBounds_toArray, List.set_cons_zero, List.set_cons_succ]
    refine' wpT_det (o := ⟨some 14, Op.fieldAddr 27 (Operand.tmp 1) 1, 0, "l05_sparse.go:26", #[{ on := 4, ground := Ground.guard }], some (4, false)⟩) rfl (by rfl) (by rfl) (fun w' hw' => ?_) ?_; rotate_left
    · go_simp <;> first | rfl | exact ⟨rfl, rfl⟩
    simp only [Act.put, List.setIfInBounds_toArray, List.set_cons_zero, List.set_cons_succ]
    refine' wpT_det (o := ⟨some 15, Op.load 22 (Operand.tmp 14), 22, "l05_sparse.go:26", #[{ on := 5, ground := Ground.data }, { on := 4, ground := Ground.guard }], some (4, false)⟩) rfl (by rfl) (by rfl) (fun w' hw' => ?_) ?_; rotate_left
    · have a0_ := Ext.cell hw' a0; have a1_ := Ext.cell hw' a1; have a2_ := Ext.cell hw' a2; have a3_ := Ext.cell hw' a3; have hc_ := Ext.cell hw' hc; have hc'_ := Ext.cell hw' hc'; go_simp <;> first | rfl | exact ⟨rfl, rfl⟩
    simp only [Act.put, List.setIfInBounds_toArray, List.set_cons_zero, List.set_cons_succ]
    refine wpT_nd (o := ⟨some 16, Op.call { callee := Callee.value (Operand.func 87), args := #[Operand.tmp 15], argTypes := #[22] }, 2, "l05_sparse.go:26", #[{ on := 6, ground := Ground.data }, { on := 4, ground := Ground.chain }, { on := 4, ground := Ground.guard }], some (4, false)⟩) rfl (by rfl) (by rfl) (fun w' hw' hF R__ hGo => ?_) ⟨_, rfl⟩ ?_
    · go_simp
      refine gives_enter rfl ?_
      refine (length_any _ _ _ hs _).mono ?_
      rintro e w2 ⟨rfl, rfl⟩
      exact ⟨_, rfl, hGo _ _ (Ext.refl _) rfl trivial⟩
    intro v hv
    obtain rfl : v = (.int .i64 n) := hv
    simp only [Act.put, List.setIfInBounds_toArray, List.set_cons_zero, List.set_cons_succ]
    refine' wpT_det (o := ⟨some 17, Op.fieldAddr 27 (Operand.tmp 1) 0, 0, "l05_sparse.go:26", #[{ on := 4, ground := Ground.guard }], some (4, false)⟩) rfl (by rfl) (by rfl) (fun w' hw' => ?_) ?_; rotate_left
    · go_simp <;> first | rfl | exact ⟨rfl, rfl⟩
    simp only [Act.put, List.setIfInBounds_toArray, List.set_cons_zero, List.set_cons_succ]
    refine' wpT_det (o := ⟨some 18, Op.load 2 (Operand.tmp 17), 2, "l05_sparse.go:26", #[{ on := 8, ground := Ground.data }, { on := 4, ground := Ground.guard }], some (4, false)⟩) rfl (by rfl) (by rfl) (fun w' hw' => ?_) ?_; rotate_left
    · have a0_ := Ext.cell hw' a0; have a1_ := Ext.cell hw' a1; have a2_ := Ext.cell hw' a2; have a3_ := Ext.cell hw' a3; have hc_ := Ext.cell hw' hc; have hc'_ := Ext.cell hw' hc'; go_simp <;> first | rfl | exact ⟨rfl, rfl⟩
    simp only [Act.put, List.setIfInBounds_toArray, List.set_cons_zero, List.set_cons_succ]
    refine' wpT_det (o := ⟨some 19, Op.binOp BinOp.add 2 (Operand.tmp 18) (Operand.const (Value.int IntKind.i64 1)) 2, 2, "l05_sparse.go:26", #[{ on := 9, ground := Ground.data }, { on := 4, ground := Ground.guard }], some (4, false)⟩) rfl (by rfl) (by rfl) (fun w' hw' => ?_) ?_; rotate_left
    · go_simp <;> first | rfl | exact ⟨rfl, rfl⟩
    simp only [Act.put, List.setIfInBounds_toArray, List.set_cons_zero, List.set_cons_succ]
    refine' wpT_det (o := ⟨some 20, Op.binOp BinOp.neq 2 (Operand.tmp 16) (Operand.tmp 19) 2, 4, "l05_sparse.go:26", #[{ on := 7, ground := Ground.data }, { on := 10, ground := Ground.data }, { on := 4, ground := Ground.guard }], some (4, false)⟩) rfl (by rfl) (by rfl) (fun w' hw' => ?_) ?_; rotate_left
    · go_simp <;> first | rfl | exact ⟨rfl, rfl⟩
    simp only [Act.put, List.setIfInBounds_toArray, List.set_cons_zero, List.set_cons_succ]
    refine' wpT_det (o := ⟨some 21, Op.pick (Operand.tmp 13) (Operand.const (Value.bool true)) (Operand.tmp 20), 4, "l05_sparse.go:26", #[{ on := 4, ground := Ground.data }, { on := 11, ground := Ground.data }], none⟩) rfl (by rfl) (by rfl) (fun w' hw' => ?_) ?_; rotate_left
    · go_simp <;> first | rfl | exact ⟨rfl, rfl⟩
    simp only [Act.put, List.setIfInBounds_toArray, List.set_cons_zero, List.set_cons_succ]
    refine' wpT_det (o := ⟨some 22, Op.move (Operand.tmp 21), 4, "l05_sparse.go:26", #[{ on := 12, ground := Ground.data }, { on := 7, ground := Ground.chain }], none⟩) rfl (by rfl) (by rfl) (fun w' hw' => ?_) ?_; rotate_left
    · go_simp <;> first | rfl | exact ⟨rfl, rfl⟩
    simp only [Act.put, List.setIfInBounds_toArray, List.set_cons_zero, List.set_cons_succ]
    refine' wpT_det (o := ⟨some 23, Op.move (Operand.tmp 3), 2, "l05_sparse.go:26", #[{ on := 13, ground := Ground.guard }], some (13, false)⟩) rfl (by rfl) (by rfl) (fun w' hw' => ?_) ?_; rotate_left
    · go_simp <;> first | rfl | exact ⟨rfl, rfl⟩
    simp only [Act.put, List.setIfInBounds_toArray, List.set_cons_zero, List.set_cons_succ]
    refine' wpT_det (o := ⟨some 24, Op.binOp BinOp.gtr 2 (Operand.tmp 23) (Operand.const (Value.int IntKind.i64 512)) 2, 4, "l05_sparse.go:26", #[{ on := 14, ground := Ground.data }, { on := 13, ground := Ground.guard }], some (13, false)⟩) rfl (by rfl) (by rfl) (fun w' hw' => ?_) ?_; rotate_left
    · go_simp <;> first | rfl | exact ⟨rfl, rfl⟩
    simp only [Act.put, List.setIfInBounds_toArray, List.set_cons_zero, List.set_cons_succ]
    refine' wpT_det (o := ⟨some 25, Op.pick (Operand.tmp 22) (Operand.const (Value.bool true)) (Operand.tmp 24), 4, "l05_sparse.go:26", #[{ on := 13, ground := Ground.data }, { on := 15, ground := Ground.data }], none⟩) rfl (by rfl) (by rfl) (fun w' hw' => ?_) ?_; rotate_left
    · go_simp <;> first | rfl | exact ⟨rfl, rfl⟩
    simp only [Act.put, List.setIfInBounds_toArray, List.set_cons_zero, List.set_cons_succ]
    refine' wpT_det (o := ⟨some 26, Op.move (Operand.tmp 25), 4, "l05_sparse.go:26", #[{ on := 16, ground := Ground.data }, { on := 13, ground := Ground.chain }], none⟩) rfl (by rfl) (by rfl) (fun w' hw' => ?_) ?_; rotate_left
    · go_simp <;> first | rfl | exact ⟨rfl, rfl⟩
    simp only [Act.put, List.setIfInBounds_toArray, List.set_cons_zero, List.set_cons_succ]
    refine' wpT_det (o := ⟨some 27, Op.fieldAddr 27 (Operand.tmp 1) 3, 0, "l05_sparse.go:26", #[{ on := 17, ground := Ground.guard }], some (17, false)⟩) rfl (by rfl) (by rfl) (fun w' hw' => ?_) ?_; rotate_left
    · go_simp <;> first | rfl | exact ⟨rfl, rfl⟩
    simp only [Act.put, List.setIfInBounds_toArray, List.set_cons_zero, List.set_cons_succ]
    refine' wpT_det (o := ⟨some 28, Op.load 23 (Operand.tmp 27), 23, "l05_sparse.go:26", #[{ on := 18, ground := Ground.data }, { on := 17, ground := Ground.guard }], some (17, false)⟩) rfl (by rfl) (by rfl) (fun w' hw' => ?_) ?_; rotate_left
    · have a0_ := Ext.cell hw' a0; have a1_ := Ext.cell hw' a1; have a2_ := Ext.cell hw' a2; have a3_ := Ext.cell hw' a3; have hc_ := Ext.cell hw' hc; have hc'_ := Ext.cell hw' hc'; go_simp <;> first | rfl | exact ⟨rfl, rfl⟩
    simp only [Act.put, List.setIfInBounds_toArray, List.set_cons_zero, List.set_cons_succ]
    refine' wpT_det (o := ⟨some 29, Op.call { callee := Callee.builtin Builtin.len, args := #[Operand.tmp 28], argTypes := #[23] }, 3, "l05_sparse.go:26", #[{ on := 19, ground := Ground.data }, { on := 17, ground := Ground.guard }], some (17, false)⟩) rfl (by rfl) (by rfl) (fun w' hw' => ?_) ?_; rotate_left
    · go_simp <;> first | rfl | exact ⟨rfl, rfl⟩
    simp only [Act.put, List.setIfInBounds_toArray, List.set_cons_zero, List.set_cons_succ]
    refine' wpT_det (o := ⟨some 30, Op.fieldAddr 27 (Operand.tmp 1) 2, 0, "l05_sparse.go:26", #[{ on := 17, ground := Ground.guard }], some (17, false)⟩) rfl (by rfl) (by rfl) (fun w' hw' => ?_) ?_; rotate_left
    · go_simp <;> first | rfl | exact ⟨rfl, rfl⟩
    simp only [Act.put, List.setIfInBounds_toArray, List.set_cons_zero, List.set_cons_succ]
    refine' wpT_det (o := ⟨some 31, Op.load 22 (Operand.tmp 30), 22, "l05_sparse.go:26", #[{ on := 21, ground := Ground.data }, { on := 17, ground := Ground.guard }], some (17, false)⟩) rfl (by rfl) (by rfl) (fun w' hw' => ?_) ?_; rotate_left
    · have a0_ := Ext.cell hw' a0; have a1_ := Ext.cell hw' a1; have a2_ := Ext.cell hw' a2; have a3_ := Ext.cell hw' a3; have hc_ := Ext.cell hw' hc; have hc'_ := Ext.cell hw' hc'; go_simp <;> first | rfl | exact ⟨rfl, rfl⟩
    simp only [Act.put, List.setIfInBounds_toArray, List.set_cons_zero, List.set_cons_succ]
    refine' wpT_det (o := ⟨some 32, Op.call { callee := Callee.builtin Builtin.len, args := #[Operand.tmp 31], argTypes := #[22] }, 3, "l05_sparse.go:26", #[{ on := 22, ground := Ground.data }, { on := 17, ground := Ground.guard }], some (17, false)⟩) rfl (by rfl) (by rfl) (fun w' hw' => ?_) ?_; rotate_left
    · go_simp <;> first | rfl | exact ⟨rfl, rfl⟩
    simp only [Act.put, List.setIfInBounds_toArray, List.set_cons_zero, List.set_cons_succ]
    refine' wpT_det (o := ⟨some 33, Op.binOp BinOp.neq 3 (Operand.tmp 29) (Operand.tmp 32) 3, 4, "l05_sparse.go:26", #[{ on := 20, ground := Ground.data }, { on := 23, ground := Ground.data }, { on := 17, ground := Ground.guard }], some (17, false)⟩) rfl (by rfl) (by rfl) (fun w' hw' => ?_) ?_; rotate_left
    · go_simp <;> first | rfl | exact ⟨rfl, rfl⟩
    simp only [Act.put, List.setIfInBounds_toArray, List.set_cons_zero, List.set_cons_succ]
    refine' wpT_det (o := ⟨some 34, Op.pick (Operand.tmp 26) (Operand.const (Value.bool true)) (Operand.tmp 33), 4, "l05_sparse.go:26", #[{ on := 17, ground := Ground.data }, { on := 24, ground := Ground.data }], none⟩) rfl (by rfl) (by rfl) (fun w' hw' => ?_) ?_; rotate_left
    · go_simp <;> first | rfl | exact ⟨rfl, rfl⟩
    simp only [Act.put, List.setIfInBounds_toArray, List.set_cons_zero, List.set_cons_succ]
    refine' wpT_det (o := ⟨some 35, Op.move (Operand.tmp 34), 4, "l05_sparse.go:26", #[{ on := 25, ground := Ground.data }, { on := 17, ground := Ground.chain }], none⟩) rfl (by rfl) (by rfl) (fun w' hw' => ?_) ?_; rotate_left
    · go_simp <;> first | rfl | exact ⟨rfl, rfl⟩
    simp only [Act.put, List.setIfInBounds_toArray, List.set_cons_zero, List.set_cons_succ]
    refine' wpT_det (o := ⟨some 36, Op.fieldAddr 27 (Operand.tmp 1) 1, 0, "l05_sparse.go:26", #[{ on := 26, ground := Ground.guard }], some (26, false)⟩) rfl (by rfl) (by rfl) (fun w' hw' => ?_) ?_; rotate_left
    · go_simp <;> first | rfl | exact ⟨rfl, rfl⟩
    simp only [Act.put, List.setIfInBounds_toArray, List.set_cons_zero, List.set_cons_succ]
    refine' wpT_det (o := ⟨some 37, Op.load 22 (Operand.tmp 36), 22, "l05_sparse.go:26", #[{ on := 27, ground := Ground.data }, { on := 26, ground := Ground.guard }], some (26, false)⟩) rfl (by rfl) (by rfl) (fun w' hw' => ?_) ?_; rotate_left
    · have a0_ := Ext.cell hw' a0; have a1_ := Ext.cell hw' a1; have a2_ := Ext.cell hw' a2; have a3_ := Ext.cell hw' a3; have hc_ := Ext.cell hw' hc; have hc'_ := Ext.cell hw' hc'; go_simp <;> first | rfl | exact ⟨rfl, rfl⟩
    simp only [Act.put, List.setIfInBounds_toArray, List.set_cons_zero, List.set_cons_succ]
    refine' wpT_det (o := ⟨some 38, Op.indexAddr 22 (Operand.tmp 37) (Operand.const (Value.int IntKind.i64 0)), 0, "l05_sparse.go:26", #[{ on := 28, ground := Ground.data }, { on := 26, ground := Ground.guard }], some (26, false)⟩) rfl (by rfl) (by rfl) (fun w' hw' => ?_) ?_; rotate_left
    · go_simp <;> first | rfl | exact ⟨rfl, rfl⟩
    simp only [Act.put, List.setIfInBounds_toArray, List.set_cons_zero, List.set_cons_succ]
    refine' wpT_det (o := ⟨some 39, Op.load 2 (Operand.tmp 38), 2, "l05_sparse.go:26", #[{ on := 29, ground := Ground.data }, { on := 26, ground := Ground.guard }], some (26, false)⟩) rfl (by rfl) (by rfl) (fun w' hw' => ?_) ?_; rotate_left
    · have a0_ := Ext.cell hw' a0; have a1_ := Ext.cell hw' a1; have a2_ := Ext.cell hw' a2; have a3_ := Ext.cell hw' a3; have hc_ := Ext.cell hw' hc; have hc'_ := Ext.cell hw' hc'; go_simp <;> first | rfl | exact ⟨rfl, rfl⟩
    simp only [Act.put, List.setIfInBounds_toArray, List.set_cons_zero, List.set_cons_succ]
    refine' wpT_det (o := ⟨some 40, Op.binOp BinOp.neq 2 (Operand.tmp 39) (Operand.const (Value.int IntKind.i64 0)) 2, 4, "l05_sparse.go:26", #[{ on := 30, ground := Ground.data }, { on := 26, ground := Ground.guard }], some (26, false)⟩) rfl (by rfl) (by rfl) (fun w' hw' => ?_) ?_; rotate_left
    · go_simp <;> first | rfl | exact ⟨rfl, rfl⟩
    simp only [Act.put, List.setIfInBounds_toArray, List.set_cons_zero, List.set_cons_succ]
    refine' wpT_det (o := ⟨some 41, Op.pick (Operand.tmp 35) (Operand.const (Value.bool true)) (Operand.tmp 40), 4, "l05_sparse.go:26", #[{ on := 26, ground := Ground.data }, { on := 31, ground := Ground.data }], none⟩) rfl (by rfl) (by rfl) (fun w' hw' => ?_) ?_; rotate_left
    · go_simp <;> first | rfl | exact ⟨rfl, rfl⟩
    simp only [Act.put, List.setIfInBounds_toArray, List.set_cons_zero, List.set_cons_succ]
    refine' wpT_det (o := ⟨some 42, Op.move (Operand.tmp 41), 4, "l05_sparse.go:26", #[{ on := 32, ground := Ground.data }, { on := 26, ground := Ground.chain }], none⟩) rfl (by rfl) (by rfl) (fun w' hw' => ?_) ?_; rotate_left
    · go_simp <;> first | rfl | exact ⟨rfl, rfl⟩
    simp only [Act.put, List.setIfInBounds_toArray, List.set_cons_zero, List.set_cons_succ]
    refine' wpT_det (o := ⟨some 43, Op.fieldAddr 27 (Operand.tmp 1) 1, 0, "l05_sparse.go:26", #[{ on := 33, ground := Ground.guard }], some (33, false)⟩) rfl (by rfl) (by rfl) (fun w' hw' => ?_) ?_; rotate_left
    · go_simp <;> first | rfl | exact ⟨rfl, rfl⟩
    simp only [Act.put, List.setIfInBounds_toArray, List.set_cons_zero, List.set_cons_succ]
    refine' wpT_det (o := ⟨some 44, Op.load 22 (Operand.tmp 43), 22, "l05_sparse.go:26", #[{ on := 34, ground := Ground.data }, { on := 33, ground := Ground.guard }], some (33, false)⟩) rfl (by rfl) (by rfl) (fun w' hw' => ?_) ?_; rotate_left
    · have a0_ := Ext.cell hw' a0; have a1_ := Ext.cell hw' a1; have a2_ := Ext.cell hw' a2; have a3_ := Ext.cell hw' a3; have hc_ := Ext.cell hw' hc; have hc'_ := Ext.cell hw' hc'; go_simp <;> first | rfl | exact ⟨rfl, rfl⟩
    simp only [Act.put, List.setIfInBounds_toArray, List.set_cons_zero, List.set_cons_succ]
    refine' wpT_det (o := ⟨some 45, Op.fieldAddr 27 (Operand.tmp 1) 0, 0, "l05_sparse.go:26", #[{ on := 33, ground := Ground.guard }], some (33, false)⟩) rfl (by rfl) (by rfl) (fun w' hw' => ?_) ?_; rotate_left
    · go_simp <;> first | rfl | exact ⟨rfl, rfl⟩
    simp only [Act.put, List.setIfInBounds_toArray, List.set_cons_zero, List.set_cons_succ]
    refine' wpT_det (o := ⟨some 46, Op.load 2 (Operand.tmp 45), 2, "l05_sparse.go:26", #[{ on := 36, ground := Ground.data }, { on := 33, ground := Ground.guard }], some (33, false)⟩) rfl (by rfl) (by rfl) (fun w' hw' => ?_) ?_; rotate_left
    · have a0_ := Ext.cell hw' a0; have a1_ := Ext.cell hw' a1; have a2_ := Ext.cell hw' a2; have a3_ := Ext.cell hw' a3; have hc_ := Ext.cell hw' hc; have hc'_ := Ext.cell hw' hc'; go_simp <;> first | rfl | exact ⟨rfl, rfl⟩
    simp only [Act.put, List.setIfInBounds_toArray, List.set_cons_zero, List.set_cons_succ]
    refine' wpT_det (o := ⟨some 47, Op.indexAddr 22 (Operand.tmp 44) (Operand.tmp 46), 0, "l05_sparse.go:26", #[{ on := 35, ground := Ground.data }, { on := 37, ground := Ground.data }, { on := 33, ground := Ground.guard }], some (33, false)⟩) rfl (by rfl) (by rfl) (fun w' hw' => ?_) ?_; rotate_left
    · go_simp <;> first | rfl | exact ⟨rfl, rfl⟩
    simp only [Act.put, List.setIfInBounds_toArray, List.set_cons_zero, List.set_cons_succ]
    refine' wpT_det (o := ⟨some 48, Op.load 2 (Operand.tmp 47), 2, "l05_sparse.go:26", #[{ on := 38, ground := Ground.data }, { on := 33, ground := Ground.guard }], some (33, false)⟩) rfl (by rfl) (by rfl) (fun w' hw' => ?_) ?_; rotate_left
    · have a0_ := Ext.cell hw' a0; have a1_ := Ext.cell hw' a1; have a2_ := Ext.cell hw' a2; have a3_ := Ext.cell hw' a3; have hc_ := Ext.cell hw' hc; have hc'_ := Ext.cell hw' hc'; go_simp <;> first | rfl | exact ⟨rfl, rfl⟩
    simp only [Act.put, List.setIfInBounds_toArray, List.set_cons_zero, List.set_cons_succ]
    refine' wpT_det (o := ⟨some 49, Op.move (Operand.tmp 3), 2, "l05_sparse.go:26", #[{ on := 33, ground := Ground.guard }], some (33, false)⟩) rfl (by rfl) (by rfl) (fun w' hw' => ?_) ?_; rotate_left
    · go_simp <;> first | rfl | exact ⟨rfl, rfl⟩
    simp only [Act.put, List.setIfInBounds_toArray, List.set_cons_zero, List.set_cons_succ]
    refine' wpT_det (o := ⟨some 50, Op.binOp BinOp.neq 2 (Operand.tmp 48) (Operand.tmp 49) 2, 4, "l05_sparse.go:26", #[{ on := 39, ground := Ground.data }, { on := 40, ground := Ground.data }, { on := 33, ground := Ground.guard }], some (33, false)⟩) rfl (by rfl) (by rfl) (fun w' hw' => ?_) ?_; rotate_left
    · go_simp <;> first | rfl | exact ⟨rfl, rfl⟩
    simp only [Act.put, List.setIfInBounds_toArray, List.set_cons_zero, List.set_cons_succ]
    refine' wpT_det (o := ⟨some 51, Op.pick (Operand.tmp 42) (Operand.const (Value.bool true)) (Operand.tmp 50), 4, "l05_sparse.go:26", #[{ on := 33, ground := Ground.data }, { on := 41, ground := Ground.data }], none⟩) rfl (by rfl) (by rfl) (fun w' hw' => ?_) ?_; rotate_left
    · go_simp <;> first | rfl | exact ⟨rfl, rfl⟩
    simp only [Act.put, List.setIfInBounds_toArray, List.set_cons_zero, List.set_cons_succ]
    refine wpT_nil (fun w' hw' hF => ?_)
    refine wpList_nil ?_
    replace hx0 := hx0.trans hw'.undrew
    replace ba := ba.ext hw'.undrew
    have A_ := hw'
    clear hF hw' hc hc' a0 a1 a2 a3
    have a0 := ba.cell 0 rfl
    have a1 := ba.cell 1 rfl
    have a2 := ba.cell 2 rfl
    have a3 := ba.cell 3 rfl
    clear A_
    go_wp2_with fail
    refine (isSorted_any _ n ca st _ (hr.below hx0)).mono ?_
    rintro e w2 ⟨rfl, hx⟩
    rw [h7]
    replace hx0 := hx0.trans hx
    replace ba := ba.ext hx
    clear hx a0 a1 a2 a3
    go_wp2_with fail
    go_ret
    exact ⟨ret_bool (by rw [Hres.out, hno]), hx0⟩
  | true =>
  cases h8 : (co.all fun x => inR 0 x (sd - 1)) with
  | false =>
    have hno : isSp sd st co va = false := isSp_not fun h => by have hc := allIn_of (h := h); rw [h8] at hc; cases hc
    go_enter Try.func38, Try.ntmps38
    go_upto_region 1 with (fail)
    obtain ⟨w0, hw0⟩ : ∃ w0, w0 = (w.alloc (.cells #[.int .i64 sd, .slice A n ca, .slice B m cb, .slice V p cv] 27)) := ⟨_, rfl⟩
    have hx0 : Ext w w0 := by subst hw0; exact (Ext.refl _).alloc _
    have ba : Blk w0 (w.heap.size) #[.int .i64 sd, .slice A n ca, .slice B m cb, .slice V p cv] 27 := by subst hw0; exact (Blk.new w _ _)
    rw [← hw0]
    clear hw0
    have a0 := ba.cell 0 rfl
    have a1 := ba.cell 1 rfl
    have a2 := ba.cell 2 rfl
    have a3 := ba.cell 3 rfl
    go_wp2_with fail
    refine (length_any B m cb hs2 _).mono ?_
    rintro e w1 ⟨rfl, rfl⟩
    go_upto_region 2 with (fail)
    have ec0 := (hr.below hx0).int 0 (by omega) (by omega)
    have ec1 := (hr.below hx0).int sd (by omega) (by omega)
    obtain ⟨ad, rfl, hc⟩ := ec0
    obtain ⟨ad', had, hc'⟩ := ec1
    obtain rfl := Option.some.inj had
    clear had
    replace hc : w0.cell? ad = some (.int .i64 (rd st 0)) := by rwa [show ad.add (0 : Int).toNat = ad by cases ad; simp [Addr.add]] at hc
    refine wp_region_T (cs := []) [0, 1, 2, 3, 4, 5, 6, 7, 8, 9, 10, 11, 12, 13, 14, 15, 16, 17, 18, 19, 20, 21, 22, 23, 24, 25, 26, 27, 28, 29, 30, 31, 32, 33, 34, 35, 36, 37, 38, 39, 40, 41, 42] [] [2, 7] [] (fun i__ v => match i__ with | 2 => v = (.bool true) | 7 => v = (.int .i64 n) | _ => False) (fun _ _ _ => True) (by kernel_rfl) (by kernel_rfl) (fun _ _ _ _ _ _ => trivial) ?_
    refine' wpT_det (o := ⟨some 9, Op.fieldAddr 27 (Operand.tmp 1) 0, 0, "l05_sparse.go:26", #[], none⟩) rfl (by rfl) (by rfl) (fun w' hw' => ?_) ?_; rotate_left
    · go_simp <;> first | rfl | exact ⟨rfl, rfl⟩
    simp only [Act.put, List.setIfInBounds_toArray, List.set_cons_zero, List.set_cons_succ]
    refine' wpT_det (o := ⟨some 10, Op.load 2 (Operand.tmp 9), 2, "l05_sparse.go:26", #[{ on := 0, ground := Ground.data }], none⟩) rfl (by rfl) (by rfl) (fun w' hw' => ?_) ?_; rotate_left
    · have a0_ := Ext.cell hw' a0; have a1_ := Ext.cell hw' a1; have a2_ := Ext.cell hw' a2; have a3_ := Ext.cell hw' a3; have hc_ := Ext.cell hw' hc; have hc'_ := Ext.cell hw' hc'; go_simp <;> first | rfl | exact ⟨rfl, rfl⟩
    simp only [Act.put, List.setIfInBounds_toArray, List.set_cons_zero, List.set_cons_succ]
    refine wpT_nd (o := ⟨some 11, Op.call { callee := Callee.value (Operand.func 107), args := #[Operand.tmp 10, Operand.const (Value.int IntKind.i64 1), Operand.const (Value.int IntKind.i64 32)], argTypes := #[2, 2, 2] }, 4, "l05_sparse.go:26", #[{ on := 1, ground := Ground.data }], none⟩) rfl (by rfl) (by rfl) (fun w' hw' hF R__ hGo => ?_) ⟨_, rfl⟩ ?_
    · go_simp
      refine gives_enter rfl ?_
      refine (inRange_any _ _ _ _).mono ?_
      rintro e w2 ⟨rfl, rfl⟩
      exact ⟨_, rfl, hGo _ _ (Ext.refl _) (congrArg Value.bool h1) trivial⟩
    intro v hv
    obtain rfl : v = (.bool true) := hv
    simp only [Act.put, List.setIfInBounds_toArray, List.set_cons_zero, List.set_cons_succ]
    refine' wpT_det (o := ⟨some 12, Op.unOp UnOp.not 4 (Operand.tmp 11), 4, "l05_sparse.go:26", #[{ on := 2, ground := Ground.data }], none⟩) rfl (by rfl) (by rfl) (fun w' hw' => ?_) ?_; rotate_left
    · go_simp <;> first | rfl | exact ⟨rfl, rfl⟩
    simp only [Act.put, List.setIfInBounds_toArray, List.set_cons_zero, List.set_cons_succ]
    refine' wpT_det (o := ⟨some 13, Op.move (Operand.tmp 12), 4, "l05_sparse.go:26", #[{ on := 3, ground := Ground.data }, { on := 2, ground := Ground.chain }], none⟩) rfl (by rfl) (by rfl) (fun w' hw' => ?_) ?_; rotate_left
    · go_simp <;> first | rfl | exact ⟨rfl, rfl⟩
    simp only [Act.put, List.setIfInBounds_toArray, List.set_cons_zero, List.set_cons_succ]
    refine' wpT_det (o := ⟨some 14, Op.fieldAddr 27 (Operand.tmp 1) 1, 0, "l05_sparse.go:26", #[{ on := 4, ground := Ground.guard }], some (4, false)⟩) rfl (by rfl) (by rfl) (fun w' hw' => ?_) ?_; rotate_left
    · go_simp <;> first | rfl | exact ⟨rfl, rfl⟩
    simp only [Act.put, List.setIfInBounds_toArray, List.set_cons_zero, List.set_cons_succ]
    refine' wpT_det (o := ⟨some 15, Op.load 22 (Operand.tmp 14), 22, "l05_sparse.go:26", #[{ on := 5, ground := Ground.data }, { on := 4, ground := Ground.guard }], some (4, false)⟩) rfl (by rfl) (by rfl) (fun w' hw' => ?_) ?_; rotate_left
    · have a0_ := Ext.cell hw' a0; have a1_ := Ext.cell hw' a1; have a2_ := Ext.cell hw' a2; have a3_ := Ext.cell hw' a3; have hc_ := Ext.cell hw' hc; have hc'_ := Ext.cell hw' hc'; go_simp <;> first | rfl | exact ⟨rfl, rfl⟩
    simp only [Act.put, List.setIfInBounds_toArray, List.set_cons_zero, List.set_cons_succ]
    refine wpT_nd (o := ⟨some 16, Op.call { callee := Callee.value (Operand.func 87), args := #[Operand.tmp 15], argTypes := #[22] }, 2, "l05_sparse.go:26", #[{ on := 6, ground := Ground.data }, { on := 4, ground := Ground.chain }, { on := 4, ground := Ground.guard }], some (4, false)⟩) rfl (by rfl) (by rfl) (fun w' hw' hF R__ hGo => ?_) ⟨_, rfl⟩ ?_
    · go_simp
      refine gives_enter rfl ?_
      refine (length_any _ _ _ hs _).mono ?_
      rintro e w2 ⟨rfl, rfl⟩
      exact ⟨_, rfl, hGo _ _ (Ext.refl _) rfl trivial⟩
    intro v hv
    obtain rfl : v = (.int .i64 n) := hv
    simp only [Act.put, List.setIfInBounds_toArray, List.set_cons_zero, List.set_cons_succ]
    refine' wpT_det (o := ⟨some 17, Op.fieldAddr 27 (Operand.tmp 1) 0, 0, "l05_sparse.go:26", #[{ on := 4, ground := Ground.guard }], some (4, false)⟩) rfl (by rfl) (by rfl) (fun w' hw' => ?_) ?_; rotate_left
    · go_simp <;> first | rfl | exact ⟨rfl, rfl⟩
    simp only [Act.put, List.setIfInBounds_toArray, List.set_cons_zero, List.set_cons_succ]
    refine' wpT_det (o := ⟨some 18, Op.load 2 (Operand.tmp 17), 2, "l05_sparse.go:26", #[{ on := 8, ground := Ground.data }, { on := 4, ground := Ground.guard }], some (4, false)⟩) rfl (by rfl) (by rfl) (fun w' hw' => ?_) ?_; rotate_left
    · have a0_ := Ext.cell hw' a0; have a1_ := Ext.cell hw' a1; have a2_ := Ext.cell hw' a2; have a3_ := Ext.cell hw' a3; have hc_ := Ext.cell hw' hc; have hc'_ := Ext.cell hw' hc'; go_simp <;> first | rfl | exact ⟨rfl, rfl⟩
    simp only [Act.put, List.setIfInBounds_toArray, List.set_cons_zero, List.set_cons_succ]
    refine' wpT_det (o := ⟨some 19, Op.binOp BinOp.add 2 (Operand.tmp 18) (Operand.const (Value.int IntKind.i64 1)) 2, 2, "l05_sparse.go:26", #[{ on := 9, ground := Ground.data }, { on := 4, ground := Ground.guard }], some (4, false)⟩) rfl (by rfl) (by rfl) (fun w' hw' => ?_) ?_; rotate_left
    · go_simp <;> first | rfl | exact ⟨rfl, rfl⟩
    simp only [Act.put, List.setIfInBounds_toArray, List.set_cons_zero, List.set_cons_succ]
    refine' wpT_det (o := ⟨some 20, Op.binOp BinOp.neq 2 (Operand.tmp 16) (Operand.tmp 19) 2, 4, "l05_sparse.go:26", #[{ on := 7, ground := Ground.data }, { on := 10, ground := Ground.data }, { on := 4, ground := Ground.guard }], some (4, false)⟩) rfl (by rfl) (by rfl) (fun w' hw' => ?_) ?_; rotate_left
    · go_simp <;> first | rfl | exact ⟨rfl, rfl⟩
    simp only [Act.put, List.setIfInBounds_toArray, List.set_cons_zero, List.set_cons_succ]
    refine' wpT_det (o := ⟨some 21, Op.pick (Operand.tmp 13) (Operand.const (Value.bool true)) (Operand.tmp 20), 4, "l05_sparse.go:26", #[{ on := 4, ground := Ground.data }, { on := 11, ground := Ground.data }], none⟩) rfl (by rfl) (by rfl) (fun w' hw' => ?_) ?_; rotate_left
    · go_simp <;> first | rfl | exact ⟨rfl, rfl⟩
    simp only [Act.put, List.setIfInBounds_toArray, List.set_cons_zero, List.set_cons_succ]
    refine' wpT_det (o := ⟨some 22, Op.move (Operand.tmp 21), 4, "l05_sparse.go:26", #[{ on := 12, ground := Ground.data }, { on := 7, ground := Ground.chain }], none⟩) rfl (by rfl) (by rfl) (fun w' hw' => ?_) ?_; rotate_left
    · go_simp <;> first | rfl | exact ⟨rfl, rfl⟩
    simp only [Act.put, List.setIfInBounds_toArray, List.set_cons_zero, List.set_cons_succ]
    refine' wpT_det (o := ⟨some 23, Op.move (Operand.tmp 3), 2, "l05_sparse.go:26", #[{ on := 13, ground := Ground.guard }], some (13, false)⟩) rfl (by rfl) (by rfl) (fun w' hw' => ?_) ?_; rotate_left
    · go_simp <;> first | rfl | exact ⟨rfl, rfl⟩
    simp only [Act.put, List.setIfInBounds_toArray, List.set_cons_zero, List.set_cons_succ]
    refine' wpT_det (o := ⟨some 24, Op.binOp BinOp.gtr 2 (Operand.tmp 23) (Operand.const (Value.int IntKind.i64 512)) 2, 4, "l05_sparse.go:26", #[{ on := 14, ground := Ground.data }, { on := 13, ground := Ground.guard }], some (13, false)⟩) rfl (by rfl) (by rfl) (fun w' hw' => ?_) ?_; rotate_left
    · go_simp <;> first | rfl | exact ⟨rfl, rfl⟩
    simp only [Act.put, List.setIfInBounds_toArray, List.set_cons_zero, List.set_cons_succ]
    refine' wpT_det (o := ⟨some 25, Op.pick (Operand.tmp 22) (Operand.const (Value.bool true)) (Operand.tmp 24), 4, "l05_sparse.go:26", #[{ on := 13, ground := Ground.data }, { on := 15, ground := Ground.data }], none⟩) rfl (by rfl) (by rfl) (fun w' hw' => ?_) ?_; rotate_left
    · go_simp <;> first | rfl | exact ⟨rfl, rfl⟩
    simp only [Act.put, List.setIfInBounds_toArray, List.set_cons_zero, List.set_cons_succ]
    refine' wpT_det (o := ⟨some 26, Op.move (Operand.tmp 25), 4, "l05_sparse.go:26", #[{ on := 16, ground := Ground.data }, { on := 13, ground := Ground.chain }], none⟩) rfl (by rfl) (by rfl) (fun w' hw' => ?_) ?_; rotate_left
    · go_simp <;> first | rfl | exact ⟨rfl, rfl⟩
    simp only [Act.put, List.setIfInBounds_toArray, List.set_cons_zero, List.set_cons_succ]
    refine' wpT_det (o := ⟨some 27, Op.fieldAddr 27 (Operand.tmp 1) 3, 0, "l05_sparse.go:26", #[{ on := 17, ground := Ground.guard }], some (17, false)⟩) rfl (by rfl) (by rfl) (fun w' hw' => ?_) ?_; rotate_left
    · go_simp <;> first | rfl | exact ⟨rfl, rfl⟩
    simp only [Act.put, List.setIfInBounds_toArray, List.set_cons_zero, List.set_cons_succ]
    refine' wpT_det (o := ⟨some 28, Op.load 23 (Operand.tmp 27), 23, "l05_sparse.go:26", #[{ on := 18, ground := Ground.data }, { on := 17, ground := Ground.guard }], some (17, false)⟩) rfl (by rfl) (by rfl) (fun w' hw' => ?_) ?_; rotate_left
    · have a0_ := Ext.cell hw' a0; have a1_ := Ext.cell hw' a1; have a2_ := Ext.cell hw' a2; have a3_ := Ext.cell hw' a3; have hc_ := Ext.cell hw' hc; have hc'_ := Ext.cell hw' hc'; go_simp <;> first | rfl | exact ⟨rfl, rfl⟩
    simp only [Act.put, List.setIfInBounds_toArray, List.set_cons_zero, List.set_cons_succ]
    refine' wpT_det (o := ⟨some 29, Op.call { callee := Callee.builtin Builtin.len, args := #[Operand.tmp 28], argTypes := #[23] }, 3, "l05_sparse.go:26", #[{ on := 19, ground := Ground.data }, { on := 17, ground := Ground.guard }], some (17, false)⟩) rfl (by rfl) (by rfl) (fun w' hw' => ?_) ?_; rotate_left
    · go_simp <;> first | rfl | exact ⟨rfl, rfl⟩
    simp only [Act.put, List.setIfInBounds_toArray, List.set_cons_zero, List.set_cons_succ]
    refine' wpT_det (o := ⟨some 30, Op.fieldAddr 27 (Operand.tmp 1) 2, 0, "l05_sparse.go:26", #[{ on := 17, ground := Ground.guard }], some (17, false)⟩) rfl (by rfl) (by rfl) (fun w' hw' => ?_) ?_; rotate_left
    · go_simp <;> first | rfl | exact ⟨rfl, rfl⟩
    simp only [Act.put, List.setIfInBounds_toArray, List.set_cons_zero, List.set_cons_succ]
    refine' wpT_det (o := ⟨some 31, Op.load 22 (Operand.tmp 30), 22, "l05_sparse.go:26", #[{ on := 21, ground := Ground.data }, { on := 17, ground := Ground.guard }], some (17, false)⟩) rfl (by rfl) (by rfl) (fun w' hw' => ?_) ?_; rotate_left
    · have a0_ := Ext.cell hw' a0; have a1_ := Ext.cell hw' a1; have a2_ := Ext.cell hw' a2; have a3_ := Ext.cell hw' a3; have hc_ := Ext.cell hw' hc; have hc'_ := Ext.cell hw' hc'; go_simp <;> first | rfl | exact ⟨rfl, rfl⟩
    simp only [Act.put, List.setIfInBounds_toArray, List.set_cons_zero, List.set_cons_succ]
    refine' wpT_det (o := ⟨some 32, Op.call { callee := Callee.builtin Builtin.len, args := #[Operand.tmp 31], argTypes := #[22] }, 3, "l05_sparse.go:26", #[{ on := 22, ground := Ground.data }, { on := 17, ground := Ground.guard }], some (17, false)⟩) rfl (by rfl) (by rfl) (fun w' hw' => ?_) ?_; rotate_left
    · go_simp <;> first | rfl | exact ⟨rfl, rfl⟩
    simp only [Act.put, List.setIfInBounds_toArray, List.set_cons_zero, List.set_cons_succ]
    refine' wpT_det (o := ⟨some 33, Op.binOp BinOp.neq 3 (Operand.tmp 29) (Operand.tmp 32) 3, 4, "l05_sparse.go:26", #[{ on := 20, ground := Ground.data }, { on := 23, ground := Ground.data }, { on := 17, ground := Ground.guard }], some (17, false)⟩) rfl (by rfl) (by rfl) (fun w' hw' => ?_) ?_; rotate_left
    · go_simp <;> first | rfl | exact ⟨rfl, rfl⟩
    simp only [Act.put, List.setIfInBounds_toArray, List.set_cons_zero, List.set_cons_succ]
    refine' wpT_det (o := ⟨some 34, Op.pick (Operand.tmp 26) (Operand.const (Value.bool true)) (Operand.tmp 33), 4, "l05_sparse.go:26", #[{ on := 17, ground := Ground.data }, { on := 24, ground := Ground.data }], none⟩) rfl (by rfl) (by rfl) (fun w' hw' => ?_) ?_; rotate_left
    · go_simp <;> first | rfl | exact ⟨rfl, rfl⟩
    simp only [Act.put, List.setIfInBounds_toArray, List.set_cons_zero, List.set_cons_succ]
    refine' wpT_det (o := ⟨some 35, Op.move (Operand.tmp 34), 4, "l05_sparse.go:26", #[{ on := 25, ground := Ground.data }, { on := 17, ground := Ground.chain }], none⟩) rfl (by rfl) (by rfl) (fun w' hw' => ?_) ?_; rotate_left
    · go_simp <;> first | rfl | exact ⟨rfl, rfl⟩
    simp only [Act.put, List.setIfInBounds_toArray, List.set_cons_zero, List.set_cons_succ]
    refine' wpT_det (o := ⟨some 36, Op.fieldAddr 27 (Operand.tmp 1) 1, 0, "l05_sparse.go:26", #[{ on := 26, ground := Ground.guard }], some (26, false)⟩) rfl (by rfl) (by rfl) (fun w' hw' => ?_) ?_; rotate_left
    · go_simp <;> first | rfl | exact ⟨rfl, rfl⟩
    simp only [Act.put, List.setIfInBounds_toArray, List.set_cons_zero, List.set_cons_succ]
    refine' wpT_det (o := ⟨some 37, Op.load 22 (Operand.tmp 36), 22, "l05_sparse.go:26", #[{ on := 27, ground := Ground.data }, { on := 26, ground := Ground.guard }], some (26, false)⟩) rfl (by rfl) (by rfl) (fun w' hw' => ?_) ?_; rotate_left
    · have a0_ := Ext.cell hw' a0; have a1_ := Ext.cell hw' a1; have a2_ := Ext.cell hw' a2; have a3_ := Ext.cell hw' a3; have hc_ := Ext.cell hw' hc; have hc'_ := Ext.cell hw' hc'; go_simp <;> first | rfl | exact ⟨rfl, rfl⟩
    simp only [Act.put, List.setIfInBounds_toArray, List.set_cons_zero, List.set_cons_succ]
    refine' wpT_det (o := ⟨some 38, Op.indexAddr 22 (Operand.tmp 37) (Operand.const (Value.int IntKind.i64 0)), 0, "l05_sparse.go:26", #[{ on := 28, ground := Ground.data }, { on := 26, ground := Ground.guard }], some (26, false)⟩) rfl (by rfl) (by rfl) (fun w' hw' => ?_) ?_; rotate_left
    · go_simp <;> first | rfl | exact ⟨rfl, rfl⟩
    simp only [Act.put, List.setIfInBounds_toArray, List.set_cons_zero, List.set_cons_succ]
    refine' wpT_det (o := ⟨some 39, Op.load 2 (Operand.tmp 38), 2, "l05_sparse.go:26", #[{ on := 29, ground := Ground.data }, { on := 26, ground := Ground.guard }], some (26, false)⟩) rfl (by rfl) (by rfl) (fun w' hw' => ?_) ?_; rotate_left
    · have a0_ := Ext.cell hw' a0; have a1_ := Ext.cell hw' a1; have a2_ := Ext.cell hw' a2; have a3_ := Ext.cell hw' a3; have hc_ := Ext.cell hw' hc; have hc'_ := Ext.cell hw' hc'; go_simp <;> first | rfl | exact ⟨rfl, rfl⟩
    simp only [Act.put, List.setIfInBounds_toArray, List.set_cons_zero, List.set_cons_succ]
    refine' wpT_det (o := ⟨some 40, Op.binOp BinOp.neq 2 (Operand.tmp 39) (Operand.const (Value.int IntKind.i64 0)) 2, 4, "l05_sparse.go:26", #[{ on := 30, ground := Ground.data }, { on := 26, ground := Ground.guard }], some (26, false)⟩) rfl (by rfl) (by rfl) (fun w' hw' => ?_) ?_; rotate_left
    · go_simp <;> first | rfl | exact ⟨rfl, rfl⟩
    simp only [Act.put, List.setIfInBounds_toArray, List.set_cons_zero, List.set_cons_succ]
    refine' wpT_det (o := ⟨some 41, Op.pick (Operand.tmp 35) (Operand.const (Value.bool true)) (Operand.tmp 40), 4, "l05_sparse.go:26", #[{ on := 26, ground := Ground.data }, { on := 31, ground := Ground.data }], none⟩) rfl (by rfl) (by rfl) (fun w' hw' => ?_) ?_; rotate_left
    · go_simp <;> first | rfl | exact ⟨rfl, rfl⟩
    simp only [Act.put, List.setIfInBounds_toArray, List.set_cons_zero, List.set_cons_succ]
    refine' wpT_det (o := ⟨some 42, Op.move (Operand.tmp 41), 4, "l05_sparse.go:26", #[{ on := 32, ground := Ground.data }, { on := 26, ground := Ground.chain }], none⟩) rfl (by rfl) (by rfl) (fun w' hw' => ?_) ?_; rotate_left
    · go_simp <;> first | rfl | exact ⟨rfl, rfl⟩
    simp only [Act.put, List.setIfInBounds_toArray, List.set_cons_zero, List.set_cons_succ]
    refine' wpT_det (o := ⟨some 43, Op.fieldAddr 27 (Operand.tmp 1) 1, 0, "l05_sparse.go:26", #[{ on := 33, ground := Ground.guard }], some (33, false)⟩) rfl (by rfl) (by rfl) (fun w' hw' => ?_) ?_; rotate_left
    · go_simp <;> first | rfl | exact ⟨rfl, rfl⟩
    simp only [Act.put, List.setIfInBounds_toArray, List.set_cons_zero, List.set_cons_succ]
    refine' wpT_det (o := ⟨some 44, Op.load 22 (Operand.tmp 43), 22, "l05_sparse.go:26", #[{ on := 34, ground := Ground.data }, { on := 33, ground := Ground.guard }], some (33, false)⟩) rfl (by rfl) (by rfl) (fun w' hw' => ?_) ?_; rotate_left
    · have a0_ := Ext.cell hw' a0; have a1_ := Ext.cell hw' a1; have a2_ := Ext.cell hw' a2; have a3_ := Ext.cell hw' a3; have hc_ := Ext.cell hw' hc; have hc'_ := Ext.cell hw' hc'; go_simp <;> first | rfl | exact ⟨rfl, rfl⟩
    simp only [Act.put, List.setIfInBounds_toArray, List.set_cons_zero, List.set_cons_succ]
    refine' wpT_det (o := ⟨some 45, Op.fieldAddr 27 (Operand.tmp 1) 0, 0, "l05_sparse.go:26", #[{ on := 33, ground := Ground.guard }], some (33, false)⟩) rfl (by rfl) (by rfl) (fun w' hw' => ?_) ?_; rotate_left
    · go_simp <;> first | rfl | exact ⟨rfl, rfl⟩
    simp only [Act.put, List.setIfInBounds_toArray, List.set_cons_zero, List.set_cons_succ]
    refine' wpT_det (o := ⟨some 46, Op.load 2 (Operand.tmp 45), 2, "l05_sparse.go:26", #[{ on := 36, ground := Ground.data }, { on := 33, ground := Ground.guard }], some (33, false)⟩) rfl (by rfl) (by rfl) (fun w' hw' => ?_) ?_; rotate_left
    · have a0_ := Ext.cell hw' a0; have a1_ := Ext.cell hw' a1; have a2_ := Ext.cell hw' a2; have a3_ := Ext.cell hw' a3; have hc_ := Ext.cell hw' hc; have hc'_ := Ext.cell hw' hc'; go_simp <;> first | rfl | exact ⟨rfl, rfl⟩
    simp only [Act.put, List.setIfInBounds_toArray, List.set_cons_zero, List.set_cons_succ]
    refine' wpT_det (o := ⟨some 47, Op.indexAddr 22 (Operand.tmp 44) (Operand.tmp 46), 0, "l05_sparse.go:26", #[{ on := 35, ground := Ground.data }, { on := 37, ground := Ground.data }, { on := 33, ground := Ground.guard }], some (33, false)⟩) rfl (by rfl) (by rfl) (fun w' hw' => ?_) ?_; rotate_left
    · go_simp <;> first | rfl | exact ⟨rfl, rfl⟩
    simp only [Act.put, List.setIfInBounds_toArray, List.set_cons_zero, List.set_cons_succ]
    refine' wpT_det (o := ⟨some 48, Op.load 2 (Operand.tmp 47), 2, "l05_sparse.go:26", #[{ on := 38, ground := Ground.data }, { on := 33, ground := Ground.guard }], some (33, false)⟩) rfl (by rfl) (by rfl) (fun w' hw' => ?_) ?_; rotate_left
    · have a0_ := Ext.cell hw' a0; have a1_ := Ext.cell hw' a1; have a2_ := Ext.cell hw' a2; have a3_ := Ext.cell hw' a3; have hc_ := Ext.cell hw' hc; have hc'_ := Ext.cell hw' hc'; go_simp <;> first | rfl | exact ⟨rfl, rfl⟩
    simp only [Act.put, List.setIfInBounds_toArray, List.set_cons_zero, List.set_cons_succ]
    refine' wpT_det (o := ⟨some 49, Op.move (Operand.tmp 3), 2, "l05_sparse.go:26", #[{ on := 33, ground := Ground.guard }], some (33, false)⟩) rfl (by rfl) (by rfl) (fun w' hw' => ?_) ?_; rotate_left
    · go_simp <;> first | rfl | exact ⟨rfl, rfl⟩
    simp only [Act.put, List.setIfInBounds_toArray, List.set_cons_zero, List.set_cons_succ]
    refine' wpT_det (o := ⟨some 50, Op.binOp BinOp.neq 2 (Operand.tmp 48) (Operand.tmp 49) 2, 4, "l05_sparse.go:26", #[{ on := 39, ground := Ground.data }, { on := 40, ground := Ground.data }, { on := 33, ground := Ground.guard }], some (33, false)⟩) rfl (by rfl) (by rfl) (fun w' hw' => ?_) ?_; rotate_left
    · go_simp <;> first | rfl | exact ⟨rfl, rfl⟩
    simp only [Act.put, List.setIfInBounds_toArray, List.set_cons_zero, List.set_cons_succ]
    refine' wpT_det (o := ⟨some 51, Op.pick (Operand.tmp 42) (Operand.const (Value.bool true)) (Operand.tmp 50), 4, "l05_sparse.go:26", #[{ on := 33, ground := Ground.data }, { on := 41, ground := Ground.data }], none⟩) rfl (by rfl) (by rfl) (fun w' hw' => ?_) ?_; rotate_left
    · go_simp <;> first | rfl | exact ⟨rfl, rfl⟩
    simp only [Act.put, List.setIfInBounds_toArray, List.set_cons_zero, List.set_cons_succ]
    refine wpT_nil (fun w' hw' hF => ?_)
    refine wpList_nil ?_
    replace hx0 := hx0.trans hw'.undrew
    replace ba := ba.ext hw'.undrew
    have A_ := hw'
    clear hF hw' hc hc' a0 a1 a2 a3
    have a0 := ba.cell 0 rfl
    have a1 := ba.cell 1 rfl
    have a2 := ba.cell 2 rfl
    have a3 := ba.cell 3 rfl
    clear A_
    go_wp2_with fail
    refine (isSorted_any _ n ca st _ (hr.below hx0)).mono ?_
    rintro e w2 ⟨rfl, hx⟩
    rw [h7]
    replace hx0 := hx0.trans hx
    replace ba := ba.ext hx
    clear hx a0 a1 a2 a3
    have a0 := ba.cell 0 rfl
    have a2 := ba.cell 2 rfl
    go_wp2_with fail
    refine (allIn_any B m cb co 0 (sd - 1) _ (hq.below hx0)).mono ?_
    rintro e w3 ⟨rfl, hx⟩
    rw [h8]
    replace hx0 := hx0.trans hx
    replace ba := ba.ext hx
    clear hx a0 a2
    go_wp2_with fail
    go_ret
    exact ⟨ret_bool (by rw [Hres.out, hno]), hx0⟩
  | true =>
  cases h9 : finL va with
  | false =>
    have hno : isSp sd st co va = false := isSp_not fun h => by have hc := h.s5; rw [h9] at hc; cases hc
    go_enter Try.func38, Try.ntmps38
    go_upto_region 1 with (fail)
    obtain ⟨w0, hw0⟩ : ∃ w0, w0 = (w.alloc (.cells #[.int .i64 sd, .slice A n ca, .slice B m cb, .slice V p cv] 27)) := ⟨_, rfl⟩
    have hx0 : Ext w w0 := by subst hw0; exact (Ext.refl _).alloc _
    have ba : Blk w0 (w.heap.size) #[.int .i64 sd, .slice A n ca, .slice B m cb, .slice V p cv] 27 := by subst hw0; exact (Blk.new w _ _)
    rw [← hw0]
    clear hw0
    have a0 := ba.cell 0 rfl
    have a1 := ba.cell 1 rfl
    have a2 := ba.cell 2 rfl
    have a3 := ba.cell 3 rfl
    go_wp2_with fail
    refine (length_any B m cb hs2 _).mono ?_
    rintro e w1 ⟨rfl, rfl⟩
    go_upto_region 2 with (fail)
    have ec0 := (hr.below hx0).int 0 (by omega) (by omega)
    have ec1 := (hr.below hx0).int sd (by omega) (by omega)
    obtain ⟨ad, rfl, hc⟩ := ec0
    obtain ⟨ad', had, hc'⟩ := ec1
    obtain rfl := Option.some.inj had
    clear had
    replace hc : w0.cell? ad = some (.int .i64 (rd st 0)) := by rwa [show ad.add (0 : Int).toNat = ad by cases ad; simp [Addr.add]] at hc
    refine wp_region_T (cs := []) [0, 1, 2, 3, 4, 5, 6, 7, 8, 9, 10, 11, 12, 13, 14, 15, 16, 17, 18, 19, 20, 21, 22, 23, 24, 25, 26, 27, 28, 29, 30, 31, 32, 33, 34, 35, 36, 37, 38, 39, 40, 41, 42] [] [2, 7] [] (fun i__ v => match i__ with | 2 => v = (.bool true) | 7 => v = (.int .i64 n) | _ => False) (fun _ _ _ => True) (by kernel_rfl) (by kernel_rfl) (fun _ _ _ _ _ _ => trivial) ?_
    refine' wpT_det (o := ⟨some 9, Op.fieldAddr 27 (Operand.tmp 1) 0, 0, "l05_sparse.go:26", #[], none⟩) rfl (by rfl) (by rfl) (fun w' hw' => ?_) ?_; rotate_left
    · go_simp <;> first | rfl | exact ⟨rfl, rfl⟩
    simp only [Act.put, List.setIfInBounds_toArray, List.set_cons_zero, List.set_cons_succ]
    refine' wpT_det (o := ⟨some 10, Op.load 2 (Operand.tmp 9), 2, "l05_sparse.go:26", #[{ on := 0, ground := Ground.data }], none⟩) rfl (by rfl) (by rfl) (fun w' hw' => ?_) ?_; rotate_left
    · have a0_ := Ext.cell hw' a0; have a1_ := Ext.cell hw' a1; have a2_ := Ext.cell hw' a2; have a3_ := Ext.cell hw' a3; have hc_ := Ext.cell hw' hc; have hc'_ := Ext.cell hw' hc'; go_simp <;> first | rfl | exact ⟨rfl, rfl⟩
    simp only [Act.put, List.setIfInBounds_toArray, List.set_cons_zero, List.set_cons_succ]
    refine wpT_nd (o := ⟨some 11, Op.call { callee := Callee.value (Operand.func 107), args := #[Operand.tmp 10, Operand.const (Value.int IntKind.i64 1), Operand.const (Value.int IntKind.i64 32)], argTypes := #[2, 2, 2] }, 4, "l05_sparse.go:26", #[{ on := 1, ground := Ground.data }], none⟩) rfl (by rfl) (by rfl) (fun w' hw' hF R__ hGo => ?_) ⟨_, rfl⟩ ?_
    · go_simp
      refine gives_enter rfl ?_
      refine (inRange_any _ _ _ _).mono ?_
      rintro e w2 ⟨rfl, rfl⟩
      exact ⟨_, rfl, hGo _ _ (Ext.refl _) (congrArg Value.bool h1) trivial⟩
    intro v hv
    obtain rfl : v = (.bool true) := hv
    simp only [Act.put, List.setIfInBounds_toArray, List.set_cons_zero, List.set_cons_succ]
    refine' wpT_det (o := ⟨some 12, Op.unOp UnOp.not 4 (Operand.tmp 11), 4, "l05_sparse.go:26", #[{ on := 2, ground := Ground.data }], none⟩) rfl (by rfl) (by rfl) (fun w' hw' => ?_) ?_; rotate_left
    · go_simp <;> first | rfl | exact ⟨rfl, rfl⟩
    simp only [Act.put, List.setIfInBounds_toArray, List.set_cons_zero, List.set_cons_succ]
    refine' wpT_det (o := ⟨some 13, Op.move (Operand.tmp 12), 4, "l05_sparse.go:26", #[{ on := 3, ground := Ground.data }, { on := 2, ground := Ground.chain }], none⟩) rfl (by rfl) (by rfl) (fun w' hw' => ?_) ?_; rotate_left
    · go_simp <;> first | rfl | exact ⟨rfl, rfl⟩
    simp only [Act.put, List.setIfInBounds_toArray, List.set_cons_zero, List.set_cons_succ]
    refine' wpT_det (o := ⟨some 14, Op.fieldAddr 27 (Operand.tmp 1) 1, 0, "l05_sparse.go:26", #[{ on := 4, ground := Ground.guard }], some (4, false)⟩) rfl (by rfl) (by rfl) (fun w' hw' => ?_) ?_; rotate_left
    · go_simp <;> first | rfl | exact ⟨rfl, rfl⟩
    simp only [Act.put, List.setIfInBounds_toArray, List.set_cons_zero, List.set_cons_succ]
    refine' wpT_det (o := ⟨some 15, Op.load 22 (Operand.tmp 14), 22, "l05_sparse.go:26", #[{ on := 5, ground := Ground.data }, { on := 4, ground := Ground.guard }], some (4, false)⟩) rfl (by rfl) (by rfl) (fun w' hw' => ?_) ?_; rotate_left
    · have a0_ := Ext.cell hw' a0; have a1_ := Ext.cell hw' a1; have a2_ := Ext.cell hw' a2; have a3_ := Ext.cell hw' a3; have hc_ := Ext.cell hw' hc; have hc'_ := Ext.cell hw' hc'; go_simp <;> first | rfl | exact ⟨rfl, rfl⟩
    simp only [Act.put, List.setIfInBounds_toArray, List.set_cons_zero, List.set_cons_succ]
    refine wpT_nd (o := ⟨some 16, Op.call { callee := Callee.value (Operand.func 87), args := #[Operand.tmp 15], argTypes := #[22] }, 2, "l05_sparse.go:26", #[{ on := 6, ground := Ground.data }, { on := 4, ground := Ground.chain }, { on := 4, ground := Ground.guard }], some (4, false)⟩) rfl (by rfl) (by rfl) (fun w' hw' hF R__ hGo => ?_) ⟨_, rfl⟩ ?_
    · go_simp
      refine gives_enter rfl ?_
      refine (length_any _ _ _ hs _).mono ?_
      rintro e w2 ⟨rfl, rfl⟩
      exact ⟨_, rfl, hGo _ _ (Ext.refl _) rfl trivial⟩
    intro v hv
    obtain rfl : v = (.int .i64 n) := hv
    simp only [Act.put, List.setIfInBounds_toArray, List.set_cons_zero, List.set_cons_succ]
    refine' wpT_det (o := ⟨some 17, Op.fieldAddr 27 (Operand.tmp 1) 0, 0, "l05_sparse.go:26", #[{ on := 4, ground := Ground.guard }], some (4, false)⟩) rfl (by rfl) (by rfl) (fun w' hw' => ?_) ?_; rotate_left
    · go_simp <;> first | rfl | exact ⟨rfl, rfl⟩
    simp only [Act.put, List.setIfInBounds_toArray, List.set_cons_zero, List.set_cons_succ]
    refine' wpT_det (o := ⟨some 18, Op.load 2 (Operand.tmp 17), 2, "l05_sparse.go:26", #[{ on := 8, ground := Ground.data }, { on := 4, ground := Ground.guard }], some (4, false)⟩) rfl (by rfl) (by rfl) (fun w' hw' => ?_) ?_; rotate_left
    · have a0_ := Ext.cell hw' a0; have a1_ := Ext.cell hw' a1; have a2_ := Ext.cell hw' a2; have a3_ := Ext.cell hw' a3; have hc_ := Ext.cell hw' hc; have hc'_ := Ext.cell hw' hc'; go_simp <;> first | rfl | exact ⟨rfl, rfl⟩
    simp only [Act.put, List.setIfInBounds_toArray, List.set_cons_zero, List.set_cons_succ]
    refine' wpT_det (o := ⟨some 19, Op.binOp BinOp.add 2 (Operand.tmp 18) (Operand.const (Value.int IntKind.i64 1)) 2, 2, "l05_sparse.go:26", #[{ on := 9, ground := Ground.data }, { on := 4, ground := Ground.guard }], some (4, false)⟩) rfl (by rfl) (by rfl) (fun w' hw' => ?_) ?_; rotate_left
    · go_simp <;> first | rfl | exact ⟨rfl, rfl⟩
    simp only [Act.put, List.setIfInBounds_toArray, List.set_cons_zero, List.set_cons_succ]
    refine' wpT_det (o := ⟨some 20, Op.binOp BinOp.neq 2 (Operand.tmp 16) (Operand.tmp 19) 2, 4, "l05_sparse.go:26", #[{ on := 7, ground := Ground.data }, { on := 10, ground := Ground.data }, { on := 4, ground := Ground.guard }], some (4, false)⟩) rfl (by rfl) (by rfl) (fun w' hw' => ?_) ?_; rotate_left
    · go_simp <;> first | rfl | exact ⟨rfl, rfl⟩
    simp only [Act.put, List.setIfInBounds_toArray, List.set_cons_zero, List.set_cons_succ]
    refine' wpT_det (o := ⟨some 21, Op.pick (Operand.tmp 13) (Operand.const (Value.bool true)) (Operand.tmp 20), 4, "l05_sparse.go:26", #[{ on := 4, ground := Ground.data }, { on := 11, ground := Ground.data }], none⟩) rfl (by rfl) (by rfl) (fun w' hw' => ?_) ?_; rotate_left
    · go_simp <;> first | rfl | exact ⟨rfl, rfl⟩
    simp only [Act.put, List.setIfInBounds_toArray, List.set_cons_zero, List.set_cons_succ]
    refine' wpT_det (o := ⟨some 22, Op.move (Operand.tmp 21), 4, "l05_sparse.go:26", #[{ on := 12, ground := Ground.data }, { on := 7, ground := Ground.chain }], none⟩) rfl (by rfl) (by rfl) (fun w' hw' => ?_) ?_; rotate_left
    · go_simp <;> first | rfl | exact ⟨rfl, rfl⟩
    simp only [Act.put, List.setIfInBounds_toArray, List.set_cons_zero, List.set_cons_succ]
    refine' wpT_det (o := ⟨some 23, Op.move (Operand.tmp 3), 2, "l05_sparse.go:26", #[{ on := 13, ground := Ground.guard }], some (13, false)⟩) rfl (by rfl) (by rfl) (fun w' hw' => ?_) ?_; rotate_left
    · go_simp <;> first | rfl | exact ⟨rfl, rfl⟩
    simp only [Act.put, List.setIfInBounds_toArray, List.set_cons_zero, List.set_cons_succ]
    refine' wpT_det (o := ⟨some 24, Op.binOp BinOp.gtr 2 (Operand.tmp 23) (Operand.const (Value.int IntKind.i64 512)) 2, 4, "l05_sparse.go:26", #[{ on := 14, ground := Ground.data }, { on := 13, ground := Ground.guard }], some (13, false)⟩) rfl (by rfl) (by rfl) (fun w' hw' => ?_) ?_; rotate_left
    · go_simp <;> first | rfl | exact ⟨rfl, rfl⟩
    simp only [Act.put, List.setIfInBounds_toArray, List.set_cons_zero, List.set_cons_succ]
    refine' wpT_det (o := ⟨some 25, Op.pick (Operand.tmp 22) (Operand.const (Value.bool true)) (Operand.tmp 24), 4, "l05_sparse.go:26", #[{ on := 13, ground := Ground.data }, { on := 15, ground := Ground.data }], none⟩) rfl (by rfl) (by rfl) (fun w' hw' => ?_) ?_; rotate_left
    · go_simp <;> first | rfl | exact ⟨rfl, rfl⟩
    simp only [Act.put, List.setIfInBounds_toArray, List.set_cons_zero, List.set_cons_succ]
    refine' wpT_det (o := ⟨some 26, Op.move (Operand.tmp 25), 4, "l05_sparse.go:26", #[{ on := 16, ground := Ground.data }, { on := 13, ground := Ground.chain }], none⟩) rfl (by rfl) (by rfl) (fun w' hw' => ?_) ?_; rotate_left
    · go_simp <;> first | rfl | exact ⟨rfl, rfl⟩
    simp only [Act.put, List.setIfInBounds_toArray, List.set_cons_zero, List.set_cons_succ]
    refine' wpT_det (o := ⟨some 27, Op.fieldAddr 27 (Operand.tmp 1) 3, 0, "l05_sparse.go:26", #[{ on := 17, ground := Ground.guard }], some (17, false)⟩) rfl (by rfl) (by rfl) (fun w' hw' => ?_) ?_; rotate_left
    · go_simp <;> first | rfl | exact ⟨rfl, rfl⟩
    simp only [Act.put, List.setIfInBounds_toArray, List.set_cons_zero, List.set_cons_succ]
    refine' wpT_det (o := ⟨some 28, Op.load 23 (Operand.tmp 27), 23, "l05_sparse.go:26", #[{ on := 18, ground := Ground.data }, { on := 17, ground := Ground.guard }], some (17, false)⟩) rfl (by rfl) (by rfl) (fun w' hw' => ?_) ?_; rotate_left
    · have a0_ := Ext.cell hw' a0; have a1_ := Ext.cell hw' a1; have a2_ := Ext.cell hw' a2; have a3_ := Ext.cell hw' a3; have hc_ := Ext.cell hw' hc; have hc'_ := Ext.cell hw' hc'; go_simp <;> first | rfl | exact ⟨rfl, rfl⟩
    simp only [Act.put, List.setIfInBounds_toArray, List.set_cons_zero, List.set_cons_succ]
    refine' wpT_det (o := ⟨some 29, Op.call { callee := Callee.builtin Builtin.len, args := #[Operand.tmp 28], argTypes := #[23] }, 3, "l05_sparse.go:26", #[{ on := 19, ground := Ground.data }, { on := 17, ground := Ground.guard }], some (17, false)⟩) rfl (by rfl) (by rfl) (fun w' hw' => ?_) ?_; rotate_left
    · go_simp <;> first | rfl | exact ⟨rfl, rfl⟩
    simp only [Act.put, List.setIfInBounds_toArray, List.set_cons_zero, List.set_cons_succ]
    refine' wpT_det (o := ⟨some 30, Op.fieldAddr 27 (Operand.tmp 1) 2, 0, "l05_sparse.go:26", #[{ on := 17, ground := Ground.guard }], some (17, false)⟩) rfl (by rfl) (by rfl) (fun w' hw' => ?_) ?_; rotate_left
    · go_simp <;> first | rfl | exact ⟨rfl, rfl⟩
    simp only [Act.put, List.setIfInBounds_toArray, List.set_cons_zero, List.set_cons_succ]
    refine' wpT_det (o := ⟨some 31, Op.load 22 (Operand.tmp 30), 22, "l05_sparse.go:26", #[{ on := 21, ground := Ground.data }, { on := 17, ground := Ground.guard }], some (17, false)⟩) rfl (by rfl) (by rfl) (fun w' hw' => ?_) ?_; rotate_left
    · have a0_ := Ext.cell hw' a0; have a1_ := Ext.cell hw' a1; have a2_ := Ext.cell hw' a2; have a3_ := Ext.cell hw' a3; have hc_ := Ext.cell hw' hc; have hc'_ := Ext.cell hw' hc'; go_simp <;> first | rfl | exact ⟨rfl, rfl⟩
    simp only [Act.put, List.setIfInBounds_toArray, List.set_cons_zero, List.set_cons_succ]
    refine' wpT_det (o := ⟨some 32, Op.call { callee := Callee.builtin Builtin.len, args := #[Operand.tmp 31], argTypes := #[22] }, 3, "l05_sparse.go:26", #[{ on := 22, ground := Ground.data }, { on := 17, ground := Ground.guard }], some (17, false)⟩) rfl (by rfl) (by rfl) (fun w' hw' => ?_) ?_; rotate_left
    · go_simp <;> first | rfl | exact ⟨rfl, rfl⟩
    simp only [Act.put, List.setIfInBounds_toArray, List.set_cons_zero, List.set_cons_succ]
    refine' wpT_det (o := ⟨some 33, Op.binOp BinOp.neq 3 (Operand.tmp 29) (Operand.tmp 32) 3, 4, "l05_sparse.go:26", #[{ on := 20, ground := Ground.data }, { on := 23, ground := Ground.data }, { on := 17, ground := Ground.guard }], some (17, false)⟩) rfl (by rfl) (by rfl) (fun w' hw' => ?_) ?_; rotate_left
    · go_simp <;> first | rfl | exact ⟨rfl, rfl⟩
    simp only [Act.put, List.setIfInBounds_toArray, List.set_cons_zero, List.set_cons_succ]
    refine' wpT_det (o := ⟨some 34, Op.pick (Operand.tmp 26) (Operand.const (Value.bool true)) (Operand.tmp 33), 4, "l05_sparse.go:26", #[{ on := 17, ground := Ground.data }, { on := 24, ground := Ground.data }], none⟩) rfl (by rfl) (by rfl) (fun w' hw' => ?_) ?_; rotate_left
    · go_simp <;> first | rfl | exact ⟨rfl, rfl⟩
    simp only [Act.put, List.setIfInBounds_toArray, List.set_cons_zero, List.set_cons_succ]
    refine' wpT_det (o := ⟨some 35, Op.move (Operand.tmp 34), 4, "l05_sparse.go:26", #[{ on := 25, ground := Ground.data }, { on := 17, ground := Ground.chain }], none⟩) rfl (by rfl) (by rfl) (fun w' hw' => ?_) ?_; rotate_left
    · go_simp <;> first | rfl | exact ⟨rfl, rfl⟩
    simp only [Act.put, List.setIfInBounds_toArray, List.set_cons_zero, List.set_cons_succ]
    refine' wpT_det (o := ⟨some 36, Op.fieldAddr 27 (Operand.tmp 1) 1, 0, "l05_sparse.go:26", #[{ on := 26, ground := Ground.guard }], some (26, false)⟩) rfl (by rfl) (by rfl) (fun w' hw' => ?_) ?_; rotate_left
    · go_simp <;> first | rfl | exact ⟨rfl, rfl⟩
    simp only [Act.put, List.setIfInBounds_toArray, List.set_cons_zero, List.set_cons_succ]
    refine' wpT_det (o := ⟨some 37, Op.load 22 (Operand.tmp 36), 22, "l05_sparse.go:26", #[{ on := 27, ground := Ground.data }, { on := 26, ground := Ground.guard }], some (26, false)⟩) rfl (by rfl) (by rfl) (fun w' hw' => ?_) ?_; rotate_left
    · have a0_ := Ext.cell hw' a0; have a1_ := Ext.cell hw' a1; have a2_ := Ext.cell hw' a2; have a3_ := Ext.cell hw' a3; have hc_ := Ext.cell hw' hc; have hc'_ := Ext.cell hw' hc'; go_simp <;> first | rfl | exact ⟨rfl, rfl⟩
    simp only [Act.put, List.setIfInBounds_toArray, List.set_cons_zero, List.set_cons_succ]
    refine' wpT_det (o := ⟨some 38, Op.indexAddr 22 (Operand.tmp 37) (Operand.const (Value.int IntKind.i64 0)), 0, "l05_sparse.go:26", #[{ on := 28, ground := Ground.data }, { on := 26, ground := Ground.guard }], some (26, false)⟩) rfl (by rfl) (by rfl) (fun w' hw' => ?_) ?_; rotate_left
    · go_simp <;> first | rfl | exact ⟨rfl, rfl⟩
    simp only [Act.put, List.setIfInBounds_toArray, List.set_cons_zero, List.set_cons_succ]
    refine' wpT_det (o := ⟨some 39, Op.load 2 (Operand.tmp 38), 2, "l05_sparse.go:26", #[{ on := 29, ground := Ground.data }, { on := 26, ground := Ground.guard }], some (26, false)⟩) rfl (by rfl) (by rfl) (fun w' hw' => ?_) ?_; rotate_left
    · have a0_ := Ext.cell hw' a0; have a1_ := Ext.cell hw' a1; have a2_ := Ext.cell hw' a2; have a3_ := Ext.cell hw' a3; have hc_ := Ext.cell hw' hc; have hc'_ := Ext.cell hw' hc'; go_simp <;> first | rfl | exact ⟨rfl, rfl⟩
    simp only [Act.put, List.setIfInBounds_toArray, List.set_cons_zero, List.set_cons_succ]
    refine' wpT_det (o := ⟨some 40, Op.binOp BinOp.neq 2 (Operand.tmp 39) (Operand.const (Value.int IntKind.i64 0)) 2, 4, "l05_sparse.go:26", #[{ on := 30, ground := Ground.data }, { on := 26, ground := Ground.guard }], some (26, false)⟩) rfl (by rfl) (by rfl) (fun w' hw' => ?_) ?_; rotate_left
    · go_simp <;> first | rfl | exact ⟨rfl, rfl⟩
    simp only [Act.put, List.setIfInBounds_toArray, List.set_cons_zero, List.set_cons_succ]
    refine' wpT_det (o := ⟨some 41, Op.pick (Operand.tmp 35) (Operand.const (Value.bool true)) (Operand.tmp 40), 4, "l05_sparse.go:26", #[{ on := 26, ground := Ground.data }, { on := 31, ground := Ground.data }], none⟩) rfl (by rfl) (by rfl) (fun w' hw' => ?_) ?_; rotate_left
    · go_simp <;> first | rfl | exact ⟨rfl, rfl⟩
    simp only [Act.put, List.setIfInBounds_toArray, List.set_cons_zero, List.set_cons_succ]
    refine' wpT_det (o := ⟨some 42, Op.move (Operand.tmp 41), 4, "l05_sparse.go:26", #[{ on := 32, ground := Ground.data }, { on := 26, ground := Ground.chain }], none⟩) rfl (by rfl) (by rfl) (fun w' hw' => ?_) ?_; rotate_left
    · go_simp <;> first | rfl | exact ⟨rfl, rfl⟩
    simp only [Act.put, List.setIfInBounds_toArray, List.set_cons_zero, List.set_cons_succ]
    refine' wpT_det (o := ⟨some 43, Op.fieldAddr 27 (Operand.tmp 1) 1, 0, "l05_sparse.go:26", #[{ on := 33, ground := Ground.guard }], some (33, false)⟩) rfl (by rfl) (by rfl) (fun w' hw' => ?_) ?_; rotate_left
    · go_simp <;> first | rfl | exact ⟨rfl, rfl⟩
    simp only [Act.put, List.setIfInBounds_toArray, List.set_cons_zero, List.set_cons_succ]
    refine' wpT_det (o := ⟨some 44, Op.load 22 (Operand.tmp 43), 22, "l05_sparse.go:26", #[{ on := 34, ground := Ground.data }, { on := 33, ground := Ground.guard }], some (33, false)⟩) rfl (by rfl) (by rfl) (fun w' hw' => ?_) ?_; rotate_left
    · have a0_ := Ext.cell hw' a0; have a1_ := Ext.cell hw' a1; have a2_ := Ext.cell hw' a2; have a3_ := Ext.cell hw' a3; have hc_ := Ext.cell hw' hc; have hc'_ := Ext.cell hw' hc'; go_simp <;> first | rfl | exact ⟨rfl, rfl⟩
    simp only [Act.put, List.setIfInBounds_toArray, List.set_cons_zero, List.set_cons_succ]
    refine' wpT_det (o := ⟨some 45, Op.fieldAddr 27 (Operand.tmp 1) 0, 0, "l05_sparse.go:26", #[{ on := 33, ground := Ground.guard }], some (33, false)⟩) rfl (by rfl) (by rfl) (fun w' hw' => ?_) ?_; rotate_left
    · go_simp <;> first | rfl | exact ⟨rfl, rfl⟩
    simp only [Act.put, List.setIfInBounds_toArray, List.set_cons_zero, List.set_cons_succ]
    refine' wpT_det (o := ⟨some 46, Op.load 2 (Operand.tmp 45), 2, "l05_sparse.go:26", #[{ on := 36, ground := Ground.data }, { on := 33, ground := Ground.guard }], some (33, false)⟩) rfl (by rfl) (by rfl) (fun w' hw' => ?_) ?_; rotate_left
    · have a0_ := Ext.cell hw' a0; have a1_ := Ext.cell hw' a1; have a2_ := Ext.cell hw' a2; have a3_ := Ext.cell hw' a3; have hc_ := Ext.cell hw' hc; have hc'_ := Ext.cell hw' hc'; go_simp <;> first | rfl | exact ⟨rfl, rfl⟩
    simp only [Act.put, List.setIfInBounds_toArray, List.set_cons_zero, List.set_cons_succ]
    refine' wpT_det (o := ⟨some 47, Op.indexAddr 22 (Operand.tmp 44) (Operand.tmp 46), 0, "l05_sparse.go:26", #[{ on := 35, ground := Ground.data }, { on := 37, ground := Ground.data }, { on := 33, ground := Ground.guard }], some (33, false)⟩) rfl (by rfl) (by rfl) (fun w' hw' => ?_) ?_; rotate_left
    · go_simp <;> first | rfl | exact ⟨rfl, rfl⟩
    simp only [Act.put, List.setIfInBounds_toArray, List.set_cons_zero, List.set_cons_succ]
    refine' wpT_det (o := ⟨some 48, Op.load 2 (Operand.tmp 47), 2, "l05_sparse.go:26", #[{ on := 38, ground := Ground.data }, { on := 33, ground := Ground.guard }], some (33, false)⟩) rfl (by rfl) (by rfl) (fun w' hw' => ?_) ?_; rotate_left
    · have a0_ := Ext.cell hw' a0; have a1_ := Ext.cell hw' a1; have a2_ := Ext.cell hw' a2; have a3_ := Ext.cell hw' a3; have hc_ := Ext.cell hw' hc; have hc'_ := Ext.cell hw' hc'; go_simp <;> first | rfl | exact ⟨rfl, rfl⟩
    simp only [Act.put, List.setIfInBounds_toArray, List.set_cons_zero, List.set_cons_succ]
    refine' wpT_det (o := ⟨some 49, Op.move (Operand.tmp 3), 2, "l05_sparse.go:26", #[{ on := 33, ground := Ground.guard }], some (33, false)⟩) rfl (by rfl) (by rfl) (fun w' hw' => ?_) ?_; rotate_left
    · go_simp <;> first | rfl | exact ⟨rfl, rfl⟩
    simp only [Act.put, List.setIfInBounds_toArray, List.set_cons_zero, List.set_cons_succ]
    refine' wpT_det (o := ⟨some 50, Op.binOp BinOp.neq 2 (Operand.tmp 48) (Operand.tmp 49) 2, 4, "l05_sparse.go:26", #[{ on := 39, ground := Ground.data }, { on := 40, ground := Ground.data }, { on := 33, ground := Ground.guard }], some (33, false)⟩) rfl (by rfl) (by rfl) (fun w' hw' => ?_) ?_; rotate_left
    · go_simp <;> first | rfl | exact ⟨rfl, rfl⟩
    simp only [Act.put, List.setIfInBounds_toArray, List.set_cons_zero, List.set_cons_succ]
    refine' wpT_det (o := ⟨some 51, Op.pick (Operand.tmp 42) (Operand.const (Value.bool true)) (Operand.tmp 50), 4, "l05_sparse.go:26", #[{ on := 33, ground := Ground.data }, { on := 41, ground := Ground.data }], none⟩) rfl (by rfl) (by rfl) (fun w' hw' => ?_) ?_; rotate_left
    · go_simp <;> first | rfl | exact ⟨rfl, rfl⟩
    simp only [Act.put, List.setIfInBounds_toArray, List.set_cons_zero, List.set_cons_succ]
    refine wpT_nil (fun w' hw' hF => ?_)
    refine wpList_nil ?_
    replace hx0 := hx0.trans hw'.undrew
    replace ba := ba.ext hw'.undrew
    have A_ := hw'
    clear hF hw' hc hc' a0 a1 a2 a3
    have a0 := ba.cell 0 rfl
    have a1 := ba.cell 1 rfl
    have a2 := ba.cell 2 rfl
    have a3 := ba.cell 3 rfl
    clear A_
    go_wp2_with fail
    refine (isSorted_any _ n ca st _ (hr.below hx0)).mono ?_
    rintro e w2 ⟨rfl, hx⟩
    rw [h7]
    replace hx0 := hx0.trans hx
    replace ba := ba.ext hx
    clear hx a0 a1 a2 a3
    have a0 := ba.cell 0 rfl
    have a2 := ba.cell 2 rfl
    go_wp2_with fail
    refine (allIn_any B m cb co 0 (sd - 1) _ (hq.below hx0)).mono ?_
    rintro e w3 ⟨rfl, hx⟩
    rw [h8]
    replace hx0 := hx0.trans hx
    replace ba := ba.ext hx
    clear hx a0 a2
    have a3 := ba.cell 3 rfl
    go_wp2_with fail
    refine (areFinite_any V p cv va _ (hv.below hx0)).mono ?_
    rintro e w4 ⟨rfl, hx⟩
    rw [h9]
    replace hx0 := hx0.trans hx
    replace ba := ba.ext hx
    clear hx a3
    go_wp2_with fail
    go_ret
    exact ⟨ret_bool (by rw [Hres.out, hno]), hx0⟩
  | true =>
  have K8 : Hid (∀ i : Nat, (i : Int) < sd → rd st i ≤ rd st ((i : Int) + 1)) := fun i hi => srtB_iff.1 h7 i (by rw [HA.out]; have := H2.out; omega)
  have K9 : Hid (∀ k : Nat, k < m → 0 ≤ rd co k ∧ rd co k < sd) := fun k hk => by
    have hk' : k < co.length := by rw [HB.out]; exact hk
    have := inR_iff.1 (List.all_eq_true.1 h8 co[k] (List.getElem_mem hk'))
    rw [rd_get hk'] 
    omega
  have KR : Hid (∀ i : Nat, (i : Int) ≤ sd → 0 ≤ rd st i ∧ rd st i ≤ m) := starts_in (fun i hi => K8.out i hi) H5.out H6.out (by omega)
  have KZ : Hid ((∀ i k : Nat, (i : Int) < sd → rd st i ≤ k → (k : Int) + 1 < rd st ((i : Int) + 1) → rd co k < rd co ((k : Int) + 1)) → isSp sd st co va = true) := fun h10 => isSp_iff.2 ⟨h1b, by rw [HA.out]; exact H2.out, by rw [HB.out]; omega, by rw [HV.out, HB.out]; have := H4.out; omega, h9, H5.out, by rw [HB.out]; exact H6.out, K8.out, by rw [HB.out]; exact K9.out, h10⟩
  go_enter Try.func38, Try.ntmps38
  go_upto_region 1 with (fail)
  obtain ⟨w0, hw0⟩ : ∃ w0, w0 = (w.alloc (.cells #[.int .i64 sd, .slice A n ca, .slice B m cb, .slice V p cv] 27)) := ⟨_, rfl⟩
  have hx0 : Ext w w0 := by subst hw0; exact (Ext.refl _).alloc _
  have ba : Blk w0 (w.heap.size) #[.int .i64 sd, .slice A n ca, .slice B m cb, .slice V p cv] 27 := by subst hw0; exact (Blk.new w _ _)
  rw [← hw0]
  clear hw0
  have a0 := ba.cell 0 rfl
  have a1 := ba.cell 1 rfl
  have a2 := ba.cell 2 rfl
  have a3 := ba.cell 3 rfl
  go_wp2_with fail
  refine (length_any B m cb hs2 _).mono ?_
  rintro e w1 ⟨rfl, rfl⟩
  go_upto_region 2 with (fail)
  have ec0 := (hr.below hx0).int 0 (by omega) (by omega)
  have ec1 := (hr.below hx0).int sd (by omega) (by omega)
  obtain ⟨ad, rfl, hc⟩ := ec0
  obtain ⟨ad', had, hc'⟩ := ec1
  obtain rfl := Option.some.inj had
  clear had
  replace hc : w0.cell? ad = some (.int .i64 (rd st 0)) := by rwa [show ad.add (0 : Int).toNat = ad by cases ad; simp [Addr.add]] at hc
  refine wp_region_T (cs := []) [0, 1, 2, 3, 4, 5, 6, 7, 8, 9, 10, 11, 12, 13, 14, 15, 16, 17, 18, 19, 20, 21, 22, 23, 24, 25, 26, 27, 28, 29, 30, 31, 32, 33, 34, 35, 36, 37, 38, 39, 40, 41, 42] [] [2, 7] [] (fun i__ v => match i__ with | 2 => v = (.bool true) | 7 => v = (.int .i64 n) | _ => False) (fun _ _ _ => True) (by kernel_rfl) (by kernel_rfl) (fun _ _ _ _ _ _ => trivial) ?_
  refine' wpT_det (o := ⟨some 9, Op.fieldAddr 27 (Operand.tmp 1) 0, 0, "l05_sparse.go:26", #[], none⟩) rfl (by rfl) (by rfl) (fun w' hw' => ?_) ?_; rotate_left
  · go_simp <;> first | rfl | exact ⟨rfl, rfl⟩
  simp only [Act.put, List.setIfInBounds_toArray, List.set_cons_zero, List.set_cons_succ]
  refine' wpT_det (o := ⟨some 10, Op.load 2 (Operand.tmp 9), 2, "l05_sparse.go:26", #[{ on := 0, ground := Ground.data }], none⟩) rfl (by rfl) (by rfl) (fun w' hw' => ?_) ?_; rotate_left
  · have a0_ := Ext.cell hw' a0; have a1_ := Ext.cell hw' a1; have a2_ := Ext.cell hw' a2; have a3_ := Ext.cell hw' a3; have hc_ := Ext.cell hw' hc; have hc'_ := Ext.cell hw' hc'; go_simp <;> first | rfl | exact ⟨rfl, rfl⟩
  simp only [Act.put, List.setIfInBounds_toArray, List.set_cons_zero, List.set_cons_succ]
  refine wpT_nd (o := ⟨some 11, Op.call { callee := Callee.value (Operand.func 107), args := #[Operand.tmp 10, Operand.const (Value.int IntKind.i64 1), Operand.const (Value.int IntKind.i64 32)], argTypes := #[2, 2, 2] }, 4, "l05_sparse.go:26", #[{ on := 1, ground := Ground.data }], none⟩) rfl (by rfl) (by rfl) (fun w' hw' hF R__ hGo => ?_) ⟨_, rfl⟩ ?_
  · go_simp
    refine gives_enter rfl ?_
    refine (inRange_any _ _ _ _).mono ?_
    rintro e w2 ⟨rfl, rfl⟩
    exact ⟨_, rfl, hGo _ _ (Ext.refl _) (congrArg Value.bool h1) trivial⟩
  intro v hv
  obtain rfl : v = (.bool true) := hv
  simp only [Act.put, List.setIfInBounds_toArray, List.set_cons_zero, List.set_cons_succ]
  refine' wpT_det (o := ⟨some 12, Op.unOp UnOp.not 4 (Operand.tmp 11), 4, "l05_sparse.go:26", #[{ on := 2, ground := Ground.data }], none⟩) rfl (by rfl) (by rfl) (fun w' hw' => ?_) ?_; rotate_left
  · go_simp <;> first | rfl | exact ⟨rfl, rfl⟩
  simp only [Act.put, List.setIfInBounds_toArray, List.set_cons_zero, List.set_cons_succ]
  refine' wpT_det (o := ⟨some 13, Op.move (Operand.tmp 12), 4, "l05_sparse.go:26", #[{ on := 3, ground := Ground.data }, { on := 2, ground := Ground.chain }], none⟩) rfl (by rfl) (by rfl) (fun w' hw' => ?_) ?_; rotate_left
  · go_simp <;> first | rfl | exact ⟨rfl, rfl⟩
  simp only [Act.put, List.setIfInBounds_toArray, List.set_cons_zero, List.set_cons_succ]
  refine' wpT_det (o := ⟨some 14, Op.fieldAddr 27 (Operand.tmp 1) 1, 0, "l05_sparse.go:26", #[{ on := 4, ground := Ground.guard }], some (4, false)⟩) rfl (by rfl) (by rfl) (fun w' hw' => ?_) ?_; rotate_left
  · go_simp <;> first | rfl | exact ⟨rfl, rfl⟩
  simp only [Act.put, List.setIfInBounds_toArray, List.set_cons_zero, List.set_cons_succ]
  refine' wpT_det (o := ⟨some 15, Op.load 22 (Operand.tmp 14), 22, "l05_sparse.go:26", #[{ on := 5, ground := Ground.data }, { on := 4, ground := Ground.guard }], some (4, false)⟩) rfl (by rfl) (by rfl) (fun w' hw' => ?_) ?_; rotate_left
  · have a0_ := Ext.cell hw' a0; have a1_ := Ext.cell hw' a1; have a2_ := Ext.cell hw' a2; have a3_ := Ext.cell hw' a3; have hc_ := Ext.cell hw' hc; have hc'_ := Ext.cell hw' hc'; go_simp <;> first | rfl | exact ⟨rfl, rfl⟩
  simp only [Act.put, List.setIfInBounds_toArray, List.set_cons_zero, List.set_cons_succ]
  refine wpT_nd (o := ⟨some 16, Op.call { callee := Callee.value (Operand.func 87), args := #[Operand.tmp 15], argTypes := #[22] }, 2, "l05_sparse.go:26", #[{ on := 6, ground := Ground.data }, { on := 4, ground := Ground.chain }, { on := 4, ground := Ground.guard }], some (4, false)⟩) rfl (by rfl) (by rfl) (fun w' hw' hF R__ hGo => ?_) ⟨_, rfl⟩ ?_
  · go_simp
    refine gives_enter rfl ?_
    refine (length_any _ _ _ hs _).mono ?_
    rintro e w2 ⟨rfl, rfl⟩
    exact ⟨_, rfl, hGo _ _ (Ext.refl _) rfl trivial⟩
  intro v hv
  obtain rfl : v = (.int .i64 n) := hv
  simp only [Act.put, List.setIfInBounds_toArray, List.set_cons_zero, List.set_cons_succ]
  refine' wpT_det (o := ⟨some 17, Op.fieldAddr 27 (Operand.tmp 1) 0, 0, "l05_sparse.go:26", #[{ on := 4, ground := Ground.guard }], some (4, false)⟩) rfl (by rfl) (by rfl) (fun w' hw' => ?_) ?_; rotate_left
  · go_simp <;> first | rfl | exact ⟨rfl, rfl⟩
  simp only [Act.put, List.setIfInBounds_toArray, List.set_cons_zero, List.set_cons_succ]
  refine' wpT_det (o := ⟨some 18, Op.load 2 (Operand.tmp 17), 2, "l05_sparse.go:26", #[{ on := 8, ground := Ground.data }, { on := 4, ground := Ground.guard }], some (4, false)⟩) rfl (by rfl) (by rfl) (fun w' hw' => ?_) ?_; rotate_left
  · have a0_ := Ext.cell hw' a0; have a1_ := Ext.cell hw' a1; have a2_ := Ext.cell hw' a2; have a3_ := Ext.cell hw' a3; have hc_ := Ext.cell hw' hc; have hc'_ := Ext.cell hw' hc'; go_simp <;> first | rfl | exact ⟨rfl, rfl⟩
  simp only [Act.put, List.setIfInBounds_toArray, List.set_cons_zero, List.set_cons_succ]
  refine' wpT_det (o := ⟨some 19, Op.binOp BinOp.add 2 (Operand.tmp 18) (Operand.const (Value.int IntKind.i64 1)) 2, 2, "l05_sparse.go:26", #[{ on := 9, ground := Ground.data }, { on := 4, ground := Ground.guard }], some (4, false)⟩) rfl (by rfl) (by rfl) (fun w' hw' => ?_) ?_; rotate_left
  · go_simp <;> first | rfl | exact ⟨rfl, rfl⟩
  simp only [Act.put, List.setIfInBounds_toArray, List.set_cons_zero, List.set_cons_succ]
  refine' wpT_det (o := ⟨some 20, Op.binOp BinOp.neq 2 (Operand.tmp 16) (Operand.tmp 19) 2, 4, "l05_sparse.go:26", #[{ on := 7, ground := Ground.data }, { on := 10, ground := Ground.data }, { on := 4, ground := Ground.guard }], some (4, false)⟩) rfl (by rfl) (by rfl) (fun w' hw' => ?_) ?_; rotate_left
  · go_simp <;> first | rfl | exact ⟨rfl, rfl⟩
  simp only [Act.put, List.setIfInBounds_toArray, List.set_cons_zero, List.set_cons_succ]
  refine' wpT_det (o := ⟨some 21, Op.pick (Operand.tmp 13) (Operand.const (Value.bool true)) (Operand.tmp 20), 4, "l05_sparse.go:26", #[{ on := 4, ground := Ground.data }, { on := 11, ground := Ground.data }], none⟩) rfl (by rfl) (by rfl) (fun w' hw' => ?_) ?_; rotate_left
  · go_simp <;> first | rfl | exact ⟨rfl, rfl⟩
  simp only [Act.put, List.setIfInBounds_toArray, List.set_cons_zero, List.set_cons_succ]
  refine' wpT_det (o := ⟨some 22, Op.move (Operand.tmp 21), 4, "l05_sparse.go:26", #[{ on := 12, ground := Ground.data }, { on := 7, ground := Ground.chain }], none⟩) rfl (by rfl) (by rfl) (fun w' hw' => ?_) ?_; rotate_left
  · go_simp <;> first | rfl | exact ⟨rfl, rfl⟩
  simp only [Act.put, List.setIfInBounds_toArray, List.set_cons_zero, List.set_cons_succ]
  refine' wpT_det (o := ⟨some 23, Op.move (Operand.tmp 3), 2, "l05_sparse.go:26", #[{ on := 13, ground := Ground.guard }], some (13, false)⟩) rfl (by rfl) (by rfl) (fun w' hw' => ?_) ?_; rotate_left
  · go_simp <;> first | rfl | exact ⟨rfl, rfl⟩
  simp only [Act.put, List.setIfInBounds_toArray, List.set_cons_zero, List.set_cons_succ]
  refine' wpT_det (o := ⟨some 24, Op.binOp BinOp.gtr 2 (Operand.tmp 23) (Operand.const (Value.int IntKind.i64 512)) 2, 4, "l05_sparse.go:26", #[{ on := 14, ground := Ground.data }, { on := 13, ground := Ground.guard }], some (13, false)⟩) rfl (by rfl) (by rfl) (fun w' hw' => ?_) ?_; rotate_left
  · go_simp <;> first | rfl | exact ⟨rfl, rfl⟩
  simp only [Act.put, List.setIfInBounds_toArray, List.set_cons_zero, List.set_cons_succ]
  refine' wpT_det (o := ⟨some 25, Op.pick (Operand.tmp 22) (Operand.const (Value.bool true)) (Operand.tmp 24), 4, "l05_sparse.go:26", #[{ on := 13, ground := Ground.data }, { on := 15, ground := Ground.data }], none⟩) rfl (by rfl) (by rfl) (fun w' hw' => ?_) ?_; rotate_left
  · go_simp <;> first | rfl | exact ⟨rfl, rfl⟩
  simp only [Act.put, List.setIfInBounds_toArray, List.set_cons_zero, List.set_cons_succ]
  refine' wpT_det (o := ⟨some 26, Op.move (Operand.tmp 25), 4, "l05_sparse.go:26", #[{ on := 16, ground := Ground.data }, { on := 13, ground := Ground.chain }], none⟩) rfl (by rfl) (by rfl) (fun w' hw' => ?_) ?_; rotate_left
  · go_simp <;> first | rfl | exact ⟨rfl, rfl⟩
  simp only [Act.put, List.setIfInBounds_toArray, List.set_cons_zero, List.set_cons_succ]
  refine' wpT_det (o := ⟨some 27, Op.fieldAddr 27 (Operand.tmp 1) 3, 0, "l05_sparse.go:26", #[{ on := 17, ground := Ground.guard }], some (17, false)⟩) rfl (by rfl) (by rfl) (fun w' hw' => ?_) ?_; rotate_left
  · go_simp <;> first | rfl | exact ⟨rfl, rfl⟩
  simp only [Act.put, List.setIfInBounds_toArray, List.set_cons_zero, List.set_cons_succ]
  refine' wpT_det (o := ⟨some 28, Op.load 23 (Operand.tmp 27), 23, "l05_sparse.go:26", #[{ on := 18, ground := Ground.data }, { on := 17, ground := Ground.guard }], some (17, false)⟩) rfl (by rfl) (by rfl) (fun w' hw' => ?_) ?_; rotate_left
  · have a0_ := Ext.cell hw' a0; have a1_ := Ext.cell hw' a1; have a2_ := Ext.cell hw' a2; have a3_ := Ext.cell hw' a3; have hc_ := Ext.cell hw' hc; have hc'_ := Ext.cell hw' hc'; go_simp <;> first | rfl | exact ⟨rfl, rfl⟩
  simp only [Act.put, List.setIfInBounds_toArray, List.set_cons_zero, List.set_cons_succ]
  refine' wpT_det (o := ⟨some 29, Op.call { callee := Callee.builtin Builtin.len, args := #[Operand.tmp 28], argTypes := #[23] }, 3, "l05_sparse.go:26", #[{ on := 19, ground := Ground.data }, { on := 17, ground := Ground.guard }], some (17, false)⟩) rfl (by rfl) (by rfl) (fun w' hw' => ?_) ?_; rotate_left
  · go_simp <;> first | rfl | exact ⟨rfl, rfl⟩
  simp only [Act.put, List.setIfInBounds_toArray, List.set_cons_zero, List.set_cons_succ]
  refine' wpT_det (o := ⟨some 30, Op.fieldAddr 27 (Operand.tmp 1) 2, 0, "l05_sparse.go:26", #[{ on := 17, ground := Ground.guard }], some (17, false)⟩) rfl (by rfl) (by rfl) (fun w' hw' => ?_) ?_; rotate_left
  · go_simp <;> first | rfl | exact ⟨rfl, rfl⟩
  simp only [Act.put, List.setIfInBounds_toArray, List.set_cons_zero, List.set_cons_succ]
  refine' wpT_det (o := ⟨some 31, Op.load 22 (Operand.tmp 30), 22, "l05_sparse.go:26", #[{ on := 21, ground := Ground.data }, { on := 17, ground := Ground.guard }], some (17, false)⟩) rfl (by rfl) (by rfl) (fun w' hw' => ?_) ?_; rotate_left
  · have a0_ := Ext.cell hw' a0; have a1_ := Ext.cell hw' a1; have a2_ := Ext.cell hw' a2; have a3_ := Ext.cell hw' a3; have hc_ := Ext.cell hw' hc; have hc'_ := Ext.cell hw' hc'; go_simp <;> first | rfl | exact ⟨rfl, rfl⟩
  simp only [Act.put, List.setIfInBounds_toArray, List.set_cons_zero, List.set_cons_succ]
  refine' wpT_det (o := ⟨some 32, Op.call { callee := Callee.builtin Builtin.len, args := #[Operand.tmp 31], argTypes := #[22] }, 3, "l05_sparse.go:26", #[{ on := 22, ground := Ground.data }, { on := 17, ground := Ground.guard }], some (17, false)⟩) rfl (by rfl) (by rfl) (fun w' hw' => ?_) ?_; rotate_left
  · go_simp <;> first | rfl | exact ⟨rfl, rfl⟩
  simp only [Act.put, List.setIfInBounds_toArray, List.set_cons_zero, List.set_cons_succ]
  refine' wpT_det (o := ⟨some 33, Op.binOp BinOp.neq 3 (Operand.tmp 29) (Operand.tmp 32) 3, 4, "l05_sparse.go:26", #[{ on := 20, ground := Ground.data }, { on := 23, ground := Ground.data }, { on := 17, ground := Ground.guard }], some (17, false)⟩) rfl (by rfl) (by rfl) (fun w' hw' => ?_) ?_; rotate_left
  · go_simp <;> first | rfl | exact ⟨rfl, rfl⟩
  simp only [Act.put, List.setIfInBounds_toArray, List.set_cons_zero, List.set_cons_succ]
  refine' wpT_det (o := ⟨some 34, Op.pick (Operand.tmp 26) (Operand.const (Value.bool true)) (Operand.tmp 33), 4, "l05_sparse.go:26", #[{ on := 17, ground := Ground.data }, { on := 24, ground := Ground.data }], none⟩) rfl (by rfl) (by rfl) (fun w' hw' => ?_) ?_; rotate_left
  · go_simp <;> first | rfl | exact ⟨rfl, rfl⟩
  simp only [Act.put, List.setIfInBounds_toArray, List.set_cons_zero, List.set_cons_succ]
  refine' wpT_det (o := ⟨some 35, Op.move (Operand.tmp 34), 4, "l05_sparse.go:26", #[{ on := 25, ground := Ground.data }, { on := 17, ground := Ground.chain }], none⟩) rfl (by rfl) (by rfl) (fun w' hw' => ?_) ?_; rotate_left
  · go_simp <;> first | rfl | exact ⟨rfl, rfl⟩
  simp only [Act.put, List.setIfInBounds_toArray, List.set_cons_zero, List.set_cons_succ]
  refine' wpT_det (o := ⟨some 36, Op.fieldAddr 27 (Operand.tmp 1) 1, 0, "l05_sparse.go:26", #[{ on := 26, ground := Ground.guard }], some (26, false)⟩) rfl (by rfl) (by rfl) (fun w' hw' => ?_) ?_; rotate_left
  · go_simp <;> first | rfl | exact ⟨rfl, rfl⟩
  simp only [Act.put, List.setIfInBounds_toArray, List.set_cons_zero, List.set_cons_succ]
  refine' wpT_det (o := ⟨some 37, Op.load 22 (Operand.tmp 36), 22, "l05_sparse.go:26", #[{ on := 27, ground := Ground.data }, { on := 26, ground := Ground.guard }], some (26, false)⟩) rfl (by rfl) (by rfl) (fun w' hw' => ?_) ?_; rotate_left
  · have a0_ := Ext.cell hw' a0; have a1_ := Ext.cell hw' a1; have a2_ := Ext.cell hw' a2; have a3_ := Ext.cell hw' a3; have hc_ := Ext.cell hw' hc; have hc'_ := Ext.cell hw' hc'; go_simp <;> first | rfl | exact ⟨rfl, rfl⟩
  simp only [Act.put, List.setIfInBounds_toArray, List.set_cons_zero, List.set_cons_succ]
  refine' wpT_det (o := ⟨some 38, Op.indexAddr 22 (Operand.tmp 37) (Operand.const (Value.int IntKind.i64 0)), 0, "l05_sparse.go:26", #[{ on := 28, ground := Ground.data }, { on := 26, ground := Ground.guard }], some (26, false)⟩) rfl (by rfl) (by rfl) (fun w' hw' => ?_) ?_; rotate_left
  · go_simp <;> first | rfl | exact ⟨rfl, rfl⟩
  simp only [Act.put, List.setIfInBounds_toArray, List.set_cons_zero, List.set_cons_succ]
  refine' wpT_det (o := ⟨some 39, Op.load 2 (Operand.tmp 38), 2, "l05_sparse.go:26", #[{ on := 29, ground := Ground.data }, { on := 26, ground := Ground.guard }], some (26, false)⟩) rfl (by rfl) (by rfl) (fun w' hw' => ?_) ?_; rotate_left
  · have a0_ := Ext.cell hw' a0; have a1_ := Ext.cell hw' a1; have a2_ := Ext.cell hw' a2; have a3_ := Ext.cell hw' a3; have hc_ := Ext.cell hw' hc; have hc'_ := Ext.cell hw' hc'; go_simp <;> first | rfl | exact ⟨rfl, rfl⟩
  simp only [Act.put, List.setIfInBounds_toArray, List.set_cons_zero, List.set_cons_succ]
  refine' wpT_det (o := ⟨some 40, Op.binOp BinOp.neq 2 (Operand.tmp 39) (Operand.const (Value.int IntKind.i64 0)) 2, 4, "l05_sparse.go:26", #[{ on := 30, ground := Ground.data }, { on := 26, ground := Ground.guard }], some (26, false)⟩) rfl (by rfl) (by rfl) (fun w' hw' => ?_) ?_; rotate_left
  · go_simp <;> first | rfl | exact ⟨rfl, rfl⟩
  simp only [Act.put, List.setIfInBounds_toArray, List.set_cons_zero, List.set_cons_succ]
  refine' wpT_det (o := ⟨some 41, Op.pick (Operand.tmp 35) (Operand.const (Value.bool true)) (Operand.tmp 40), 4, "l05_sparse.go:26", #[{ on := 26, ground := Ground.data }, { on := 31, ground := Ground.data }], none⟩) rfl (by rfl) (by rfl) (fun w' hw' => ?_) ?_; rotate_left
  · go_simp <;> first | rfl | exact ⟨rfl, rfl⟩
  simp only [Act.put, List.setIfInBounds_toArray, List.set_cons_zero, List.set_cons_succ]
  refine' wpT_det (o := ⟨some 42, Op.move (Operand.tmp 41), 4, "l05_sparse.go:26", #[{ on := 32, ground := Ground.data }, { on := 26, ground := Ground.chain }], none⟩) rfl (by rfl) (by rfl) (fun w' hw' => ?_) ?_; rotate_left
  · go_simp <;> first | rfl | exact ⟨rfl, rfl⟩
  simp only [Act.put, List.setIfInBounds_toArray, List.set_cons_zero, List.set_cons_succ]
  refine' wpT_det (o := ⟨some 43, Op.fieldAddr 27 (Operand.tmp 1) 1, 0, "l05_sparse.go:26", #[{ on := 33, ground := Ground.guard }], some (33, false)⟩) rfl (by rfl) (by rfl) (fun w' hw' => ?_) ?_; rotate_left
  · go_simp <;> first | rfl | exact ⟨rfl, rfl⟩
  simp only [Act.put, List.setIfInBounds_toArray, List.set_cons_zero, List.set_cons_succ]
  refine' wpT_det (o := ⟨some 44, Op.load 22 (Operand.tmp 43), 22, "l05_sparse.go:26", #[{ on := 34, ground := Ground.data }, { on := 33, ground := Ground.guard }], some (33, false)⟩) rfl (by rfl) (by rfl) (fun w' hw' => ?_) ?_; rotate_left
  · have a0_ := Ext.cell hw' a0; have a1_ := Ext.cell hw' a1; have a2_ := Ext.cell hw' a2; have a3_ := Ext.cell hw' a3; have hc_ := Ext.cell hw' hc; have hc'_ := Ext.cell hw' hc'; go_simp <;> first | rfl | exact ⟨rfl, rfl⟩
  simp only [Act.put, List.setIfInBounds_toArray, List.set_cons_zero, List.set_cons_succ]
  refine' wpT_det (o := ⟨some 45, Op.fieldAddr 27 (Operand.tmp 1) 0, 0, "l05_sparse.go:26", #[{ on := 33, ground := Ground.guard }], some (33, false)⟩) rfl (by rfl) (by rfl) (fun w' hw' => ?_) ?_; rotate_left
  · go_simp <;> first | rfl | exact ⟨rfl, rfl⟩
  simp only [Act.put, List.setIfInBounds_toArray, List.set_cons_zero, List.set_cons_succ]
  refine' wpT_det (o := ⟨some 46, Op.load 2 (Operand.tmp 45), 2, "l05_sparse.go:26", #[{ on := 36, ground := Ground.data }, { on := 33, ground := Ground.guard }], some (33, false)⟩) rfl (by rfl) (by rfl) (fun w' hw' => ?_) ?_; rotate_left
  · have a0_ := Ext.cell hw' a0; have a1_ := Ext.cell hw' a1; have a2_ := Ext.cell hw' a2; have a3_ := Ext.cell hw' a3; have hc_ := Ext.cell hw' hc; have hc'_ := Ext.cell hw' hc'; go_simp <;> first | rfl | exact ⟨rfl, rfl⟩
  simp only [Act.put, List.setIfInBounds_toArray, List.set_cons_zero, List.set_cons_succ]
  refine' wpT_det (o := ⟨some 47, Op.indexAddr 22 (Operand.tmp 44) (Operand.tmp 46), 0, "l05_sparse.go:26", #[{ on := 35, ground := Ground.data }, { on := 37, ground := Ground.data }, { on := 33, ground := Ground.guard }], some (33, false)⟩) rfl (by rfl) (by rfl) (fun w' hw' => ?_) ?_; rotate_left
  · go_simp <;> first | rfl | exact ⟨rfl, rfl⟩
  simp only [Act.put, List.setIfInBounds_toArray, List.set_cons_zero, List.set_cons_succ]
  refine' wpT_det (o := ⟨some 48, Op.load 2 (Operand.tmp 47), 2, "l05_sparse.go:26", #[{ on := 38, ground := Ground.data }, { on := 33, ground := Ground.guard }], some (33, false)⟩) rfl (by rfl) (by rfl) (fun w' hw' => ?_) ?_; rotate_left
  · have a0_ := Ext.cell hw' a0; have a1_ := Ext.cell hw' a1; have a2_ := Ext.cell hw' a2; have a3_ := Ext.cell hw' a3; have hc_ := Ext.cell hw' hc; have hc'_ := Ext.cell hw' hc'; go_simp <;> first | rfl | exact ⟨rfl, rfl⟩
  simp only [Act.put, List.setIfInBounds_toArray, List.set_cons_zero, List.set_cons_succ]
  refine' wpT_det (o := ⟨some 49, Op.move (Operand.tmp 3), 2, "l05_sparse.go:26", #[{ on := 33, ground := Ground.guard }], some (33, false)⟩) rfl (by rfl) (by rfl) (fun w' hw' => ?_) ?_; rotate_left
  · go_simp <;> first | rfl | exact ⟨rfl, rfl⟩
  simp only [Act.put, List.setIfInBounds_toArray, List.set_cons_zero, List.set_cons_succ]
  refine' wpT_det (o := ⟨some 50, Op.binOp BinOp.neq 2 (Operand.tmp 48) (Operand.tmp 49) 2, 4, "l05_sparse.go:26", #[{ on := 39, ground := Ground.data }, { on := 40, ground := Ground.data }, { on := 33, ground := Ground.guard }], some (33, false)⟩) rfl (by rfl) (by rfl) (fun w' hw' => ?_) ?_; rotate_left
  · go_simp <;> first | rfl | exact ⟨rfl, rfl⟩
  simp only [Act.put, List.setIfInBounds_toArray, List.set_cons_zero, List.set_cons_succ]
  refine' wpT_det (o := ⟨some 51, Op.pick (Operand.tmp 42) (Operand.const (Value.bool true)) (Operand.tmp 50), 4, "l05_sparse.go:26", #[{ on := 33, ground := Ground.data }, { on := 41, ground := Ground.data }], none⟩) rfl (by rfl) (by rfl) (fun w' hw' => ?_) ?_; rotate_left
  · go_simp <;> first | rfl | exact ⟨rfl, rfl⟩
  simp only [Act.put, List.setIfInBounds_toArray, List.set_cons_zero, List.set_cons_succ]
  refine wpT_nil (fun w' hw' hF => ?_)
  refine wpList_nil ?_
  replace hx0 := hx0.trans hw'.undrew
  replace ba := ba.ext hw'.undrew
  have A_ := hw'
  clear hF hw' hc hc' a0 a1 a2 a3
  have a0 := ba.cell 0 rfl
  have a1 := ba.cell 1 rfl
  have a2 := ba.cell 2 rfl
  have a3 := ba.cell 3 rfl
  clear A_
  go_wp2_with fail
  refine (isSorted_any _ n ca st _ (hr.below hx0)).mono ?_
  rintro e w2 ⟨rfl, hx⟩
  rw [h7]
  replace hx0 := hx0.trans hx
  replace ba := ba.ext hx
  clear hx a0 a1 a2 a3
  have a0 := ba.cell 0 rfl
  have a2 := ba.cell 2 rfl
  go_wp2_with fail
  refine (allIn_any B m cb co 0 (sd - 1) _ (hq.below hx0)).mono ?_
  rintro e w3 ⟨rfl, hx⟩
  rw [h8]
  replace hx0 := hx0.trans hx
  replace ba := ba.ext hx
  clear hx a0 a2
  have a3 := ba.cell 3 rfl
  go_wp2_with fail
  refine (areFinite_any V p cv va _ (hv.below hx0)).mono ?_
  rintro e w4 ⟨rfl, hx⟩
  rw [h9]
  replace hx0 := hx0.trans hx
  replace ba := ba.ext hx
  clear hx a3
  have a0 := ba.cell 0 rfl
  go_wp2_with fail
  rename World => wZ
  go_loopw [73] (fun u wr => ∃ i : Nat, (i : Int) ≤ sd ∧ u = .int .i64 i ∧ Hid (∀ i' k : Nat, i' < i → rd st i' ≤ k → (k : Int) + 1 < rd st ((i' : Int) + 1) → rd co k < rd co ((k : Int) + 1)) ∧ Ext wZ wr) (fun u _ => sd.toNat - (intOf u).toNat)
  case atStart => exact ⟨0, by omega, rfl, fun i' k h => by omega, Ext.refl _⟩
  case round =>
    rename World => wA
    obtain ⟨i, hi, rfl, hinv, hx⟩ := hrel
    have bA := ba.ext hx
    have xA := hx0.trans hx
    clear a0
    have a0 := bA.cell 0 rfl
    have a1 := bA.cell 1 rfl
    have a2 := bA.cell 2 rfl
    by_cases hlt : (i : Int) < sd
    · have g1 : IntKind.i64.wrap ((i : Int) + 1) = (i : Int) + 1 := IntWalk.i64_in _ (by omega)
      have r0 := KR.out i (by omega)
      have r1 := KR.out (i + 1) (by omega)
      have e1 : ((i + 1 : Nat) : Int) = (i : Int) + 1 := by omega
      rw [e1] at r1
      obtain ⟨s0, hs0⟩ : ∃ s0 : Nat, rd st i = s0 := ⟨(rd st i).toNat, by omega⟩
      obtain ⟨s1, hs1⟩ : ∃ s1 : Nat, rd st ((i : Int) + 1) = s1 := ⟨(rd st ((i : Int) + 1)).toNat, by omega⟩
      have f1 : (i : Int) < n := by omega
      have f2 : (i : Int) + 1 < n := by have := H2.out; omega
      have q1 := (hr.below xA).int i (by omega) f1
      have q2 := (hr.below xA).int ((i : Int) + 1) (by omega) f2
      obtain ⟨ad1, had, hc⟩ := q1
      obtain rfl := Option.some.inj had
      clear had
      obtain ⟨ad', had, hc1⟩ := q2
      obtain rfl := Option.some.inj had
      rw [hs0] at hc r0
      rw [hs1] at hc1 r1
      have HS0 := Lib.hid hs0
      have HS1 := Lib.hid hs1
      have g2 : IntKind.i64.wrap ((s0 : Int) + 1) = (s0 : Int) + 1 := IntWalk.i64_in _ (by omega)
      clear had hs0 hs1 e1
      rw [Int.toNat_natCast] at hc
      have hc1' := hc1
      rw [show ((i : Int) + 1).toNat = i + 1 by omega, Addr.add_succ'] at hc1'
      go_wp2_with fail
      go_loopw [5] (fun u wr => ∃ k : Nat, s0 + 1 ≤ k ∧ k ≤ m + 1 ∧ u = .int .i64 k ∧ Hid (∀ k' : Nat, s0 ≤ k' → k' + 1 < k → rd co k' < rd co ((k' : Int) + 1)) ∧ Ext wA wr) (fun u _ => m + 1 - (intOf u).toNat)
      case atStart => exact ⟨s0 + 1, Nat.le_refl _, by omega, by go_num, fun k' h1 h2 => by omega, Ext.refl _⟩
      case round =>
        rename World => wB
        obtain ⟨k, hk0, hk1, rfl, hin, hxB⟩ := hrel
        have bB := bA.ext hxB
        have xB := xA.trans hxB
        replace hc := hxB.cell hc
        replace hc1 := hxB.cell hc1
        replace hc1' := hxB.cell hc1'
        clear a0 a1 a2
        have a1 := bB.cell 1 rfl
        have a2 := bB.cell 2 rfl
        by_cases hlk : (k : Int) < s1
        · have k1 : 1 ≤ (k : Int) := by omega
          have k2 : (k : Int) - 1 < m := by omega
          have k3 : (k : Int) < m := by omega
          have g3 : IntKind.i64.wrap ((k : Int) - 1) = (k : Int) - 1 := IntWalk.i64_in _ (by omega)
          have g4 : IntKind.i64.wrap ((k : Int) + 1) = (k : Int) + 1 := IntWalk.i64_in _ (by omega)
          have q1 := (hq.below xB).int k (by omega) k3
          have q2 := (hq.below xB).int ((k : Int) - 1) (by omega) k2
          obtain ⟨ad2, rfl, hd⟩ := q1
          obtain ⟨ad', had, hd1⟩ := q2
          obtain rfl := Option.some.inj had
          clear had
          rw [Int.pred_toNat] at hd1
          simp only [Int.toNat_natCast] at hd hd1
          by_cases hge : rd co ((k : Int) - 1) ≥ rd co k
          · have hno : isSp sd st co va = false := isSp_not fun h => by
              have := h.s10 i (k - 1) hlt (by have := HS0.out; omega) (by have := HS1.out; omega)
              have e1 : ((k - 1 : Nat) : Int) = (k : Int) - 1 := by omega
              rw [e1] at this
              have e2 : (k : Int) - 1 + 1 = k := by omega
              rw [e2] at this
              omega
            have hge' : decide (rd co ((k : Int) - 1) ≥ rd co k) = true := decide_eq_true hge
            go_wp2_with fail
            refine wp_region_T (cs := []) [0, 1, 2, 3, 4, 5, 6, 7, 8, 9, 10, 11] [] [] [] (fun _ _ => False) (fun _ _ _ => True) (by kernel_rfl) (by kernel_rfl) (fun _ _ _ _ _ _ => trivial) ?_
            refine' wpT_det (o := ⟨some 92, Op.fieldAddr 27 (Operand.tmp 1) 2, 0, "l05_sparse.go:34", #[], none⟩) rfl (by rfl) (by rfl) (fun w' hw' => ?_) ?_; rotate_left
            · go_simp <;> first | rfl | exact ⟨rfl, rfl⟩
            simp only [Act.put, List.setIfInBounds_toArray, List.set_cons_zero, List.set_cons_succ]
            refine' wpT_det (o := ⟨some 93, Op.load 22 (Operand.tmp 92), 22, "l05_sparse.go:34", #[{ on := 0, ground := Ground.data }], none⟩) rfl (by rfl) (by rfl) (fun w' hw' => ?_) ?_; rotate_left
            · have a2_ := Ext.cell hw' a2; have hd_ := Ext.cell hw' hd; have hd1_ := Ext.cell hw' hd1; go_simp <;> first | rfl | exact ⟨rfl, rfl⟩
            simp only [Act.put, List.setIfInBounds_toArray, List.set_cons_zero, List.set_cons_succ]
            refine' wpT_det (o := ⟨some 94, Op.move (Operand.tmp 5), 2, "l05_sparse.go:34", #[], none⟩) rfl (by rfl) (by rfl) (fun w' hw' => ?_) ?_; rotate_left
            · go_simp <;> first | rfl | exact ⟨rfl, rfl⟩
            simp only [Act.put, List.setIfInBounds_toArray, List.set_cons_zero, List.set_cons_succ]
            refine' wpT_det (o := ⟨some 95, Op.binOp BinOp.sub 2 (Operand.tmp 94) (Operand.const (Value.int IntKind.i64 1)) 2, 2, "l05_sparse.go:34", #[{ on := 2, ground := Ground.data }], none⟩) rfl (by rfl) (by rfl) (fun w' hw' => ?_) ?_; rotate_left
            · go_simp <;> first | rfl | exact ⟨rfl, rfl⟩
            simp only [Act.put, List.setIfInBounds_toArray, List.set_cons_zero, List.set_cons_succ]
            refine' wpT_det (o := ⟨some 96, Op.indexAddr 22 (Operand.tmp 93) (Operand.tmp 95), 0, "l05_sparse.go:34", #[{ on := 1, ground := Ground.data }, { on := 3, ground := Ground.data }], none⟩) rfl (by rfl) (by rfl) (fun w' hw' => ?_) ?_; rotate_left
            · go_simp <;> first | rfl | exact ⟨rfl, rfl⟩
            simp only [Act.put, List.setIfInBounds_toArray, List.set_cons_zero, List.set_cons_succ]
            refine' wpT_det (o := ⟨some 97, Op.load 2 (Operand.tmp 96), 2, "l05_sparse.go:34", #[{ on := 4, ground := Ground.data }], none⟩) rfl (by rfl) (by rfl) (fun w' hw' => ?_) ?_; rotate_left
            · have a2_ := Ext.cell hw' a2; have hd_ := Ext.cell hw' hd; have hd1_ := Ext.cell hw' hd1; go_simp <;> first | rfl | exact ⟨rfl, rfl⟩
            simp only [Act.put, List.setIfInBounds_toArray, List.set_cons_zero, List.set_cons_succ]
            refine' wpT_det (o := ⟨some 98, Op.fieldAddr 27 (Operand.tmp 1) 2, 0, "l05_sparse.go:34", #[], none⟩) rfl (by rfl) (by rfl) (fun w' hw' => ?_) ?_; rotate_left
            · go_simp <;> first | rfl | exact ⟨rfl, rfl⟩
            simp only [Act.put, List.setIfInBounds_toArray, List.set_cons_zero, List.set_cons_succ]
            refine' wpT_det (o := ⟨some 99, Op.load 22 (Operand.tmp 98), 22, "l05_sparse.go:34", #[{ on := 6, ground := Ground.data }], none⟩) rfl (by rfl) (by rfl) (fun w' hw' => ?_) ?_; rotate_left
            · have a2_ := Ext.cell hw' a2; have hd_ := Ext.cell hw' hd; have hd1_ := Ext.cell hw' hd1; go_simp <;> first | rfl | exact ⟨rfl, rfl⟩
            simp only [Act.put, List.setIfInBounds_toArray, List.set_cons_zero, List.set_cons_succ]
            refine' wpT_det (o := ⟨some 100, Op.move (Operand.tmp 5), 2, "l05_sparse.go:34", #[], none⟩) rfl (by rfl) (by rfl) (fun w' hw' => ?_) ?_; rotate_left
            · go_simp <;> first | rfl | exact ⟨rfl, rfl⟩
            simp only [Act.put, List.setIfInBounds_toArray, List.set_cons_zero, List.set_cons_succ]
            refine' wpT_det (o := ⟨some 101, Op.indexAddr 22 (Operand.tmp 99) (Operand.tmp 100), 0, "l05_sparse.go:34", #[{ on := 7, ground := Ground.data }, { on := 8, ground := Ground.data }], none⟩) rfl (by rfl) (by rfl) (fun w' hw' => ?_) ?_; rotate_left
            · go_simp <;> first | rfl | exact ⟨rfl, rfl⟩
            simp only [Act.put, List.setIfInBounds_toArray, List.set_cons_zero, List.set_cons_succ]
            refine' wpT_det (o := ⟨some 102, Op.load 2 (Operand.tmp 101), 2, "l05_sparse.go:34", #[{ on := 9, ground := Ground.data }], none⟩) rfl (by rfl) (by rfl) (fun w' hw' => ?_) ?_; rotate_left
            · have a2_ := Ext.cell hw' a2; have hd_ := Ext.cell hw' hd; have hd1_ := Ext.cell hw' hd1; go_simp <;> first | rfl | exact ⟨rfl, rfl⟩
            simp only [Act.put, List.setIfInBounds_toArray, List.set_cons_zero, List.set_cons_succ]
            refine' wpT_det (o := ⟨some 103, Op.binOp BinOp.geq 2 (Operand.tmp 97) (Operand.tmp 102) 2, 4, "l05_sparse.go:34", #[{ on := 5, ground := Ground.data }, { on := 10, ground := Ground.data }], none⟩) rfl (by rfl) (by rfl) (fun w' hw' => ?_) ?_; rotate_left
            · go_simp <;> first | rfl | exact ⟨rfl, rfl⟩
            simp only [Act.put, List.setIfInBounds_toArray, List.set_cons_zero, List.set_cons_succ]
            refine wpT_nil (fun w' hw' hF => ?_)
            refine wpList_nil ?_
            go_wp2_with fail
            go_ret
            exact ⟨ret_bool (by rw [Hres.out, hno]), xB.trans hw'.undrew⟩
          · have hge' : decide (rd co ((k : Int) - 1) ≥ rd co k) = false := decide_eq_false hge
            have HG := Lib.hid hge
            go_wp2_with fail
            refine wp_region_T (cs := []) [0, 1, 2, 3, 4, 5, 6, 7, 8, 9, 10, 11] [] [] [] (fun _ _ => False) (fun _ _ _ => True) (by kernel_rfl) (by kernel_rfl) (fun _ _ _ _ _ _ => trivial) ?_
            refine' wpT_det (o := ⟨some 92, Op.fieldAddr 27 (Operand.tmp 1) 2, 0, "l05_sparse.go:34", #[], none⟩) rfl (by rfl) (by rfl) (fun w' hw' => ?_) ?_; rotate_left
            · go_simp <;> first | rfl | exact ⟨rfl, rfl⟩
            simp only [Act.put, List.setIfInBounds_toArray, List.set_cons_zero, List.set_cons_succ]
            refine' wpT_det (o := ⟨some 93, Op.load 22 (Operand.tmp 92), 22, "l05_sparse.go:34", #[{ on := 0, ground := Ground.data }], none⟩) rfl (by rfl) (by rfl) (fun w' hw' => ?_) ?_; rotate_left
            · have a2_ := Ext.cell hw' a2; have hd_ := Ext.cell hw' hd; have hd1_ := Ext.cell hw' hd1; go_simp <;> first | rfl | exact ⟨rfl, rfl⟩
            simp only [Act.put, List.setIfInBounds_toArray, List.set_cons_zero, List.set_cons_succ]
            refine' wpT_det (o := ⟨some 94, Op.move (Operand.tmp 5), 2, "l05_sparse.go:34", #[], none⟩) rfl (by rfl) (by rfl) (fun w' hw' => ?_) ?_; rotate_left
            · go_simp <;> first | rfl | exact ⟨rfl, rfl⟩
            simp only [Act.put, List.setIfInBounds_toArray, List.set_cons_zero, List.set_cons_succ]
            refine' wpT_det (o := ⟨some 95, Op.binOp BinOp.sub 2 (Operand.tmp 94) (Operand.const (Value.int IntKind.i64 1)) 2, 2, "l05_sparse.go:34", #[{ on := 2, ground := Ground.data }], none⟩) rfl (by rfl) (by rfl) (fun w' hw' => ?_) ?_; rotate_left
            · go_simp <;> first | rfl | exact ⟨rfl, rfl⟩
            simp only [Act.put, List.setIfInBounds_toArray, List.set_cons_zero, List.set_cons_succ]
            refine' wpT_det (o := ⟨some 96, Op.indexAddr 22 (Operand.tmp 93) (Operand.tmp 95), 0, "l05_sparse.go:34", #[{ on := 1, ground := Ground.data }, { on := 3, ground := Ground.data }], none⟩) rfl (by rfl) (by rfl) (fun w' hw' => ?_) ?_; rotate_left
            · go_simp <;> first | rfl | exact ⟨rfl, rfl⟩
            simp only [Act.put, List.setIfInBounds_toArray, List.set_cons_zero, List.set_cons_succ]
            refine' wpT_det (o := ⟨some 97, Op.load 2 (Operand.tmp 96), 2, "l05_sparse.go:34", #[{ on := 4, ground := Ground.data }], none⟩) rfl (by rfl) (by rfl) (fun w' hw' => ?_) ?_; rotate_left
            · have a2_ := Ext.cell hw' a2; have hd_ := Ext.cell hw' hd; have hd1_ := Ext.cell hw' hd1; go_simp <;> first | rfl | exact ⟨rfl, rfl⟩
            simp only [Act.put, List.setIfInBounds_toArray, List.set_cons_zero, List.set_cons_succ]
            refine' wpT_det (o := ⟨some 98, Op.fieldAddr 27 (Operand.tmp 1) 2, 0, "l05_sparse.go:34", #[], none⟩) rfl (by rfl) (by rfl) (fun w' hw' => ?_) ?_; rotate_left
            · go_simp <;> first | rfl | exact ⟨rfl, rfl⟩
            simp only [Act.put, List.setIfInBounds_toArray, List.set_cons_zero, List.set_cons_succ]
            refine' wpT_det (o := ⟨some 99, Op.load 22 (Operand.tmp 98), 22, "l05_sparse.go:34", #[{ on := 6, ground := Ground.data }], none⟩) rfl (by rfl) (by rfl) (fun w' hw' => ?_) ?_; rotate_left
            · have a2_ := Ext.cell hw' a2; have hd_ := Ext.cell hw' hd; have hd1_ := Ext.cell hw' hd1; go_simp <;> first | rfl | exact ⟨rfl, rfl⟩
            simp only [Act.put, List.setIfInBounds_toArray, List.set_cons_zero, List.set_cons_succ]
            refine' wpT_det (o := ⟨some 100, Op.move (Operand.tmp 5), 2, "l05_sparse.go:34", #[], none⟩) rfl (by rfl) (by rfl) (fun w' hw' => ?_) ?_; rotate_left
            · go_simp <;> first | rfl | exact ⟨rfl, rfl⟩
            simp only [Act.put, List.setIfInBounds_toArray, List.set_cons_zero, List.set_cons_succ]
            refine' wpT_det (o := ⟨some 101, Op.indexAddr 22 (Operand.tmp 99) (Operand.tmp 100), 0, "l05_sparse.go:34", #[{ on := 7, ground := Ground.data }, { on := 8, ground := Ground.data }], none⟩) rfl (by rfl) (by rfl) (fun w' hw' => ?_) ?_; rotate_left
            · go_simp <;> first | rfl | exact ⟨rfl, rfl⟩
            simp only [Act.put, List.setIfInBounds_toArray, List.set_cons_zero, List.set_cons_succ]
            refine' wpT_det (o := ⟨some 102, Op.load 2 (Operand.tmp 101), 2, "l05_sparse.go:34", #[{ on := 9, ground := Ground.data }], none⟩) rfl (by rfl) (by rfl) (fun w' hw' => ?_) ?_; rotate_left
            · have a2_ := Ext.cell hw' a2; have hd_ := Ext.cell hw' hd; have hd1_ := Ext.cell hw' hd1; go_simp <;> first | rfl | exact ⟨rfl, rfl⟩
            simp only [Act.put, List.setIfInBounds_toArray, List.set_cons_zero, List.set_cons_succ]
            refine' wpT_det (o := ⟨some 103, Op.binOp BinOp.geq 2 (Operand.tmp 97) (Operand.tmp 102) 2, 4, "l05_sparse.go:34", #[{ on := 5, ground := Ground.data }, { on := 10, ground := Ground.data }], none⟩) rfl (by rfl) (by rfl) (fun w' hw' => ?_) ?_; rotate_left
            · go_simp <;> first | rfl | exact ⟨rfl, rfl⟩
            simp only [Act.put, List.setIfInBounds_toArray, List.set_cons_zero, List.set_cons_succ]
            refine wpT_nil (fun w' hw' hF => ?_)
            refine wpList_nil ?_
            go_wp2_with fail
            go_roundw
            case rel =>
              refine ⟨k + 1, by omega, by omega, by go_num, fun k' h1 h2 => ?_, hxB.trans hw'.undrew⟩
              by_cases e : k' + 1 < k
              · exact hin.out k' h1 e
              · have e1 : (k' : Int) = (k : Int) - 1 := by omega
                rw [e1]
                have e2 : (k : Int) - 1 + 1 = k := by omega
                rw [e2]
                have := HG.out
                omega
            case measure => simp [intOf]; omega
        · go_wp2_with fail
          go_roundw
          case rel =>
            refine ⟨i + 1, by omega, by go_num, fun i' k' h1 h2 h3 => ?_, hx.trans hxB⟩
            by_cases e : i' = i
            · subst e
              rw [HS0.out] at h2
              rw [HS1.out] at h3
              exact hin.out k' (by omega) (by omega)
            · exact hinv.out i' k' (by omega) h2 h3
          case measure => simp [intOf]; omega
    · go_wp2_with fail
      go_ret
      exact ⟨ret_bool (by rw [Hres.out]; exact (KZ.out fun i' k h1 h2 h3 => hinv.out i' k (by omega) h2 h3).symm), xA⟩

end Go.Proofs.Ytkifpligpobiaaa
