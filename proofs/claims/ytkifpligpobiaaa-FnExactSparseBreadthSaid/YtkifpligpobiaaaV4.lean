
import Derived.Test.YtkifpligpobiaaaV3
set_option linter.unusedVariables false
set_option linter.unusedSimpArgs false

namespace Go.Proofs.Ytkifpligpobiaaa

open Go.RowKit


set_option maxRecDepth 20000 in
set_option maxHeartbeats 8000000 in
theorem l05Is_good (b : Nat) (sd : Int) (A : Option Addr) (n ca : Nat) (B : Option Addr) (m cb : Nat) (V : Option Addr) (p cv : Nat) (st co : List Int) (va : List Nat) (w : World) (hgood : Frm sd n m p st va) (ha : SAt w b sd A n ca B m cb V p cv st co va) :
    Calls Try.prog 71 #[.pointer (some ⟨b, 0, none⟩)] w fun e w' => e = .returned (.bool (isSp sd st co va)) ∧ Ext w w' := by
  obtain ⟨a0, a1, a2, a3, hr, hq, hv⟩ := ha
  have hs := hr.small
  have hs2 := hq.small
  have hs3 := hv.small
  have HA := Lib.hid hr.ilen
  have HB := Lib.hid hq.ilen
  have HV := Lib.hid hv.flen
  obtain ⟨res, hres⟩ : ∃ res, res = isSp sd st co va := ⟨_, rfl⟩
  rw [← hres]
  have Hres := Lib.hid hres
  clear hres
  obtain ⟨h1b, h2, h3m, h4, h9, h5, h6⟩ := hgood
  have h1 : inR 1 sd 32 = true := inR_iff.2 h1b
  have hw1 : IntKind.i64.wrap (sd + 1) = sd + 1 := IntWalk.i64_in _ (by omega)
  have h2' : ((n : Int) != sd + 1) = false := by simpa using h2
  have b1 : (0 : Int) < n := by omega
  have b2 : 0 < n := by omega
  have b3 : sd < (n : Int) := by omega
  have b4 : 0 ≤ sd := by omega
  have H2 := Lib.hid h2
  clear h2
  have h3n : ¬ 512 < m := by omega
  have h3i : ¬ (512 : Int) < m := by omega
  have h3d : decide ((512 : Int) < m) = false := decide_eq_false h3i
  have h4' : ((p : Int) != m) = false := by simpa using h4
  have H4 := Lib.hid h4
  clear h4
  have h5' : (rd st 0 != 0) = false := by simpa using h5
  have H5 := Lib.hid h5
  clear h5
  have h6' : (rd st sd != m) = false := by simpa using h6
  have H6 := Lib.hid h6
  clear h6
  have hw2 : IntKind.i64.wrap (sd - 1) = sd - 1 := IntWalk.i64_in _ (by omega)
  go_enter Try.func71, Try.ntmps71
  go_upto_region 1 with (fail)
  go_upto_region 2 with (fail)
  refine wp_region_T (cs := []) [0, 1, 2, 3, 4, 5, 6, 7, 8, 9, 10, 11, 12, 13, 14, 15, 16, 17, 18, 19, 20, 21, 22, 23, 24, 25, 26, 27, 28, 29, 30, 31, 32, 33, 34, 35, 36, 37, 38, 39] [] [4, 37] [] (fun i__ v => match i__ with | 4 => v = (.bool true) | 37 => v = (.bool true) | _ => False) (fun _ _ _ => True) (by kernel_rfl) (by kernel_rfl) (fun _ _ _ _ _ _ => trivial) ?_
  refine' wpT_det (o := ⟨some 11, Op.move (Operand.tmp 0), 68, "l05_sparse.go:8", #[], none⟩) rfl (by rfl) (by rfl) (fun w' hw' => ?_) ?_; rotate_left
  · go_simp <;> first | rfl | exact ⟨rfl, rfl⟩
  simp only [Act.put, List.setIfInBounds_toArray, List.set_cons_zero, List.set_cons_succ]
  refine' wpT_det (o := ⟨some 12, Op.nilCheck (Operand.tmp 11), 0, "l05_sparse.go:8", #[{ on := 0, ground := Ground.data }], none⟩) rfl (by rfl) (by rfl) (fun w' hw' => ?_) ?_; rotate_left
  · go_simp <;> first | rfl | exact ⟨rfl, rfl⟩
  simp only [Act.put, List.setIfInBounds_toArray, List.set_cons_zero, List.set_cons_succ]
  refine' wpT_det (o := ⟨some 13, Op.fieldAddr 27 (Operand.tmp 12) 0, 0, "l05_sparse.go:8", #[{ on := 1, ground := Ground.data }], none⟩) rfl (by rfl) (by rfl) (fun w' hw' => ?_) ?_; rotate_left
  · go_simp <;> first | rfl | exact ⟨rfl, rfl⟩
  simp only [Act.put, List.setIfInBounds_toArray, List.set_cons_zero, List.set_cons_succ]
  refine' wpT_det (o := ⟨some 14, Op.load 2 (Operand.tmp 13), 2, "l05_sparse.go:8", #[{ on := 2, ground := Ground.data }], none⟩) rfl (by rfl) (by rfl) (fun w' hw' => ?_) ?_; rotate_left
  · have a0_ := Ext.cell hw' a0; have a1_ := Ext.cell hw' a1; have a2_ := Ext.cell hw' a2; have a3_ := Ext.cell hw' a3; go_simp <;> first | rfl | exact ⟨rfl, rfl⟩
  simp only [Act.put, List.setIfInBounds_toArray, List.set_cons_zero, List.set_cons_succ]
  refine wpT_nd (o := ⟨some 15, Op.call { callee := Callee.value (Operand.func 111), args := #[Operand.tmp 14, Operand.const (Value.int IntKind.i64 1), Operand.const (Value.int IntKind.i64 32)], argTypes := #[2, 2, 2] }, 4, "l05_sparse.go:8", #[{ on := 3, ground := Ground.data }], none⟩) rfl (by rfl) (by rfl) (fun w' hw' hF R__ hGo => ?_) ⟨_, rfl⟩ ?_
  · go_simp
    refine gives_enter rfl ?_
    refine (l00In_any _ _ _ _).mono ?_
    rintro e w2 ⟨rfl, rfl⟩
    exact ⟨_, rfl, hGo _ _ (Ext.refl _) (congrArg Value.bool h1) trivial⟩
  intro v hv
  obtain rfl : v = (.bool true) := hv
  simp only [Act.put, List.setIfInBounds_toArray, List.set_cons_zero, List.set_cons_succ]
  refine' wpT_det (o := ⟨some 16, Op.unOp UnOp.not 4 (Operand.tmp 15), 4, "l05_sparse.go:8", #[{ on := 4, ground := Ground.data }], none⟩) rfl (by rfl) (by rfl) (fun w' hw' => ?_) ?_; rotate_left
  · go_simp <;> first | rfl | exact ⟨rfl, rfl⟩
  simp only [Act.put, List.setIfInBounds_toArray, List.set_cons_zero, List.set_cons_succ]
  refine' wpT_det (o := ⟨some 17, Op.move (Operand.tmp 16), 4, "l05_sparse.go:8", #[{ on := 5, ground := Ground.data }, { on := 4, ground := Ground.chain }], none⟩) rfl (by rfl) (by rfl) (fun w' hw' => ?_) ?_; rotate_left
  · go_simp <;> first | rfl | exact ⟨rfl, rfl⟩
  simp only [Act.put, List.setIfInBounds_toArray, List.set_cons_zero, List.set_cons_succ]
  refine' wpT_det (o := ⟨some 18, Op.move (Operand.tmp 0), 68, "l05_sparse.go:8", #[{ on := 6, ground := Ground.guard }], some (6, false)⟩) rfl (by rfl) (by rfl) (fun w' hw' => ?_) ?_; rotate_left
  · go_simp <;> first | rfl | exact ⟨rfl, rfl⟩
  simp only [Act.put, List.setIfInBounds_toArray, List.set_cons_zero, List.set_cons_succ]
  refine' wpT_det (o := ⟨some 19, Op.nilCheck (Operand.tmp 18), 0, "l05_sparse.go:8", #[{ on := 7, ground := Ground.data }, { on := 6, ground := Ground.guard }], some (6, false)⟩) rfl (by rfl) (by rfl) (fun w' hw' => ?_) ?_; rotate_left
  · go_simp <;> first | rfl | exact ⟨rfl, rfl⟩
  simp only [Act.put, List.setIfInBounds_toArray, List.set_cons_zero, List.set_cons_succ]
  refine' wpT_det (o := ⟨some 20, Op.fieldAddr 27 (Operand.tmp 19) 1, 0, "l05_sparse.go:8", #[{ on := 8, ground := Ground.data }, { on := 6, ground := Ground.guard }], some (6, false)⟩) rfl (by rfl) (by rfl) (fun w' hw' => ?_) ?_; rotate_left
  · go_simp <;> first | rfl | exact ⟨rfl, rfl⟩
  simp only [Act.put, List.setIfInBounds_toArray, List.set_cons_zero, List.set_cons_succ]
  refine' wpT_det (o := ⟨some 21, Op.load 22 (Operand.tmp 20), 22, "l05_sparse.go:8", #[{ on := 9, ground := Ground.data }, { on := 6, ground := Ground.guard }], some (6, false)⟩) rfl (by rfl) (by rfl) (fun w' hw' => ?_) ?_; rotate_left
  · have a0_ := Ext.cell hw' a0; have a1_ := Ext.cell hw' a1; have a2_ := Ext.cell hw' a2; have a3_ := Ext.cell hw' a3; go_simp <;> first | rfl | exact ⟨rfl, rfl⟩
  simp only [Act.put, List.setIfInBounds_toArray, List.set_cons_zero, List.set_cons_succ]
  refine' wpT_det (o := ⟨some 22, Op.call { callee := Callee.builtin Builtin.len, args := #[Operand.tmp 21], argTypes := #[22] }, 3, "l05_sparse.go:8", #[{ on := 10, ground := Ground.data }, { on := 6, ground := Ground.guard }], some (6, false)⟩) rfl (by rfl) (by rfl) (fun w' hw' => ?_) ?_; rotate_left
  · go_simp <;> first | rfl | exact ⟨rfl, rfl⟩
  simp only [Act.put, List.setIfInBounds_toArray, List.set_cons_zero, List.set_cons_succ]
  refine' wpT_det (o := ⟨some 23, Op.move (Operand.tmp 0), 68, "l05_sparse.go:8", #[{ on := 6, ground := Ground.guard }], some (6, false)⟩) rfl (by rfl) (by rfl) (fun w' hw' => ?_) ?_; rotate_left
  · go_simp <;> first | rfl | exact ⟨rfl, rfl⟩
  simp only [Act.put, List.setIfInBounds_toArray, List.set_cons_zero, List.set_cons_succ]
  refine' wpT_det (o := ⟨some 24, Op.nilCheck (Operand.tmp 23), 0, "l05_sparse.go:8", #[{ on := 12, ground := Ground.data }, { on := 6, ground := Ground.guard }], some (6, false)⟩) rfl (by rfl) (by rfl) (fun w' hw' => ?_) ?_; rotate_left
  · go_simp <;> first | rfl | exact ⟨rfl, rfl⟩
  simp only [Act.put, List.setIfInBounds_toArray, List.set_cons_zero, List.set_cons_succ]
  refine' wpT_det (o := ⟨some 25, Op.fieldAddr 27 (Operand.tmp 24) 0, 0, "l05_sparse.go:8", #[{ on := 13, ground := Ground.data }, { on := 6, ground := Ground.guard }], some (6, false)⟩) rfl (by rfl) (by rfl) (fun w' hw' => ?_) ?_; rotate_left
  · go_simp <;> first | rfl | exact ⟨rfl, rfl⟩
  simp only [Act.put, List.setIfInBounds_toArray, List.set_cons_zero, List.set_cons_succ]
  refine' wpT_det (o := ⟨some 26, Op.load 2 (Operand.tmp 25), 2, "l05_sparse.go:8", #[{ on := 14, ground := Ground.data }, { on := 6, ground := Ground.guard }], some (6, false)⟩) rfl (by rfl) (by rfl) (fun w' hw' => ?_) ?_; rotate_left
  · have a0_ := Ext.cell hw' a0; have a1_ := Ext.cell hw' a1; have a2_ := Ext.cell hw' a2; have a3_ := Ext.cell hw' a3; go_simp <;> first | rfl | exact ⟨rfl, rfl⟩
  simp only [Act.put, List.setIfInBounds_toArray, List.set_cons_zero, List.set_cons_succ]
  refine' wpT_det (o := ⟨some 27, Op.binOp BinOp.add 2 (Operand.tmp 26) (Operand.const (Value.int IntKind.i64 1)) 2, 2, "l05_sparse.go:8", #[{ on := 15, ground := Ground.data }, { on := 6, ground := Ground.guard }], some (6, false)⟩) rfl (by rfl) (by rfl) (fun w' hw' => ?_) ?_; rotate_left
  · go_simp <;> first | rfl | exact ⟨rfl, rfl⟩
  simp only [Act.put, List.setIfInBounds_toArray, List.set_cons_zero, List.set_cons_succ]
  refine' wpT_det (o := ⟨some 28, Op.binOp BinOp.neq 2 (Operand.tmp 22) (Operand.tmp 27) 2, 4, "l05_sparse.go:8", #[{ on := 11, ground := Ground.data }, { on := 16, ground := Ground.data }, { on := 6, ground := Ground.guard }], some (6, false)⟩) rfl (by rfl) (by rfl) (fun w' hw' => ?_) ?_; rotate_left
  · go_simp <;> first | rfl | exact ⟨rfl, rfl⟩
  simp only [Act.put, List.setIfInBounds_toArray, List.set_cons_zero, List.set_cons_succ]
  refine' wpT_det (o := ⟨some 29, Op.pick (Operand.tmp 17) (Operand.const (Value.bool true)) (Operand.tmp 28), 4, "l05_sparse.go:8", #[{ on := 6, ground := Ground.data }, { on := 17, ground := Ground.data }], none⟩) rfl (by rfl) (by rfl) (fun w' hw' => ?_) ?_; rotate_left
  · go_simp <;> first | rfl | exact ⟨rfl, rfl⟩
  simp only [Act.put, List.setIfInBounds_toArray, List.set_cons_zero, List.set_cons_succ]
  refine' wpT_det (o := ⟨some 30, Op.move (Operand.tmp 29), 4, "l05_sparse.go:8", #[{ on := 18, ground := Ground.data }, { on := 6, ground := Ground.chain }], none⟩) rfl (by rfl) (by rfl) (fun w' hw' => ?_) ?_; rotate_left
  · go_simp <;> first | rfl | exact ⟨rfl, rfl⟩
  simp only [Act.put, List.setIfInBounds_toArray, List.set_cons_zero, List.set_cons_succ]
  refine' wpT_det (o := ⟨some 31, Op.move (Operand.tmp 3), 3, "l05_sparse.go:8", #[{ on := 19, ground := Ground.guard }], some (19, false)⟩) rfl (by rfl) (by rfl) (fun w' hw' => ?_) ?_; rotate_left
  · go_simp <;> first | rfl | exact ⟨rfl, rfl⟩
  simp only [Act.put, List.setIfInBounds_toArray, List.set_cons_zero, List.set_cons_succ]
  refine' wpT_det (o := ⟨some 32, Op.binOp BinOp.gtr 3 (Operand.tmp 31) (Operand.const (Value.int IntKind.i64 512)) 3, 4, "l05_sparse.go:8", #[{ on := 20, ground := Ground.data }, { on := 19, ground := Ground.guard }], some (19, false)⟩) rfl (by rfl) (by rfl) (fun w' hw' => ?_) ?_; rotate_left
  · go_simp <;> first | rfl | exact ⟨rfl, rfl⟩
  simp only [Act.put, List.setIfInBounds_toArray, List.set_cons_zero, List.set_cons_succ]
  refine' wpT_det (o := ⟨some 33, Op.pick (Operand.tmp 30) (Operand.const (Value.bool true)) (Operand.tmp 32), 4, "l05_sparse.go:8", #[{ on := 19, ground := Ground.data }, { on := 21, ground := Ground.data }], none⟩) rfl (by rfl) (by rfl) (fun w' hw' => ?_) ?_; rotate_left
  · go_simp <;> first | rfl | exact ⟨rfl, rfl⟩
  simp only [Act.put, List.setIfInBounds_toArray, List.set_cons_zero, List.set_cons_succ]
  refine' wpT_det (o := ⟨some 34, Op.move (Operand.tmp 33), 4, "l05_sparse.go:8", #[{ on := 22, ground := Ground.data }, { on := 19, ground := Ground.chain }], none⟩) rfl (by rfl) (by rfl) (fun w' hw' => ?_) ?_; rotate_left
  · go_simp <;> first | rfl | exact ⟨rfl, rfl⟩
  simp only [Act.put, List.setIfInBounds_toArray, List.set_cons_zero, List.set_cons_succ]
  refine' wpT_det (o := ⟨some 35, Op.move (Operand.tmp 0), 68, "l05_sparse.go:8", #[{ on := 23, ground := Ground.guard }], some (23, false)⟩) rfl (by rfl) (by rfl) (fun w' hw' => ?_) ?_; rotate_left
  · go_simp <;> first | rfl | exact ⟨rfl, rfl⟩
  simp only [Act.put, List.setIfInBounds_toArray, List.set_cons_zero, List.set_cons_succ]
  refine' wpT_det (o := ⟨some 36, Op.nilCheck (Operand.tmp 35), 0, "l05_sparse.go:8", #[{ on := 24, ground := Ground.data }, { on := 23, ground := Ground.guard }], some (23, false)⟩) rfl (by rfl) (by rfl) (fun w' hw' => ?_) ?_; rotate_left
  · go_simp <;> first | rfl | exact ⟨rfl, rfl⟩
  simp only [Act.put, List.setIfInBounds_toArray, List.set_cons_zero, List.set_cons_succ]
  refine' wpT_det (o := ⟨some 37, Op.fieldAddr 27 (Operand.tmp 36) 3, 0, "l05_sparse.go:8", #[{ on := 25, ground := Ground.data }, { on := 23, ground := Ground.guard }], some (23, false)⟩) rfl (by rfl) (by rfl) (fun w' hw' => ?_) ?_; rotate_left
  · go_simp <;> first | rfl | exact ⟨rfl, rfl⟩
  simp only [Act.put, List.setIfInBounds_toArray, List.set_cons_zero, List.set_cons_succ]
  refine' wpT_det (o := ⟨some 38, Op.load 23 (Operand.tmp 37), 23, "l05_sparse.go:8", #[{ on := 26, ground := Ground.data }, { on := 23, ground := Ground.guard }], some (23, false)⟩) rfl (by rfl) (by rfl) (fun w' hw' => ?_) ?_; rotate_left
  · have a0_ := Ext.cell hw' a0; have a1_ := Ext.cell hw' a1; have a2_ := Ext.cell hw' a2; have a3_ := Ext.cell hw' a3; go_simp <;> first | rfl | exact ⟨rfl, rfl⟩
  simp only [Act.put, List.setIfInBounds_toArray, List.set_cons_zero, List.set_cons_succ]
  refine' wpT_det (o := ⟨some 39, Op.call { callee := Callee.builtin Builtin.len, args := #[Operand.tmp 38], argTypes := #[23] }, 3, "l05_sparse.go:8", #[{ on := 27, ground := Ground.data }, { on := 23, ground := Ground.guard }], some (23, false)⟩) rfl (by rfl) (by rfl) (fun w' hw' => ?_) ?_; rotate_left
  · go_simp <;> first | rfl | exact ⟨rfl, rfl⟩
  simp only [Act.put, List.setIfInBounds_toArray, List.set_cons_zero, List.set_cons_succ]
  refine' wpT_det (o := ⟨some 40, Op.move (Operand.tmp 3), 3, "l05_sparse.go:8", #[{ on := 23, ground := Ground.guard }], some (23, false)⟩) rfl (by rfl) (by rfl) (fun w' hw' => ?_) ?_; rotate_left
  · go_simp <;> first | rfl | exact ⟨rfl, rfl⟩
  simp only [Act.put, List.setIfInBounds_toArray, List.set_cons_zero, List.set_cons_succ]
  refine' wpT_det (o := ⟨some 41, Op.binOp BinOp.neq 3 (Operand.tmp 39) (Operand.tmp 40) 3, 4, "l05_sparse.go:8", #[{ on := 28, ground := Ground.data }, { on := 29, ground := Ground.data }, { on := 23, ground := Ground.guard }], some (23, false)⟩) rfl (by rfl) (by rfl) (fun w' hw' => ?_) ?_; rotate_left
  · go_simp <;> first | rfl | exact ⟨rfl, rfl⟩
  simp only [Act.put, List.setIfInBounds_toArray, List.set_cons_zero, List.set_cons_succ]
  refine' wpT_det (o := ⟨some 42, Op.pick (Operand.tmp 34) (Operand.const (Value.bool true)) (Operand.tmp 41), 4, "l05_sparse.go:8", #[{ on := 23, ground := Ground.data }, { on := 30, ground := Ground.data }], none⟩) rfl (by rfl) (by rfl) (fun w' hw' => ?_) ?_; rotate_left
  · go_simp <;> first | rfl | exact ⟨rfl, rfl⟩
  simp only [Act.put, List.setIfInBounds_toArray, List.set_cons_zero, List.set_cons_succ]
  refine' wpT_det (o := ⟨some 43, Op.move (Operand.tmp 42), 4, "l05_sparse.go:8", #[{ on := 31, ground := Ground.data }, { on := 23, ground := Ground.chain }], none⟩) rfl (by rfl) (by rfl) (fun w' hw' => ?_) ?_; rotate_left
  · go_simp <;> first | rfl | exact ⟨rfl, rfl⟩
  simp only [Act.put, List.setIfInBounds_toArray, List.set_cons_zero, List.set_cons_succ]
  refine' wpT_det (o := ⟨some 44, Op.move (Operand.tmp 0), 68, "l05_sparse.go:8", #[{ on := 32, ground := Ground.guard }], some (32, false)⟩) rfl (by rfl) (by rfl) (fun w' hw' => ?_) ?_; rotate_left
  · go_simp <;> first | rfl | exact ⟨rfl, rfl⟩
  simp only [Act.put, List.setIfInBounds_toArray, List.set_cons_zero, List.set_cons_succ]
  refine' wpT_det (o := ⟨some 45, Op.nilCheck (Operand.tmp 44), 0, "l05_sparse.go:8", #[{ on := 33, ground := Ground.data }, { on := 32, ground := Ground.guard }], some (32, false)⟩) rfl (by rfl) (by rfl) (fun w' hw' => ?_) ?_; rotate_left
  · go_simp <;> first | rfl | exact ⟨rfl, rfl⟩
  simp only [Act.put, List.setIfInBounds_toArray, List.set_cons_zero, List.set_cons_succ]
  refine' wpT_det (o := ⟨some 46, Op.fieldAddr 27 (Operand.tmp 45) 3, 0, "l05_sparse.go:8", #[{ on := 34, ground := Ground.data }, { on := 32, ground := Ground.guard }], some (32, false)⟩) rfl (by rfl) (by rfl) (fun w' hw' => ?_) ?_; rotate_left
  · go_simp <;> first | rfl | exact ⟨rfl, rfl⟩
  simp only [Act.put, List.setIfInBounds_toArray, List.set_cons_zero, List.set_cons_succ]
  refine' wpT_det (o := ⟨some 47, Op.load 23 (Operand.tmp 46), 23, "l05_sparse.go:8", #[{ on := 35, ground := Ground.data }, { on := 32, ground := Ground.guard }], some (32, false)⟩) rfl (by rfl) (by rfl) (fun w' hw' => ?_) ?_; rotate_left
  · have a0_ := Ext.cell hw' a0; have a1_ := Ext.cell hw' a1; have a2_ := Ext.cell hw' a2; have a3_ := Ext.cell hw' a3; go_simp <;> first | rfl | exact ⟨rfl, rfl⟩
  simp only [Act.put, List.setIfInBounds_toArray, List.set_cons_zero, List.set_cons_succ]
  refine wpT_nd (o := ⟨some 48, Op.call { callee := Callee.value (Operand.func 127), args := #[Operand.tmp 47], argTypes := #[23] }, 4, "l05_sparse.go:8", #[{ on := 36, ground := Ground.data }, { on := 32, ground := Ground.chain }, { on := 32, ground := Ground.guard }], some (32, false)⟩) rfl (by rfl) (by rfl) (fun w' hw' hF R__ hGo => ?_) ⟨_, rfl⟩ ?_
  · go_simp
    refine gives_enter rfl ?_
    refine (l02Finite_any _ _ _ _ _ (hv.below hw'.undrew)).mono ?_
    rintro e w2 ⟨rfl, hx⟩
    exact ⟨_, rfl, hGo _ _ hx (congrArg Value.bool h9) trivial⟩
  intro v hv
  obtain rfl : v = (.bool true) := hv
  simp only [Act.put, List.setIfInBounds_toArray, List.set_cons_zero, List.set_cons_succ]
  refine' wpT_det (o := ⟨some 49, Op.unOp UnOp.not 4 (Operand.tmp 48), 4, "l05_sparse.go:8", #[{ on := 37, ground := Ground.data }, { on := 32, ground := Ground.guard }], some (32, false)⟩) rfl (by rfl) (by rfl) (fun w' hw' => ?_) ?_; rotate_left
  · go_simp <;> first | rfl | exact ⟨rfl, rfl⟩
  simp only [Act.put, List.setIfInBounds_toArray, List.set_cons_zero, List.set_cons_succ]
  refine' wpT_det (o := ⟨some 50, Op.pick (Operand.tmp 43) (Operand.const (Value.bool true)) (Operand.tmp 49), 4, "l05_sparse.go:8", #[{ on := 32, ground := Ground.data }, { on := 38, ground := Ground.data }], none⟩) rfl (by rfl) (by rfl) (fun w' hw' => ?_) ?_; rotate_left
  · go_simp <;> first | rfl | exact ⟨rfl, rfl⟩
  simp only [Act.put, List.setIfInBounds_toArray, List.set_cons_zero, List.set_cons_succ]
  refine wpT_nil (fun w' hw' hF => ?_)
  refine wpList_nil ?_
  have hx0 := hw'.undrew
  clear hF hw'
  replace a0 := hx0.cell a0
  replace a1 := hx0.cell a1
  replace a2 := hx0.cell a2
  replace a3 := hx0.cell a3
  rename World => wY
  have ec0 := (hr.below hx0).int 0 (by omega) (by omega)
  have ec1 := (hr.below hx0).int sd (by omega) (by omega)
  obtain ⟨ad, rfl, hc⟩ := ec0
  obtain ⟨ad', had, hc'⟩ := ec1
  obtain rfl := Option.some.inj had
  clear had
  replace hc : wY.cell? ad = some (.int .i64 (rd st 0)) := by rwa [show ad.add (0 : Int).toNat = ad by cases ad; simp [Addr.add]] at hc
  go_upto_region 4 with (fail)
  refine wp_region_T (cs := []) [0, 1, 2, 3, 4, 5, 6, 7, 8, 9, 10, 11, 12, 13, 14, 15, 16, 17, 18, 19, 20] [] [] [] (fun _ _ => False) (fun _ _ _ => True) (by kernel_rfl) (by kernel_rfl) (fun _ _ _ _ _ _ => trivial) ?_
  refine' wpT_det (o := ⟨some 51, Op.move (Operand.tmp 0), 68, "l05_sparse.go:11", #[], none⟩) rfl (by rfl) (by rfl) (fun w' hw' => ?_) ?_; rotate_left
  · go_simp <;> first | rfl | exact ⟨rfl, rfl⟩
  simp only [Act.put, List.setIfInBounds_toArray, List.set_cons_zero, List.set_cons_succ]
  refine' wpT_det (o := ⟨some 52, Op.nilCheck (Operand.tmp 51), 0, "l05_sparse.go:11", #[{ on := 0, ground := Ground.data }], none⟩) rfl (by rfl) (by rfl) (fun w' hw' => ?_) ?_; rotate_left
  · go_simp <;> first | rfl | exact ⟨rfl, rfl⟩
  simp only [Act.put, List.setIfInBounds_toArray, List.set_cons_zero, List.set_cons_succ]
  refine' wpT_det (o := ⟨some 53, Op.fieldAddr 27 (Operand.tmp 52) 1, 0, "l05_sparse.go:11", #[{ on := 1, ground := Ground.data }], none⟩) rfl (by rfl) (by rfl) (fun w' hw' => ?_) ?_; rotate_left
  · go_simp <;> first | rfl | exact ⟨rfl, rfl⟩
  simp only [Act.put, List.setIfInBounds_toArray, List.set_cons_zero, List.set_cons_succ]
  refine' wpT_det (o := ⟨some 54, Op.load 22 (Operand.tmp 53), 22, "l05_sparse.go:11", #[{ on := 2, ground := Ground.data }], none⟩) rfl (by rfl) (by rfl) (fun w' hw' => ?_) ?_; rotate_left
  · have a0_ := Ext.cell hw' a0; have a1_ := Ext.cell hw' a1; have hc_ := Ext.cell hw' hc; have hc'_ := Ext.cell hw' hc'; go_simp <;> first | rfl | exact ⟨rfl, rfl⟩
  simp only [Act.put, List.setIfInBounds_toArray, List.set_cons_zero, List.set_cons_succ]
  refine' wpT_det (o := ⟨some 55, Op.indexAddr 22 (Operand.tmp 54) (Operand.const (Value.int IntKind.i64 0)), 0, "l05_sparse.go:11", #[{ on := 3, ground := Ground.data }], none⟩) rfl (by rfl) (by rfl) (fun w' hw' => ?_) ?_; rotate_left
  · go_simp <;> first | rfl | exact ⟨rfl, rfl⟩
  simp only [Act.put, List.setIfInBounds_toArray, List.set_cons_zero, List.set_cons_succ]
  refine' wpT_det (o := ⟨some 56, Op.load 2 (Operand.tmp 55), 2, "l05_sparse.go:11", #[{ on := 4, ground := Ground.data }], none⟩) rfl (by rfl) (by rfl) (fun w' hw' => ?_) ?_; rotate_left
  · have a0_ := Ext.cell hw' a0; have a1_ := Ext.cell hw' a1; have hc_ := Ext.cell hw' hc; have hc'_ := Ext.cell hw' hc'; go_simp <;> first | rfl | exact ⟨rfl, rfl⟩
  simp only [Act.put, List.setIfInBounds_toArray, List.set_cons_zero, List.set_cons_succ]
  refine' wpT_det (o := ⟨some 57, Op.binOp BinOp.neq 2 (Operand.tmp 56) (Operand.const (Value.int IntKind.i64 0)) 2, 4, "l05_sparse.go:11", #[{ on := 5, ground := Ground.data }], none⟩) rfl (by rfl) (by rfl) (fun w' hw' => ?_) ?_; rotate_left
  · go_simp <;> first | rfl | exact ⟨rfl, rfl⟩
  simp only [Act.put, List.setIfInBounds_toArray, List.set_cons_zero, List.set_cons_succ]
  refine' wpT_det (o := ⟨some 58, Op.move (Operand.tmp 57), 4, "l05_sparse.go:11", #[{ on := 6, ground := Ground.data }], none⟩) rfl (by rfl) (by rfl) (fun w' hw' => ?_) ?_; rotate_left
  · go_simp <;> first | rfl | exact ⟨rfl, rfl⟩
  simp only [Act.put, List.setIfInBounds_toArray, List.set_cons_zero, List.set_cons_succ]
  refine' wpT_det (o := ⟨some 59, Op.move (Operand.tmp 0), 68, "l05_sparse.go:11", #[{ on := 7, ground := Ground.guard }], some (7, false)⟩) rfl (by rfl) (by rfl) (fun w' hw' => ?_) ?_; rotate_left
  · go_simp <;> first | rfl | exact ⟨rfl, rfl⟩
  simp only [Act.put, List.setIfInBounds_toArray, List.set_cons_zero, List.set_cons_succ]
  refine' wpT_det (o := ⟨some 60, Op.nilCheck (Operand.tmp 59), 0, "l05_sparse.go:11", #[{ on := 8, ground := Ground.data }, { on := 7, ground := Ground.guard }], some (7, false)⟩) rfl (by rfl) (by rfl) (fun w' hw' => ?_) ?_; rotate_left
  · go_simp <;> first | rfl | exact ⟨rfl, rfl⟩
  simp only [Act.put, List.setIfInBounds_toArray, List.set_cons_zero, List.set_cons_succ]
  refine' wpT_det (o := ⟨some 61, Op.fieldAddr 27 (Operand.tmp 60) 1, 0, "l05_sparse.go:11", #[{ on := 9, ground := Ground.data }, { on := 7, ground := Ground.guard }], some (7, false)⟩) rfl (by rfl) (by rfl) (fun w' hw' => ?_) ?_; rotate_left
  · go_simp <;> first | rfl | exact ⟨rfl, rfl⟩
  simp only [Act.put, List.setIfInBounds_toArray, List.set_cons_zero, List.set_cons_succ]
  refine' wpT_det (o := ⟨some 62, Op.load 22 (Operand.tmp 61), 22, "l05_sparse.go:11", #[{ on := 10, ground := Ground.data }, { on := 7, ground := Ground.guard }], some (7, false)⟩) rfl (by rfl) (by rfl) (fun w' hw' => ?_) ?_; rotate_left
  · have a0_ := Ext.cell hw' a0; have a1_ := Ext.cell hw' a1; have hc_ := Ext.cell hw' hc; have hc'_ := Ext.cell hw' hc'; go_simp <;> first | rfl | exact ⟨rfl, rfl⟩
  simp only [Act.put, List.setIfInBounds_toArray, List.set_cons_zero, List.set_cons_succ]
  refine' wpT_det (o := ⟨some 63, Op.move (Operand.tmp 0), 68, "l05_sparse.go:11", #[{ on := 7, ground := Ground.guard }], some (7, false)⟩) rfl (by rfl) (by rfl) (fun w' hw' => ?_) ?_; rotate_left
  · go_simp <;> first | rfl | exact ⟨rfl, rfl⟩
  simp only [Act.put, List.setIfInBounds_toArray, List.set_cons_zero, List.set_cons_succ]
  refine' wpT_det (o := ⟨some 64, Op.nilCheck (Operand.tmp 63), 0, "l05_sparse.go:11", #[{ on := 12, ground := Ground.data }, { on := 7, ground := Ground.guard }], some (7, false)⟩) rfl (by rfl) (by rfl) (fun w' hw' => ?_) ?_; rotate_left
  · go_simp <;> first | rfl | exact ⟨rfl, rfl⟩
  simp only [Act.put, List.setIfInBounds_toArray, List.set_cons_zero, List.set_cons_succ]
  refine' wpT_det (o := ⟨some 65, Op.fieldAddr 27 (Operand.tmp 64) 0, 0, "l05_sparse.go:11", #[{ on := 13, ground := Ground.data }, { on := 7, ground := Ground.guard }], some (7, false)⟩) rfl (by rfl) (by rfl) (fun w' hw' => ?_) ?_; rotate_left
  · go_simp <;> first | rfl | exact ⟨rfl, rfl⟩
  simp only [Act.put, List.setIfInBounds_toArray, List.set_cons_zero, List.set_cons_succ]
  refine' wpT_det (o := ⟨some 66, Op.load 2 (Operand.tmp 65), 2, "l05_sparse.go:11", #[{ on := 14, ground := Ground.data }, { on := 7, ground := Ground.guard }], some (7, false)⟩) rfl (by rfl) (by rfl) (fun w' hw' => ?_) ?_; rotate_left
  · have a0_ := Ext.cell hw' a0; have a1_ := Ext.cell hw' a1; have hc_ := Ext.cell hw' hc; have hc'_ := Ext.cell hw' hc'; go_simp <;> first | rfl | exact ⟨rfl, rfl⟩
  simp only [Act.put, List.setIfInBounds_toArray, List.set_cons_zero, List.set_cons_succ]
  refine' wpT_det (o := ⟨some 67, Op.indexAddr 22 (Operand.tmp 62) (Operand.tmp 66), 0, "l05_sparse.go:11", #[{ on := 11, ground := Ground.data }, { on := 15, ground := Ground.data }, { on := 7, ground := Ground.guard }], some (7, false)⟩) rfl (by rfl) (by rfl) (fun w' hw' => ?_) ?_; rotate_left
  · go_simp <;> first | rfl | exact ⟨rfl, rfl⟩
  simp only [Act.put, List.setIfInBounds_toArray, List.set_cons_zero, List.set_cons_succ]
  refine' wpT_det (o := ⟨some 68, Op.load 2 (Operand.tmp 67), 2, "l05_sparse.go:11", #[{ on := 16, ground := Ground.data }, { on := 7, ground := Ground.guard }], some (7, false)⟩) rfl (by rfl) (by rfl) (fun w' hw' => ?_) ?_; rotate_left
  · have a0_ := Ext.cell hw' a0; have a1_ := Ext.cell hw' a1; have hc_ := Ext.cell hw' hc; have hc'_ := Ext.cell hw' hc'; go_simp <;> first | rfl | exact ⟨rfl, rfl⟩
  simp only [Act.put, List.setIfInBounds_toArray, List.set_cons_zero, List.set_cons_succ]
  refine' wpT_det (o := ⟨some 69, Op.move (Operand.tmp 3), 3, "l05_sparse.go:11", #[{ on := 7, ground := Ground.guard }], some (7, false)⟩) rfl (by rfl) (by rfl) (fun w' hw' => ?_) ?_; rotate_left
  · go_simp <;> first | rfl | exact ⟨rfl, rfl⟩
  simp only [Act.put, List.setIfInBounds_toArray, List.set_cons_zero, List.set_cons_succ]
  refine' wpT_det (o := ⟨some 70, Op.binOp BinOp.neq 2 (Operand.tmp 68) (Operand.tmp 69) 2, 4, "l05_sparse.go:11", #[{ on := 17, ground := Ground.data }, { on := 18, ground := Ground.data }, { on := 7, ground := Ground.guard }], some (7, false)⟩) rfl (by rfl) (by rfl) (fun w' hw' => ?_) ?_; rotate_left
  · go_simp <;> first | rfl | exact ⟨rfl, rfl⟩
  simp only [Act.put, List.setIfInBounds_toArray, List.set_cons_zero, List.set_cons_succ]
  refine' wpT_det (o := ⟨some 71, Op.pick (Operand.tmp 58) (Operand.const (Value.bool true)) (Operand.tmp 70), 4, "l05_sparse.go:11", #[{ on := 7, ground := Ground.data }, { on := 19, ground := Ground.data }], none⟩) rfl (by rfl) (by rfl) (fun w' hw' => ?_) ?_; rotate_left
  · go_simp <;> first | rfl | exact ⟨rfl, rfl⟩
  simp only [Act.put, List.setIfInBounds_toArray, List.set_cons_zero, List.set_cons_succ]
  refine wpT_nil (fun w' hw' hF => ?_)
  refine wpList_nil ?_
  replace hx0 := hx0.trans hw'.undrew
  have hx := hw'.undrew
  clear hF hw' hc hc'
  replace a0 := hx.cell a0
  replace a1 := hx.cell a1
  replace a2 := hx.cell a2
  clear a3 hx
  have KZ : Hid ((∀ i : Nat, (i : Int) < sd → rd st i ≤ rd st ((i : Int) + 1)) → (∀ k : Nat, k < m → 0 ≤ rd co k ∧ rd co k < sd) → (∀ i k : Nat, (i : Int) < sd → rd st i ≤ k → (k : Int) + 1 < rd st ((i : Int) + 1) → rd co k < rd co ((k : Int) + 1)) → isSp sd st co va = true) := fun h8 h99 h10 => isSp_iff.2 ⟨h1b, by rw [HA.out]; exact H2.out, by rw [HB.out]; omega, by rw [HV.out, HB.out]; have := H4.out; omega, h9, H5.out, by rw [HB.out]; exact H6.out, h8, by rw [HB.out]; exact h99, h10⟩
  go_wp2_with fail
  rename World => wZ
  go_loopw [4] (fun u wr => ∃ i : Nat, (i : Int) ≤ sd ∧ u = .int .i64 i ∧ Hid (∀ i' : Nat, i' < i → rd st i' ≤ rd st ((i' : Int) + 1)) ∧ Hid (0 ≤ rd st i ∧ rd st i ≤ m) ∧ Hid (∀ k : Nat, (k : Int) < rd st i → 0 ≤ rd co k ∧ rd co k < sd) ∧ Hid (∀ i' k : Nat, i' < i → rd st i' ≤ k → (k : Int) + 1 < rd st ((i' : Int) + 1) → rd co k < rd co ((k : Int) + 1)) ∧ Ext wZ wr) (fun u _ => sd.toNat - (intOf u).toNat)
  case atStart =>
    have e0 : rd st ((0 : Nat) : Int) = 0 := H5.out
    exact ⟨0, by omega, rfl, fun i' h => by omega, by show _ ∧ _; rw [e0]; omega, fun k h => by rw [e0] at h; omega, fun i' k h => by omega, Ext.refl _⟩
  case round =>
    rename World => wA
    obtain ⟨i, hi, rfl, hmon, hrg, hcol, hinv, hx⟩ := hrel
    have xA := hx0.trans hx
    replace a0 := hx.cell a0
    replace a1 := hx.cell a1
    replace a2 := hx.cell a2
    by_cases hlt : (i : Int) < sd
    · have g1 : IntKind.i64.wrap ((i : Int) + 1) = (i : Int) + 1 := IntWalk.i64_in _ (by omega)
      have r0 := hrg.out
      obtain ⟨s0, hs0⟩ : ∃ s0 : Nat, rd st i = s0 := ⟨(rd st i).toNat, by omega⟩
      obtain ⟨t1, ht1⟩ : ∃ t1 : Int, rd st ((i : Int) + 1) = t1 := ⟨_, rfl⟩
      have f1 : (i : Int) < n := by omega
      have f2 : (i : Int) + 1 < n := by have := H2.out; omega
      have q1 := (hr.below xA).int i (by omega) f1
      have q2 := (hr.below xA).int ((i : Int) + 1) (by omega) f2
      obtain ⟨ad1, had, hc⟩ := q1
      obtain rfl := Option.some.inj had
      clear had
      obtain ⟨ad', had, hc1⟩ := q2
      obtain rfl := Option.some.inj had
      clear had
      rw [hs0, Int.toNat_natCast] at hc
      rw [ht1, show ((i : Int) + 1).toNat = i + 1 by omega, Addr.add_succ'] at hc1
      rw [hs0] at r0
      have HS0 := Lib.hid hs0
      have HT1 := Lib.hid ht1
      clear hs0 ht1
      by_cases hd1 : t1 < s0
      · have hno : isSp sd st co va = false := isSp_not fun h => by have := h.s8 i hlt; rw [HS0.out, HT1.out] at this; omega
        have hdd : decide (t1 < s0) = true := decide_eq_true hd1
        go_wp2_with fail
        refine wp_region_T (cs := []) [0, 1, 2, 3, 4, 5, 6, 7, 8, 9, 10, 11, 12, 13, 14, 15, 16, 17, 18, 19, 20, 21, 22, 23, 24, 25, 26, 27] [] [] [] (fun _ _ => False) (fun _ _ _ => True) (by kernel_rfl) (by kernel_rfl) (fun _ _ _ _ _ _ => trivial) ?_
        refine' wpT_det (o := ⟨some 80, Op.move (Operand.tmp 0), 68, "l05_sparse.go:15", #[], none⟩) rfl (by rfl) (by rfl) (fun w' hw' => ?_) ?_; rotate_left
        · go_simp <;> first | rfl | exact ⟨rfl, rfl⟩
        simp only [Act.put, List.setIfInBounds_toArray, List.set_cons_zero, List.set_cons_succ]
        refine' wpT_det (o := ⟨some 81, Op.nilCheck (Operand.tmp 80), 0, "l05_sparse.go:15", #[{ on := 0, ground := Ground.data }], none⟩) rfl (by rfl) (by rfl) (fun w' hw' => ?_) ?_; rotate_left
        · go_simp <;> first | rfl | exact ⟨rfl, rfl⟩
        simp only [Act.put, List.setIfInBounds_toArray, List.set_cons_zero, List.set_cons_succ]
        refine' wpT_det (o := ⟨some 82, Op.fieldAddr 27 (Operand.tmp 81) 1, 0, "l05_sparse.go:15", #[{ on := 1, ground := Ground.data }], none⟩) rfl (by rfl) (by rfl) (fun w' hw' => ?_) ?_; rotate_left
        · go_simp <;> first | rfl | exact ⟨rfl, rfl⟩
        simp only [Act.put, List.setIfInBounds_toArray, List.set_cons_zero, List.set_cons_succ]
        refine' wpT_det (o := ⟨some 83, Op.load 22 (Operand.tmp 82), 22, "l05_sparse.go:15", #[{ on := 2, ground := Ground.data }], none⟩) rfl (by rfl) (by rfl) (fun w' hw' => ?_) ?_; rotate_left
        · have a1_ := Ext.cell hw' a1; have hc_ := Ext.cell hw' hc; have hc1_ := Ext.cell hw' hc1; go_simp <;> first | rfl | exact ⟨rfl, rfl⟩
        simp only [Act.put, List.setIfInBounds_toArray, List.set_cons_zero, List.set_cons_succ]
        refine' wpT_det (o := ⟨some 84, Op.move (Operand.tmp 4), 2, "l05_sparse.go:15", #[], none⟩) rfl (by rfl) (by rfl) (fun w' hw' => ?_) ?_; rotate_left
        · go_simp <;> first | rfl | exact ⟨rfl, rfl⟩
        simp only [Act.put, List.setIfInBounds_toArray, List.set_cons_zero, List.set_cons_succ]
        refine' wpT_det (o := ⟨some 85, Op.binOp BinOp.add 2 (Operand.tmp 84) (Operand.const (Value.int IntKind.i64 1)) 2, 2, "l05_sparse.go:15", #[{ on := 4, ground := Ground.data }], none⟩) rfl (by rfl) (by rfl) (fun w' hw' => ?_) ?_; rotate_left
        · go_simp <;> first | rfl | exact ⟨rfl, rfl⟩
        simp only [Act.put, List.setIfInBounds_toArray, List.set_cons_zero, List.set_cons_succ]
        refine' wpT_det (o := ⟨some 86, Op.indexAddr 22 (Operand.tmp 83) (Operand.tmp 85), 0, "l05_sparse.go:15", #[{ on := 3, ground := Ground.data }, { on := 5, ground := Ground.data }], none⟩) rfl (by rfl) (by rfl) (fun w' hw' => ?_) ?_; rotate_left
        · go_simp <;> first | rfl | exact ⟨rfl, rfl⟩
        simp only [Act.put, List.setIfInBounds_toArray, List.set_cons_zero, List.set_cons_succ]
        refine' wpT_det (o := ⟨some 87, Op.load 2 (Operand.tmp 86), 2, "l05_sparse.go:15", #[{ on := 6, ground := Ground.data }], none⟩) rfl (by rfl) (by rfl) (fun w' hw' => ?_) ?_; rotate_left
        · have a1_ := Ext.cell hw' a1; have hc_ := Ext.cell hw' hc; have hc1_ := Ext.cell hw' hc1; go_simp <;> first | rfl | exact ⟨rfl, rfl⟩
        simp only [Act.put, List.setIfInBounds_toArray, List.set_cons_zero, List.set_cons_succ]
        refine' wpT_det (o := ⟨some 88, Op.move (Operand.tmp 0), 68, "l05_sparse.go:15", #[], none⟩) rfl (by rfl) (by rfl) (fun w' hw' => ?_) ?_; rotate_left
        · go_simp <;> first | rfl | exact ⟨rfl, rfl⟩
        simp only [Act.put, List.setIfInBounds_toArray, List.set_cons_zero, List.set_cons_succ]
        refine' wpT_det (o := ⟨some 89, Op.nilCheck (Operand.tmp 88), 0, "l05_sparse.go:15", #[{ on := 8, ground := Ground.data }], none⟩) rfl (by rfl) (by rfl) (fun w' hw' => ?_) ?_; rotate_left
        · go_simp <;> first | rfl | exact ⟨rfl, rfl⟩
        simp only [Act.put, List.setIfInBounds_toArray, List.set_cons_zero, List.set_cons_succ]
        refine' wpT_det (o := ⟨some 90, Op.fieldAddr 27 (Operand.tmp 89) 1, 0, "l05_sparse.go:15", #[{ on := 9, ground := Ground.data }], none⟩) rfl (by rfl) (by rfl) (fun w' hw' => ?_) ?_; rotate_left
        · go_simp <;> first | rfl | exact ⟨rfl, rfl⟩
        simp only [Act.put, List.setIfInBounds_toArray, List.set_cons_zero, List.set_cons_succ]
        refine' wpT_det (o := ⟨some 91, Op.load 22 (Operand.tmp 90), 22, "l05_sparse.go:15", #[{ on := 10, ground := Ground.data }], none⟩) rfl (by rfl) (by rfl) (fun w' hw' => ?_) ?_; rotate_left
        · have a1_ := Ext.cell hw' a1; have hc_ := Ext.cell hw' hc; have hc1_ := Ext.cell hw' hc1; go_simp <;> first | rfl | exact ⟨rfl, rfl⟩
        simp only [Act.put, List.setIfInBounds_toArray, List.set_cons_zero, List.set_cons_succ]
        refine' wpT_det (o := ⟨some 92, Op.move (Operand.tmp 4), 2, "l05_sparse.go:15", #[], none⟩) rfl (by rfl) (by rfl) (fun w' hw' => ?_) ?_; rotate_left
        · go_simp <;> first | rfl | exact ⟨rfl, rfl⟩
        simp only [Act.put, List.setIfInBounds_toArray, List.set_cons_zero, List.set_cons_succ]
        refine' wpT_det (o := ⟨some 93, Op.indexAddr 22 (Operand.tmp 91) (Operand.tmp 92), 0, "l05_sparse.go:15", #[{ on := 11, ground := Ground.data }, { on := 12, ground := Ground.data }], none⟩) rfl (by rfl) (by rfl) (fun w' hw' => ?_) ?_; rotate_left
        · go_simp <;> first | rfl | exact ⟨rfl, rfl⟩
        simp only [Act.put, List.setIfInBounds_toArray, List.set_cons_zero, List.set_cons_succ]
        refine' wpT_det (o := ⟨some 94, Op.load 2 (Operand.tmp 93), 2, "l05_sparse.go:15", #[{ on := 13, ground := Ground.data }], none⟩) rfl (by rfl) (by rfl) (fun w' hw' => ?_) ?_; rotate_left
        · have a1_ := Ext.cell hw' a1; have hc_ := Ext.cell hw' hc; have hc1_ := Ext.cell hw' hc1; go_simp <;> first | rfl | exact ⟨rfl, rfl⟩
        simp only [Act.put, List.setIfInBounds_toArray, List.set_cons_zero, List.set_cons_succ]
        refine' wpT_det (o := ⟨some 95, Op.binOp BinOp.lss 2 (Operand.tmp 87) (Operand.tmp 94) 2, 4, "l05_sparse.go:15", #[{ on := 7, ground := Ground.data }, { on := 14, ground := Ground.data }], none⟩) rfl (by rfl) (by rfl) (fun w' hw' => ?_) ?_; rotate_left
        · go_simp <;> first | rfl | exact ⟨rfl, rfl⟩
        simp only [Act.put, List.setIfInBounds_toArray, List.set_cons_zero, List.set_cons_succ]
        refine' wpT_det (o := ⟨some 96, Op.move (Operand.tmp 95), 4, "l05_sparse.go:15", #[{ on := 15, ground := Ground.data }], none⟩) rfl (by rfl) (by rfl) (fun w' hw' => ?_) ?_; rotate_left
        · go_simp <;> first | rfl | exact ⟨rfl, rfl⟩
        simp only [Act.put, List.setIfInBounds_toArray, List.set_cons_zero, List.set_cons_succ]
        refine wpT_skip (o := ⟨some 97, Op.move (Operand.tmp 0), 68, "l05_sparse.go:15", #[{ on := 16, ground := Ground.guard }], some (16, false)⟩) rfl (by rfl) ?_
        simp only [Act.put, List.setIfInBounds_toArray, List.set_cons_zero, List.set_cons_succ]
        refine wpT_skip (o := ⟨some 98, Op.nilCheck (Operand.tmp 97), 0, "l05_sparse.go:15", #[{ on := 17, ground := Ground.data }, { on := 16, ground := Ground.guard }], some (16, false)⟩) rfl (by rfl) ?_
        simp only [Act.put, List.setIfInBounds_toArray, List.set_cons_zero, List.set_cons_succ]
        refine wpT_skip (o := ⟨some 99, Op.fieldAddr 27 (Operand.tmp 98) 1, 0, "l05_sparse.go:15", #[{ on := 18, ground := Ground.data }, { on := 16, ground := Ground.guard }], some (16, false)⟩) rfl (by rfl) ?_
        simp only [Act.put, List.setIfInBounds_toArray, List.set_cons_zero, List.set_cons_succ]
        refine wpT_skip (o := ⟨some 100, Op.load 22 (Operand.tmp 99), 22, "l05_sparse.go:15", #[{ on := 19, ground := Ground.data }, { on := 16, ground := Ground.guard }], some (16, false)⟩) rfl (by rfl) ?_
        simp only [Act.put, List.setIfInBounds_toArray, List.set_cons_zero, List.set_cons_succ]
        refine wpT_skip (o := ⟨some 101, Op.move (Operand.tmp 4), 2, "l05_sparse.go:15", #[{ on := 16, ground := Ground.guard }], some (16, false)⟩) rfl (by rfl) ?_
        simp only [Act.put, List.setIfInBounds_toArray, List.set_cons_zero, List.set_cons_succ]
        refine wpT_skip (o := ⟨some 102, Op.binOp BinOp.add 2 (Operand.tmp 101) (Operand.const (Value.int IntKind.i64 1)) 2, 2, "l05_sparse.go:15", #[{ on := 21, ground := Ground.data }, { on := 16, ground := Ground.guard }], some (16, false)⟩) rfl (by rfl) ?_
        simp only [Act.put, List.setIfInBounds_toArray, List.set_cons_zero, List.set_cons_succ]
        refine wpT_skip (o := ⟨some 103, Op.indexAddr 22 (Operand.tmp 100) (Operand.tmp 102), 0, "l05_sparse.go:15", #[{ on := 20, ground := Ground.data }, { on := 22, ground := Ground.data }, { on := 16, ground := Ground.guard }], some (16, false)⟩) rfl (by rfl) ?_
        simp only [Act.put, List.setIfInBounds_toArray, List.set_cons_zero, List.set_cons_succ]
        refine wpT_skip (o := ⟨some 104, Op.load 2 (Operand.tmp 103), 2, "l05_sparse.go:15", #[{ on := 23, ground := Ground.data }, { on := 16, ground := Ground.guard }], some (16, false)⟩) rfl (by rfl) ?_
        simp only [Act.put, List.setIfInBounds_toArray, List.set_cons_zero, List.set_cons_succ]
        refine wpT_skip (o := ⟨some 105, Op.move (Operand.tmp 3), 3, "l05_sparse.go:15", #[{ on := 16, ground := Ground.guard }], some (16, false)⟩) rfl (by rfl) ?_
        simp only [Act.put, List.setIfInBounds_toArray, List.set_cons_zero, List.set_cons_succ]
        refine wpT_skip (o := ⟨some 106, Op.binOp BinOp.gtr 2 (Operand.tmp 104) (Operand.tmp 105) 2, 4, "l05_sparse.go:15", #[{ on := 24, ground := Ground.data }, { on := 25, ground := Ground.data }, { on := 16, ground := Ground.guard }], some (16, false)⟩) rfl (by rfl) ?_
        simp only [Act.put, List.setIfInBounds_toArray, List.set_cons_zero, List.set_cons_succ]
        refine' wpT_det (o := ⟨some 107, Op.pick (Operand.tmp 96) (Operand.const (Value.bool true)) (Operand.tmp 106), 4, "l05_sparse.go:15", #[{ on := 16, ground := Ground.data }, { on := 26, ground := Ground.data }], none⟩) rfl (by rfl) (by rfl) (fun w' hw' => ?_) ?_; rotate_left
        · go_simp <;> first | rfl | exact ⟨rfl, rfl⟩
        simp only [Act.put, List.setIfInBounds_toArray, List.set_cons_zero, List.set_cons_succ]
        refine wpT_nil (fun w' hw' hF => ?_)
        refine wpList_nil ?_
        go_wp2_with fail
        go_ret
        exact ⟨ret_bool (by rw [Hres.out, hno]), xA.trans hw'.undrew⟩
      have hdd : decide (t1 < s0) = false := decide_eq_false hd1
      by_cases hd2 : t1 > m
      · have hno : isSp sd st co va = false := isSp_not fun h => by
          have := starts_in (fun i hi => h.s8 i hi) h.s6 (by rw [h.s7, HB.out]) (by omega) (i + 1) (by omega)
          have e1 : ((i + 1 : Nat) : Int) = (i : Int) + 1 := by omega
          rw [e1, HT1.out] at this
          omega
        have hd2' : (m : Int) < t1 := hd2
        have hd2d : decide ((m : Int) < t1) = true := decide_eq_true hd2'
        go_wp2_with fail
        refine wp_region_T (cs := []) [0, 1, 2, 3, 4, 5, 6, 7, 8, 9, 10, 11, 12, 13, 14, 15, 16, 17, 18, 19, 20, 21, 22, 23, 24, 25, 26, 27] [] [] [] (fun _ _ => False) (fun _ _ _ => True) (by kernel_rfl) (by kernel_rfl) (fun _ _ _ _ _ _ => trivial) ?_
        refine' wpT_det (o := ⟨some 80, Op.move (Operand.tmp 0), 68, "l05_sparse.go:15", #[], none⟩) rfl (by rfl) (by rfl) (fun w' hw' => ?_) ?_; rotate_left
        · go_simp <;> first | rfl | exact ⟨rfl, rfl⟩
        simp only [Act.put, List.setIfInBounds_toArray, List.set_cons_zero, List.set_cons_succ]
        refine' wpT_det (o := ⟨some 81, Op.nilCheck (Operand.tmp 80), 0, "l05_sparse.go:15", #[{ on := 0, ground := Ground.data }], none⟩) rfl (by rfl) (by rfl) (fun w' hw' => ?_) ?_; rotate_left
        · go_simp <;> first | rfl | exact ⟨rfl, rfl⟩
        simp only [Act.put, List.setIfInBounds_toArray, List.set_cons_zero, List.set_cons_succ]
        refine' wpT_det (o := ⟨some 82, Op.fieldAddr 27 (Operand.tmp 81) 1, 0, "l05_sparse.go:15", #[{ on := 1, ground := Ground.data }], none⟩) rfl (by rfl) (by rfl) (fun w' hw' => ?_) ?_; rotate_left
        · go_simp <;> first | rfl | exact ⟨rfl, rfl⟩
        simp only [Act.put, List.setIfInBounds_toArray, List.set_cons_zero, List.set_cons_succ]
        refine' wpT_det (o := ⟨some 83, Op.load 22 (Operand.tmp 82), 22, "l05_sparse.go:15", #[{ on := 2, ground := Ground.data }], none⟩) rfl (by rfl) (by rfl) (fun w' hw' => ?_) ?_; rotate_left
        · have a1_ := Ext.cell hw' a1; have hc_ := Ext.cell hw' hc; have hc1_ := Ext.cell hw' hc1; go_simp <;> first | rfl | exact ⟨rfl, rfl⟩
        simp only [Act.put, List.setIfInBounds_toArray, List.set_cons_zero, List.set_cons_succ]
        refine' wpT_det (o := ⟨some 84, Op.move (Operand.tmp 4), 2, "l05_sparse.go:15", #[], none⟩) rfl (by rfl) (by rfl) (fun w' hw' => ?_) ?_; rotate_left
        · go_simp <;> first | rfl | exact ⟨rfl, rfl⟩
        simp only [Act.put, List.setIfInBounds_toArray, List.set_cons_zero, List.set_cons_succ]
        refine' wpT_det (o := ⟨some 85, Op.binOp BinOp.add 2 (Operand.tmp 84) (Operand.const (Value.int IntKind.i64 1)) 2, 2, "l05_sparse.go:15", #[{ on := 4, ground := Ground.data }], none⟩) rfl (by rfl) (by rfl) (fun w' hw' => ?_) ?_; rotate_left
        · go_simp <;> first | rfl | exact ⟨rfl, rfl⟩
        simp only [Act.put, List.setIfInBounds_toArray, List.set_cons_zero, List.set_cons_succ]
        refine' wpT_det (o := ⟨some 86, Op.indexAddr 22 (Operand.tmp 83) (Operand.tmp 85), 0, "l05_sparse.go:15", #[{ on := 3, ground := Ground.data }, { on := 5, ground := Ground.data }], none⟩) rfl (by rfl) (by rfl) (fun w' hw' => ?_) ?_; rotate_left
        · go_simp <;> first | rfl | exact ⟨rfl, rfl⟩
        simp only [Act.put, List.setIfInBounds_toArray, List.set_cons_zero, List.set_cons_succ]
        refine' wpT_det (o := ⟨some 87, Op.load 2 (Operand.tmp 86), 2, "l05_sparse.go:15", #[{ on := 6, ground := Ground.data }], none⟩) rfl (by rfl) (by rfl) (fun w' hw' => ?_) ?_; rotate_left
        · have a1_ := Ext.cell hw' a1; have hc_ := Ext.cell hw' hc; have hc1_ := Ext.cell hw' hc1; go_simp <;> first | rfl | exact ⟨rfl, rfl⟩
        simp only [Act.put, List.setIfInBounds_toArray, List.set_cons_zero, List.set_cons_succ]
        refine' wpT_det (o := ⟨some 88, Op.move (Operand.tmp 0), 68, "l05_sparse.go:15", #[], none⟩) rfl (by rfl) (by rfl) (fun w' hw' => ?_) ?_; rotate_left
        · go_simp <;> first | rfl | exact ⟨rfl, rfl⟩
        simp only [Act.put, List.setIfInBounds_toArray, List.set_cons_zero, List.set_cons_succ]
        refine' wpT_det (o := ⟨some 89, Op.nilCheck (Operand.tmp 88), 0, "l05_sparse.go:15", #[{ on := 8, ground := Ground.data }], none⟩) rfl (by rfl) (by rfl) (fun w' hw' => ?_) ?_; rotate_left
        · go_simp <;> first | rfl | exact ⟨rfl, rfl⟩
        simp only [Act.put, List.setIfInBounds_toArray, List.set_cons_zero, List.set_cons_succ]
        refine' wpT_det (o := ⟨some 90, Op.fieldAddr 27 (Operand.tmp 89) 1, 0, "l05_sparse.go:15", #[{ on := 9, ground := Ground.data }], none⟩) rfl (by rfl) (by rfl) (fun w' hw' => ?_) ?_; rotate_left
        · go_simp <;> first | rfl | exact ⟨rfl, rfl⟩
        simp only [Act.put, List.setIfInBounds_toArray, List.set_cons_zero, List.set_cons_succ]
        refine' wpT_det (o := ⟨some 91, Op.load 22 (Operand.tmp 90), 22, "l05_sparse.go:15", #[{ on := 10, ground := Ground.data }], none⟩) rfl (by rfl) (by rfl) (fun w' hw' => ?_) ?_; rotate_left
        · have a1_ := Ext.cell hw' a1; have hc_ := Ext.cell hw' hc; have hc1_ := Ext.cell hw' hc1; go_simp <;> first | rfl | exact ⟨rfl, rfl⟩
        simp only [Act.put, List.setIfInBounds_toArray, List.set_cons_zero, List.set_cons_succ]
        refine' wpT_det (o := ⟨some 92, Op.move (Operand.tmp 4), 2, "l05_sparse.go:15", #[], none⟩) rfl (by rfl) (by rfl) (fun w' hw' => ?_) ?_; rotate_left
        · go_simp <;> first | rfl | exact ⟨rfl, rfl⟩
        simp only [Act.put, List.setIfInBounds_toArray, List.set_cons_zero, List.set_cons_succ]
        refine' wpT_det (o := ⟨some 93, Op.indexAddr 22 (Operand.tmp 91) (Operand.tmp 92), 0, "l05_sparse.go:15", #[{ on := 11, ground := Ground.data }, { on := 12, ground := Ground.data }], none⟩) rfl (by rfl) (by rfl) (fun w' hw' => ?_) ?_; rotate_left
        · go_simp <;> first | rfl | exact ⟨rfl, rfl⟩
        simp only [Act.put, List.setIfInBounds_toArray, List.set_cons_zero, List.set_cons_succ]
        refine' wpT_det (o := ⟨some 94, Op.load 2 (Operand.tmp 93), 2, "l05_sparse.go:15", #[{ on := 13, ground := Ground.data }], none⟩) rfl (by rfl) (by rfl) (fun w' hw' => ?_) ?_; rotate_left
        · have a1_ := Ext.cell hw' a1; have hc_ := Ext.cell hw' hc; have hc1_ := Ext.cell hw' hc1; go_simp <;> first | rfl | exact ⟨rfl, rfl⟩
        simp only [Act.put, List.setIfInBounds_toArray, List.set_cons_zero, List.set_cons_succ]
        refine' wpT_det (o := ⟨some 95, Op.binOp BinOp.lss 2 (Operand.tmp 87) (Operand.tmp 94) 2, 4, "l05_sparse.go:15", #[{ on := 7, ground := Ground.data }, { on := 14, ground := Ground.data }], none⟩) rfl (by rfl) (by rfl) (fun w' hw' => ?_) ?_; rotate_left
        · go_simp <;> first | rfl | exact ⟨rfl, rfl⟩
        simp only [Act.put, List.setIfInBounds_toArray, List.set_cons_zero, List.set_cons_succ]
        refine' wpT_det (o := ⟨some 96, Op.move (Operand.tmp 95), 4, "l05_sparse.go:15", #[{ on := 15, ground := Ground.data }], none⟩) rfl (by rfl) (by rfl) (fun w' hw' => ?_) ?_; rotate_left
        · go_simp <;> first | rfl | exact ⟨rfl, rfl⟩
        simp only [Act.put, List.setIfInBounds_toArray, List.set_cons_zero, List.set_cons_succ]
        refine' wpT_det (o := ⟨some 97, Op.move (Operand.tmp 0), 68, "l05_sparse.go:15", #[{ on := 16, ground := Ground.guard }], some (16, false)⟩) rfl (by rfl) (by rfl) (fun w' hw' => ?_) ?_; rotate_left
        · go_simp <;> first | rfl | exact ⟨rfl, rfl⟩
        simp only [Act.put, List.setIfInBounds_toArray, List.set_cons_zero, List.set_cons_succ]
        refine' wpT_det (o := ⟨some 98, Op.nilCheck (Operand.tmp 97), 0, "l05_sparse.go:15", #[{ on := 17, ground := Ground.data }, { on := 16, ground := Ground.guard }], some (16, false)⟩) rfl (by rfl) (by rfl) (fun w' hw' => ?_) ?_; rotate_left
        · go_simp <;> first | rfl | exact ⟨rfl, rfl⟩
        simp only [Act.put, List.setIfInBounds_toArray, List.set_cons_zero, List.set_cons_succ]
        refine' wpT_det (o := ⟨some 99, Op.fieldAddr 27 (Operand.tmp 98) 1, 0, "l05_sparse.go:15", #[{ on := 18, ground := Ground.data }, { on := 16, ground := Ground.guard }], some (16, false)⟩) rfl (by rfl) (by rfl) (fun w' hw' => ?_) ?_; rotate_left
        · go_simp <;> first | rfl | exact ⟨rfl, rfl⟩
        simp only [Act.put, List.setIfInBounds_toArray, List.set_cons_zero, List.set_cons_succ]
        refine' wpT_det (o := ⟨some 100, Op.load 22 (Operand.tmp 99), 22, "l05_sparse.go:15", #[{ on := 19, ground := Ground.data }, { on := 16, ground := Ground.guard }], some (16, false)⟩) rfl (by rfl) (by rfl) (fun w' hw' => ?_) ?_; rotate_left
        · have a1_ := Ext.cell hw' a1; have hc_ := Ext.cell hw' hc; have hc1_ := Ext.cell hw' hc1; go_simp <;> first | rfl | exact ⟨rfl, rfl⟩
        simp only [Act.put, List.setIfInBounds_toArray, List.set_cons_zero, List.set_cons_succ]
        refine' wpT_det (o := ⟨some 101, Op.move (Operand.tmp 4), 2, "l05_sparse.go:15", #[{ on := 16, ground := Ground.guard }], some (16, false)⟩) rfl (by rfl) (by rfl) (fun w' hw' => ?_) ?_; rotate_left
        · go_simp <;> first | rfl | exact ⟨rfl, rfl⟩
        simp only [Act.put, List.setIfInBounds_toArray, List.set_cons_zero, List.set_cons_succ]
        refine' wpT_det (o := ⟨some 102, Op.binOp BinOp.add 2 (Operand.tmp 101) (Operand.const (Value.int IntKind.i64 1)) 2, 2, "l05_sparse.go:15", #[{ on := 21, ground := Ground.data }, { on := 16, ground := Ground.guard }], some (16, false)⟩) rfl (by rfl) (by rfl) (fun w' hw' => ?_) ?_; rotate_left
        · go_simp <;> first | rfl | exact ⟨rfl, rfl⟩
        simp only [Act.put, List.setIfInBounds_toArray, List.set_cons_zero, List.set_cons_succ]
        refine' wpT_det (o := ⟨some 103, Op.indexAddr 22 (Operand.tmp 100) (Operand.tmp 102), 0, "l05_sparse.go:15", #[{ on := 20, ground := Ground.data }, { on := 22, ground := Ground.data }, { on := 16, ground := Ground.guard }], some (16, false)⟩) rfl (by rfl) (by rfl) (fun w' hw' => ?_) ?_; rotate_left
        · go_simp <;> first | rfl | exact ⟨rfl, rfl⟩
        simp only [Act.put, List.setIfInBounds_toArray, List.set_cons_zero, List.set_cons_succ]
        refine' wpT_det (o := ⟨some 104, Op.load 2 (Operand.tmp 103), 2, "l05_sparse.go:15", #[{ on := 23, ground := Ground.data }, { on := 16, ground := Ground.guard }], some (16, false)⟩) rfl (by rfl) (by rfl) (fun w' hw' => ?_) ?_; rotate_left
        · have a1_ := Ext.cell hw' a1; have hc_ := Ext.cell hw' hc; have hc1_ := Ext.cell hw' hc1; go_simp <;> first | rfl | exact ⟨rfl, rfl⟩
        simp only [Act.put, List.setIfInBounds_toArray, List.set_cons_zero, List.set_cons_succ]
        refine' wpT_det (o := ⟨some 105, Op.move (Operand.tmp 3), 3, "l05_sparse.go:15", #[{ on := 16, ground := Ground.guard }], some (16, false)⟩) rfl (by rfl) (by rfl) (fun w' hw' => ?_) ?_; rotate_left
        · go_simp <;> first | rfl | exact ⟨rfl, rfl⟩
        simp only [Act.put, List.setIfInBounds_toArray, List.set_cons_zero, List.set_cons_succ]
        refine' wpT_det (o := ⟨some 106, Op.binOp BinOp.gtr 2 (Operand.tmp 104) (Operand.tmp 105) 2, 4, "l05_sparse.go:15", #[{ on := 24, ground := Ground.data }, { on := 25, ground := Ground.data }, { on := 16, ground := Ground.guard }], some (16, false)⟩) rfl (by rfl) (by rfl) (fun w' hw' => ?_) ?_; rotate_left
        · go_simp <;> first | rfl | exact ⟨rfl, rfl⟩
        simp only [Act.put, List.setIfInBounds_toArray, List.set_cons_zero, List.set_cons_succ]
        refine' wpT_det (o := ⟨some 107, Op.pick (Operand.tmp 96) (Operand.const (Value.bool true)) (Operand.tmp 106), 4, "l05_sparse.go:15", #[{ on := 16, ground := Ground.data }, { on := 26, ground := Ground.data }], none⟩) rfl (by rfl) (by rfl) (fun w' hw' => ?_) ?_; rotate_left
        · go_simp <;> first | rfl | exact ⟨rfl, rfl⟩
        simp only [Act.put, List.setIfInBounds_toArray, List.set_cons_zero, List.set_cons_succ]
        refine wpT_nil (fun w' hw' hF => ?_)
        refine wpList_nil ?_
        go_wp2_with fail
        go_ret
        exact ⟨ret_bool (by rw [Hres.out, hno]), xA.trans hw'.undrew⟩
      have hd2' : ¬ (m : Int) < t1 := hd2
      have hd2d : decide ((m : Int) < t1) = false := decide_eq_false hd2'
      obtain ⟨s1, rfl⟩ : ∃ s1 : Nat, t1 = s1 := ⟨t1.toNat, by omega⟩
      have hn1 : ¬ s1 < s0 := by omega
      have hn2 : ¬ m < s1 := by omega
      go_wp2_with fail
      refine wp_region_T (cs := []) [0, 1, 2, 3, 4, 5, 6, 7, 8, 9, 10, 11, 12, 13, 14, 15, 16, 17, 18, 19, 20, 21, 22, 23, 24, 25, 26, 27] [] [] [] (fun _ _ => False) (fun _ _ _ => True) (by kernel_rfl) (by kernel_rfl) (fun _ _ _ _ _ _ => trivial) ?_
      refine' wpT_det (o := ⟨some 80, Op.move (Operand.tmp 0), 68, "l05_sparse.go:15", #[], none⟩) rfl (by rfl) (by rfl) (fun w' hw' => ?_) ?_; rotate_left
      · go_simp <;> first | rfl | exact ⟨rfl, rfl⟩
      simp only [Act.put, List.setIfInBounds_toArray, List.set_cons_zero, List.set_cons_succ]
      refine' wpT_det (o := ⟨some 81, Op.nilCheck (Operand.tmp 80), 0, "l05_sparse.go:15", #[{ on := 0, ground := Ground.data }], none⟩) rfl (by rfl) (by rfl) (fun w' hw' => ?_) ?_; rotate_left
      · go_simp <;> first | rfl | exact ⟨rfl, rfl⟩
      simp only [Act.put, List.setIfInBounds_toArray, List.set_cons_zero, List.set_cons_succ]
      refine' wpT_det (o := ⟨some 82, Op.fieldAddr 27 (Operand.tmp 81) 1, 0, "l05_sparse.go:15", #[{ on := 1, ground := Ground.data }], none⟩) rfl (by rfl) (by rfl) (fun w' hw' => ?_) ?_; rotate_left
      · go_simp <;> first | rfl | exact ⟨rfl, rfl⟩
      simp only [Act.put, List.setIfInBounds_toArray, List.set_cons_zero, List.set_cons_succ]
      refine' wpT_det (o := ⟨some 83, Op.load 22 (Operand.tmp 82), 22, "l05_sparse.go:15", #[{ on := 2, ground := Ground.data }], none⟩) rfl (by rfl) (by rfl) (fun w' hw' => ?_) ?_; rotate_left
      · have a1_ := Ext.cell hw' a1; have hc_ := Ext.cell hw' hc; have hc1_ := Ext.cell hw' hc1; go_simp <;> first | rfl | exact ⟨rfl, rfl⟩
      simp only [Act.put, List.setIfInBounds_toArray, List.set_cons_zero, List.set_cons_succ]
      refine' wpT_det (o := ⟨some 84, Op.move (Operand.tmp 4), 2, "l05_sparse.go:15", #[], none⟩) rfl (by rfl) (by rfl) (fun w' hw' => ?_) ?_; rotate_left
      · go_simp <;> first | rfl | exact ⟨rfl, rfl⟩
      simp only [Act.put, List.setIfInBounds_toArray, List.set_cons_zero, List.set_cons_succ]
      refine' wpT_det (o := ⟨some 85, Op.binOp BinOp.add 2 (Operand.tmp 84) (Operand.const (Value.int IntKind.i64 1)) 2, 2, "l05_sparse.go:15", #[{ on := 4, ground := Ground.data }], none⟩) rfl (by rfl) (by rfl) (fun w' hw' => ?_) ?_; rotate_left
      · go_simp <;> first | rfl | exact ⟨rfl, rfl⟩
      simp only [Act.put, List.setIfInBounds_toArray, List.set_cons_zero, List.set_cons_succ]
      refine' wpT_det (o := ⟨some 86, Op.indexAddr 22 (Operand.tmp 83) (Operand.tmp 85), 0, "l05_sparse.go:15", #[{ on := 3, ground := Ground.data }, { on := 5, ground := Ground.data }], none⟩) rfl (by rfl) (by rfl) (fun w' hw' => ?_) ?_; rotate_left
      · go_simp <;> first | rfl | exact ⟨rfl, rfl⟩
      simp only [Act.put, List.setIfInBounds_toArray, List.set_cons_zero, List.set_cons_succ]
      refine' wpT_det (o := ⟨some 87, Op.load 2 (Operand.tmp 86), 2, "l05_sparse.go:15", #[{ on := 6, ground := Ground.data }], none⟩) rfl (by rfl) (by rfl) (fun w' hw' => ?_) ?_; rotate_left
      · have a1_ := Ext.cell hw' a1; have hc_ := Ext.cell hw' hc; have hc1_ := Ext.cell hw' hc1; go_simp <;> first | rfl | exact ⟨rfl, rfl⟩
      simp only [Act.put, List.setIfInBounds_toArray, List.set_cons_zero, List.set_cons_succ]
      refine' wpT_det (o := ⟨some 88, Op.move (Operand.tmp 0), 68, "l05_sparse.go:15", #[], none⟩) rfl (by rfl) (by rfl) (fun w' hw' => ?_) ?_; rotate_left
      · go_simp <;> first | rfl | exact ⟨rfl, rfl⟩
      simp only [Act.put, List.setIfInBounds_toArray, List.set_cons_zero, List.set_cons_succ]
      refine' wpT_det (o := ⟨some 89, Op.nilCheck (Operand.tmp 88), 0, "l05_sparse.go:15", #[{ on := 8, ground := Ground.data }], none⟩) rfl (by rfl) (by rfl) (fun w' hw' => ?_) ?_; rotate_left
      · go_simp <;> first | rfl | exact ⟨rfl, rfl⟩
      simp only [Act.put, List.setIfInBounds_toArray, List.set_cons_zero, List.set_cons_succ]
      refine' wpT_det (o := ⟨some 90, Op.fieldAddr 27 (Operand.tmp 89) 1, 0, "l05_sparse.go:15", #[{ on := 9, ground := Ground.data }], none⟩) rfl (by rfl) (by rfl) (fun w' hw' => ?_) ?_; rotate_left
      · go_simp <;> first | rfl | exact ⟨rfl, rfl⟩
      simp only [Act.put, List.setIfInBounds_toArray, List.set_cons_zero, List.set_cons_succ]
      refine' wpT_det (o := ⟨some 91, Op.load 22 (Operand.tmp 90), 22, "l05_sparse.go:15", #[{ on := 10, ground := Ground.data }], none⟩) rfl (by rfl) (by rfl) (fun w' hw' => ?_) ?_; rotate_left
      · have a1_ := Ext.cell hw' a1; have hc_ := Ext.cell hw' hc; have hc1_ := Ext.cell hw' hc1; go_simp <;> first | rfl | exact ⟨rfl, rfl⟩
      simp only [Act.put, List.setIfInBounds_toArray, List.set_cons_zero, List.set_cons_succ]
      refine' wpT_det (o := ⟨some 92, Op.move (Operand.tmp 4), 2, "l05_sparse.go:15", #[], none⟩) rfl (by rfl) (by rfl) (fun w' hw' => ?_) ?_; rotate_left
      · go_simp <;> first | rfl | exact ⟨rfl, rfl⟩
      simp only [Act.put, List.setIfInBounds_toArray, List.set_cons_zero, List.set_cons_succ]
      refine' wpT_det (o := ⟨some 93, Op.indexAddr 22 (Operand.tmp 91) (Operand.tmp 92), 0, "l05_sparse.go:15", #[{ on := 11, ground := Ground.data }, { on := 12, ground := Ground.data }], none⟩) rfl (by rfl) (by rfl) (fun w' hw' => ?_) ?_; rotate_left
      · go_simp <;> first | rfl | exact ⟨rfl, rfl⟩
      simp only [Act.put, List.setIfInBounds_toArray, List.set_cons_zero, List.set_cons_succ]
      refine' wpT_det (o := ⟨some 94, Op.load 2 (Operand.tmp 93), 2, "l05_sparse.go:15", #[{ on := 13, ground := Ground.data }], none⟩) rfl (by rfl) (by rfl) (fun w' hw' => ?_) ?_; rotate_left
      · have a1_ := Ext.cell hw' a1; have hc_ := Ext.cell hw' hc; have hc1_ := Ext.cell hw' hc1; go_simp <;> first | rfl | exact ⟨rfl, rfl⟩
      simp only [Act.put, List.setIfInBounds_toArray, List.set_cons_zero, List.set_cons_succ]
      refine' wpT_det (o := ⟨some 95, Op.binOp BinOp.lss 2 (Operand.tmp 87) (Operand.tmp 94) 2, 4, "l05_sparse.go:15", #[{ on := 7, ground := Ground.data }, { on := 14, ground := Ground.data }], none⟩) rfl (by rfl) (by rfl) (fun w' hw' => ?_) ?_; rotate_left
      · go_simp <;> first | rfl | exact ⟨rfl, rfl⟩
      simp only [Act.put, List.setIfInBounds_toArray, List.set_cons_zero, List.set_cons_succ]
      refine' wpT_det (o := ⟨some 96, Op.move (Operand.tmp 95), 4, "l05_sparse.go:15", #[{ on := 15, ground := Ground.data }], none⟩) rfl (by rfl) (by rfl) (fun w' hw' => ?_) ?_; rotate_left
      · go_simp <;> first | rfl | exact ⟨rfl, rfl⟩
      simp only [Act.put, List.setIfInBounds_toArray, List.set_cons_zero, List.set_cons_succ]
      refine' wpT_det (o := ⟨some 97, Op.move (Operand.tmp 0), 68, "l05_sparse.go:15", #[{ on := 16, ground := Ground.guard }], some (16, false)⟩) rfl (by rfl) (by rfl) (fun w' hw' => ?_) ?_; rotate_left
      · go_simp <;> first | rfl | exact ⟨rfl, rfl⟩
      simp only [Act.put, List.setIfInBounds_toArray, List.set_cons_zero, List.set_cons_succ]
      refine' wpT_det (o := ⟨some 98, Op.nilCheck (Operand.tmp 97), 0, "l05_sparse.go:15", #[{ on := 17, ground := Ground.data }, { on := 16, ground := Ground.guard }], some (16, false)⟩) rfl (by rfl) (by rfl) (fun w' hw' => ?_) ?_; rotate_left
      · go_simp <;> first | rfl | exact ⟨rfl, rfl⟩
      simp only [Act.put, List.setIfInBounds_toArray, List.set_cons_zero, List.set_cons_succ]
      refine' wpT_det (o := ⟨some 99, Op.fieldAddr 27 (Operand.tmp 98) 1, 0, "l05_sparse.go:15", #[{ on := 18, ground := Ground.data }, { on := 16, ground := Ground.guard }], some (16, false)⟩) rfl (by rfl) (by rfl) (fun w' hw' => ?_) ?_; rotate_left
      · go_simp <;> first | rfl | exact ⟨rfl, rfl⟩
      simp only [Act.put, List.setIfInBounds_toArray, List.set_cons_zero, List.set_cons_succ]
      refine' wpT_det (o := ⟨some 100, Op.load 22 (Operand.tmp 99), 22, "l05_sparse.go:15", #[{ on := 19, ground := Ground.data }, { on := 16, ground := Ground.guard }], some (16, false)⟩) rfl (by rfl) (by rfl) (fun w' hw' => ?_) ?_; rotate_left
      · have a1_ := Ext.cell hw' a1; have hc_ := Ext.cell hw' hc; have hc1_ := Ext.cell hw' hc1; go_simp <;> first | rfl | exact ⟨rfl, rfl⟩
      simp only [Act.put, List.setIfInBounds_toArray, List.set_cons_zero, List.set_cons_succ]
      refine' wpT_det (o := ⟨some 101, Op.move (Operand.tmp 4), 2, "l05_sparse.go:15", #[{ on := 16, ground := Ground.guard }], some (16, false)⟩) rfl (by rfl) (by rfl) (fun w' hw' => ?_) ?_; rotate_left
      · go_simp <;> first | rfl | exact ⟨rfl, rfl⟩
      simp only [Act.put, List.setIfInBounds_toArray, List.set_cons_zero, List.set_cons_succ]
      refine' wpT_det (o := ⟨some 102, Op.binOp BinOp.add 2 (Operand.tmp 101) (Operand.const (Value.int IntKind.i64 1)) 2, 2, "l05_sparse.go:15", #[{ on := 21, ground := Ground.data }, { on := 16, ground := Ground.guard }], some (16, false)⟩) rfl (by rfl) (by rfl) (fun w' hw' => ?_) ?_; rotate_left
      · go_simp <;> first | rfl | exact ⟨rfl, rfl⟩
      simp only [Act.put, List.setIfInBounds_toArray, List.set_cons_zero, List.set_cons_succ]
      refine' wpT_det (o := ⟨some 103, Op.indexAddr 22 (Operand.tmp 100) (Operand.tmp 102), 0, "l05_sparse.go:15", #[{ on := 20, ground := Ground.data }, { on := 22, ground := Ground.data }, { on := 16, ground := Ground.guard }], some (16, false)⟩) rfl (by rfl) (by rfl) (fun w' hw' => ?_) ?_; rotate_left
      · go_simp <;> first | rfl | exact ⟨rfl, rfl⟩
      simp only [Act.put, List.setIfInBounds_toArray, List.set_cons_zero, List.set_cons_succ]
      refine' wpT_det (o := ⟨some 104, Op.load 2 (Operand.tmp 103), 2, "l05_sparse.go:15", #[{ on := 23, ground := Ground.data }, { on := 16, ground := Ground.guard }], some (16, false)⟩) rfl (by rfl) (by rfl) (fun w' hw' => ?_) ?_; rotate_left
      · have a1_ := Ext.cell hw' a1; have hc_ := Ext.cell hw' hc; have hc1_ := Ext.cell hw' hc1; go_simp <;> first | rfl | exact ⟨rfl, rfl⟩
      simp only [Act.put, List.setIfInBounds_toArray, List.set_cons_zero, List.set_cons_succ]
      refine' wpT_det (o := ⟨some 105, Op.move (Operand.tmp 3), 3, "l05_sparse.go:15", #[{ on := 16, ground := Ground.guard }], some (16, false)⟩) rfl (by rfl) (by rfl) (fun w' hw' => ?_) ?_; rotate_left
      · go_simp <;> first | rfl | exact ⟨rfl, rfl⟩
      simp only [Act.put, List.setIfInBounds_toArray, List.set_cons_zero, List.set_cons_succ]
      refine' wpT_det (o := ⟨some 106, Op.binOp BinOp.gtr 2 (Operand.tmp 104) (Operand.tmp 105) 2, 4, "l05_sparse.go:15", #[{ on := 24, ground := Ground.data }, { on := 25, ground := Ground.data }, { on := 16, ground := Ground.guard }], some (16, false)⟩) rfl (by rfl) (by rfl) (fun w' hw' => ?_) ?_; rotate_left
      · go_simp <;> first | rfl | exact ⟨rfl, rfl⟩
      simp only [Act.put, List.setIfInBounds_toArray, List.set_cons_zero, List.set_cons_succ]
      refine' wpT_det (o := ⟨some 107, Op.pick (Operand.tmp 96) (Operand.const (Value.bool true)) (Operand.tmp 106), 4, "l05_sparse.go:15", #[{ on := 16, ground := Ground.data }, { on := 26, ground := Ground.data }], none⟩) rfl (by rfl) (by rfl) (fun w' hw' => ?_) ?_; rotate_left
      · go_simp <;> first | rfl | exact ⟨rfl, rfl⟩
      simp only [Act.put, List.setIfInBounds_toArray, List.set_cons_zero, List.set_cons_succ]
      refine wpT_nil (fun w' hw' hF => ?_)
      refine wpList_nil ?_
      have hxx := hw'.undrew
      clear hF hw'
      replace hx := hx.trans hxx
      replace xA := xA.trans hxx
      replace a0 := hxx.cell a0
      replace a1 := hxx.cell a1
      replace a2 := hxx.cell a2
      replace hc := hxx.cell hc
      replace hc1 := hxx.cell hc1
      clear hxx
      go_wp2_with fail
      rename World => wA2
      go_loopw [5] (fun u wr => ∃ k : Nat, s0 ≤ k ∧ k ≤ m ∧ u = .int .i64 k ∧ Hid (∀ k' : Nat, s0 ≤ k' → k' < k → 0 ≤ rd co k' ∧ rd co k' < sd) ∧ Hid (∀ k' : Nat, s0 ≤ k' → k' + 1 < k → rd co k' < rd co ((k' : Int) + 1)) ∧ Ext wA2 wr) (fun u _ => m + 1 - (intOf u).toNat)
      case atStart => exact ⟨s0, Nat.le_refl _, by omega, by go_num, fun k' h1 h2 => by omega, fun k' h1 h2 => by omega, Ext.refl _⟩
      case round =>
        rename World => wB
        obtain ⟨k, hk0, hk1, rfl, hinr, hin, hxB⟩ := hrel
        have xB := xA.trans hxB
        replace a0 := hxB.cell a0
        replace a1 := hxB.cell a1
        replace a2 := hxB.cell a2
        replace hc := hxB.cell hc
        replace hc1 := hxB.cell hc1
        by_cases hlk : (k : Int) < s1
        · have k3 : (k : Int) < m := by omega
          have k4 : k < m := by omega
          have g4 : IntKind.i64.wrap ((k : Int) + 1) = (k : Int) + 1 := IntWalk.i64_in _ (by omega)
          have q1 := (hq.below xB).int k (by omega) k3
          obtain ⟨ad2, rfl, hd⟩ := q1
          simp only [Int.toNat_natCast] at hd
          by_cases hcr : 0 ≤ rd co k ∧ rd co k ≤ sd - 1
          rotate_left
          · have hno : isSp sd st co va = false := isSp_not fun h => by have := h.s9 k (by rw [HB.out]; omega); omega
            have hci : inR 0 (rd co k) (sd - 1) = false := by cases h : inR 0 (rd co k) (sd - 1) with | false => rfl | true => exact absurd (inR_iff.1 h) hcr
            go_wp2_with fail
            refine wp_region_T (cs := []) [0, 1, 2, 3, 4, 5, 6, 7, 8, 9, 10, 11, 12, 13, 14, 15, 16, 17, 18, 19, 20, 21, 22, 23, 24, 25, 26, 27, 28, 29, 30, 31, 32, 33, 34, 35, 36, 37, 38, 39, 40, 41, 42] [] [12] [] (fun i__ v => match i__ with | 12 => v = (.bool false) | _ => False) (fun _ _ _ => True) (by kernel_rfl) (by kernel_rfl) (fun _ _ _ _ _ _ => trivial) ?_
            refine' wpT_det (o := ⟨some 127, Op.move (Operand.tmp 0), 68, "l05_sparse.go:19", #[], none⟩) rfl (by rfl) (by rfl) (fun w' hw' => ?_) ?_; rotate_left
            · go_simp <;> first | rfl | exact ⟨rfl, rfl⟩
            simp only [Act.put, List.setIfInBounds_toArray, List.set_cons_zero, List.set_cons_succ]
            refine' wpT_det (o := ⟨some 128, Op.nilCheck (Operand.tmp 127), 0, "l05_sparse.go:19", #[{ on := 0, ground := Ground.data }], none⟩) rfl (by rfl) (by rfl) (fun w' hw' => ?_) ?_; rotate_left
            · go_simp <;> first | rfl | exact ⟨rfl, rfl⟩
            simp only [Act.put, List.setIfInBounds_toArray, List.set_cons_zero, List.set_cons_succ]
            refine' wpT_det (o := ⟨some 129, Op.fieldAddr 27 (Operand.tmp 128) 2, 0, "l05_sparse.go:19", #[{ on := 1, ground := Ground.data }], none⟩) rfl (by rfl) (by rfl) (fun w' hw' => ?_) ?_; rotate_left
            · go_simp <;> first | rfl | exact ⟨rfl, rfl⟩
            simp only [Act.put, List.setIfInBounds_toArray, List.set_cons_zero, List.set_cons_succ]
            refine' wpT_det (o := ⟨some 130, Op.load 22 (Operand.tmp 129), 22, "l05_sparse.go:19", #[{ on := 2, ground := Ground.data }], none⟩) rfl (by rfl) (by rfl) (fun w' hw' => ?_) ?_; rotate_left
            · have a0_ := Ext.cell hw' a0; have a2_ := Ext.cell hw' a2; have hd_ := Ext.cell hw' hd; go_simp <;> first | rfl | exact ⟨rfl, rfl⟩
            simp only [Act.put, List.setIfInBounds_toArray, List.set_cons_zero, List.set_cons_succ]
            refine' wpT_det (o := ⟨some 131, Op.move (Operand.tmp 5), 2, "l05_sparse.go:19", #[], none⟩) rfl (by rfl) (by rfl) (fun w' hw' => ?_) ?_; rotate_left
            · go_simp <;> first | rfl | exact ⟨rfl, rfl⟩
            simp only [Act.put, List.setIfInBounds_toArray, List.set_cons_zero, List.set_cons_succ]
            refine' wpT_det (o := ⟨some 132, Op.indexAddr 22 (Operand.tmp 130) (Operand.tmp 131), 0, "l05_sparse.go:19", #[{ on := 3, ground := Ground.data }, { on := 4, ground := Ground.data }], none⟩) rfl (by rfl) (by rfl) (fun w' hw' => ?_) ?_; rotate_left
            · go_simp <;> first | rfl | exact ⟨rfl, rfl⟩
            simp only [Act.put, List.setIfInBounds_toArray, List.set_cons_zero, List.set_cons_succ]
            refine' wpT_det (o := ⟨some 133, Op.load 2 (Operand.tmp 132), 2, "l05_sparse.go:19", #[{ on := 5, ground := Ground.data }], none⟩) rfl (by rfl) (by rfl) (fun w' hw' => ?_) ?_; rotate_left
            · have a0_ := Ext.cell hw' a0; have a2_ := Ext.cell hw' a2; have hd_ := Ext.cell hw' hd; go_simp <;> first | rfl | exact ⟨rfl, rfl⟩
            simp only [Act.put, List.setIfInBounds_toArray, List.set_cons_zero, List.set_cons_succ]
            refine' wpT_det (o := ⟨some 134, Op.move (Operand.tmp 0), 68, "l05_sparse.go:19", #[], none⟩) rfl (by rfl) (by rfl) (fun w' hw' => ?_) ?_; rotate_left
            · go_simp <;> first | rfl | exact ⟨rfl, rfl⟩
            simp only [Act.put, List.setIfInBounds_toArray, List.set_cons_zero, List.set_cons_succ]
            refine' wpT_det (o := ⟨some 135, Op.nilCheck (Operand.tmp 134), 0, "l05_sparse.go:19", #[{ on := 7, ground := Ground.data }], none⟩) rfl (by rfl) (by rfl) (fun w' hw' => ?_) ?_; rotate_left
            · go_simp <;> first | rfl | exact ⟨rfl, rfl⟩
            simp only [Act.put, List.setIfInBounds_toArray, List.set_cons_zero, List.set_cons_succ]
            refine' wpT_det (o := ⟨some 136, Op.fieldAddr 27 (Operand.tmp 135) 0, 0, "l05_sparse.go:19", #[{ on := 8, ground := Ground.data }], none⟩) rfl (by rfl) (by rfl) (fun w' hw' => ?_) ?_; rotate_left
            · go_simp <;> first | rfl | exact ⟨rfl, rfl⟩
            simp only [Act.put, List.setIfInBounds_toArray, List.set_cons_zero, List.set_cons_succ]
            refine' wpT_det (o := ⟨some 137, Op.load 2 (Operand.tmp 136), 2, "l05_sparse.go:19", #[{ on := 9, ground := Ground.data }], none⟩) rfl (by rfl) (by rfl) (fun w' hw' => ?_) ?_; rotate_left
            · have a0_ := Ext.cell hw' a0; have a2_ := Ext.cell hw' a2; have hd_ := Ext.cell hw' hd; go_simp <;> first | rfl | exact ⟨rfl, rfl⟩
            simp only [Act.put, List.setIfInBounds_toArray, List.set_cons_zero, List.set_cons_succ]
            refine' wpT_det (o := ⟨some 138, Op.binOp BinOp.sub 2 (Operand.tmp 137) (Operand.const (Value.int IntKind.i64 1)) 2, 2, "l05_sparse.go:19", #[{ on := 10, ground := Ground.data }], none⟩) rfl (by rfl) (by rfl) (fun w' hw' => ?_) ?_; rotate_left
            · go_simp <;> first | rfl | exact ⟨rfl, rfl⟩
            simp only [Act.put, List.setIfInBounds_toArray, List.set_cons_zero, List.set_cons_succ]
            refine wpT_nd (o := ⟨some 139, Op.call { callee := Callee.value (Operand.func 111), args := #[Operand.tmp 133, Operand.const (Value.int IntKind.i64 0), Operand.tmp 138], argTypes := #[2, 2, 2] }, 4, "l05_sparse.go:19", #[{ on := 6, ground := Ground.data }, { on := 11, ground := Ground.data }], none⟩) rfl (by rfl) (by rfl) (fun w' hw' hF R__ hGo => ?_) ⟨_, rfl⟩ ?_
            · go_simp
              refine gives_enter rfl ?_
              refine (l00In_any _ _ _ _).mono ?_
              rintro e w2 ⟨rfl, rfl⟩
              exact ⟨_, rfl, hGo _ _ (Ext.refl _) (congrArg Value.bool hci) trivial⟩
            intro v hv
            obtain rfl : v = (.bool false) := hv
            simp only [Act.put, List.setIfInBounds_toArray, List.set_cons_zero, List.set_cons_succ]
            refine' wpT_det (o := ⟨some 140, Op.unOp UnOp.not 4 (Operand.tmp 139), 4, "l05_sparse.go:19", #[{ on := 12, ground := Ground.data }], none⟩) rfl (by rfl) (by rfl) (fun w' hw' => ?_) ?_; rotate_left
            · go_simp <;> first | rfl | exact ⟨rfl, rfl⟩
            simp only [Act.put, List.setIfInBounds_toArray, List.set_cons_zero, List.set_cons_succ]
            refine' wpT_det (o := ⟨some 141, Op.move (Operand.tmp 140), 4, "l05_sparse.go:19", #[{ on := 13, ground := Ground.data }, { on := 12, ground := Ground.chain }], none⟩) rfl (by rfl) (by rfl) (fun w' hw' => ?_) ?_; rotate_left
            · go_simp <;> first | rfl | exact ⟨rfl, rfl⟩
            simp only [Act.put, List.setIfInBounds_toArray, List.set_cons_zero, List.set_cons_succ]
            refine wpT_skip (o := ⟨some 142, Op.move (Operand.tmp 5), 2, "l05_sparse.go:19", #[{ on := 14, ground := Ground.guard }], some (14, false)⟩) rfl (by rfl) ?_
            simp only [Act.put, List.setIfInBounds_toArray, List.set_cons_zero, List.set_cons_succ]
            refine wpT_skip (o := ⟨some 143, Op.move (Operand.tmp 0), 68, "l05_sparse.go:19", #[{ on := 14, ground := Ground.guard }], some (14, false)⟩) rfl (by rfl) ?_
            simp only [Act.put, List.setIfInBounds_toArray, List.set_cons_zero, List.set_cons_succ]
            refine wpT_skip (o := ⟨some 144, Op.nilCheck (Operand.tmp 143), 0, "l05_sparse.go:19", #[{ on := 16, ground := Ground.data }, { on := 14, ground := Ground.guard }], some (14, false)⟩) rfl (by rfl) ?_
            simp only [Act.put, List.setIfInBounds_toArray, List.set_cons_zero, List.set_cons_succ]
            refine wpT_skip (o := ⟨some 145, Op.fieldAddr 27 (Operand.tmp 144) 1, 0, "l05_sparse.go:19", #[{ on := 17, ground := Ground.data }, { on := 14, ground := Ground.guard }], some (14, false)⟩) rfl (by rfl) ?_
            simp only [Act.put, List.setIfInBounds_toArray, List.set_cons_zero, List.set_cons_succ]
            refine wpT_skip (o := ⟨some 146, Op.load 22 (Operand.tmp 145), 22, "l05_sparse.go:19", #[{ on := 18, ground := Ground.data }, { on := 14, ground := Ground.guard }], some (14, false)⟩) rfl (by rfl) ?_
            simp only [Act.put, List.setIfInBounds_toArray, List.set_cons_zero, List.set_cons_succ]
            refine wpT_skip (o := ⟨some 147, Op.move (Operand.tmp 4), 2, "l05_sparse.go:19", #[{ on := 14, ground := Ground.guard }], some (14, false)⟩) rfl (by rfl) ?_
            simp only [Act.put, List.setIfInBounds_toArray, List.set_cons_zero, List.set_cons_succ]
            refine wpT_skip (o := ⟨some 148, Op.indexAddr 22 (Operand.tmp 146) (Operand.tmp 147), 0, "l05_sparse.go:19", #[{ on := 19, ground := Ground.data }, { on := 20, ground := Ground.data }, { on := 14, ground := Ground.guard }], some (14, false)⟩) rfl (by rfl) ?_
            simp only [Act.put, List.setIfInBounds_toArray, List.set_cons_zero, List.set_cons_succ]
            refine wpT_skip (o := ⟨some 149, Op.load 2 (Operand.tmp 148), 2, "l05_sparse.go:19", #[{ on := 21, ground := Ground.data }, { on := 14, ground := Ground.guard }], some (14, false)⟩) rfl (by rfl) ?_
            simp only [Act.put, List.setIfInBounds_toArray, List.set_cons_zero, List.set_cons_succ]
            refine wpT_skip (o := ⟨some 150, Op.binOp BinOp.gtr 2 (Operand.tmp 142) (Operand.tmp 149) 2, 4, "l05_sparse.go:19", #[{ on := 15, ground := Ground.data }, { on := 22, ground := Ground.data }, { on := 14, ground := Ground.guard }], some (14, false)⟩) rfl (by rfl) ?_
            simp only [Act.put, List.setIfInBounds_toArray, List.set_cons_zero, List.set_cons_succ]
            refine wpT_skip (o := ⟨some 151, Op.move (Operand.tmp 150), 4, "l05_sparse.go:19", #[{ on := 23, ground := Ground.data }, { on := 14, ground := Ground.chain }, { on := 14, ground := Ground.guard }], some (14, false)⟩) rfl (by rfl) ?_
            simp only [Act.put, List.setIfInBounds_toArray, List.set_cons_zero, List.set_cons_succ]
            refine wpT_skip (o := ⟨some 152, Op.move (Operand.tmp 0), 68, "l05_sparse.go:19", #[{ on := 24, ground := Ground.guard }], some (24, true)⟩) rfl (by rfl) ?_
            simp only [Act.put, List.setIfInBounds_toArray, List.set_cons_zero, List.set_cons_succ]
            refine wpT_skip (o := ⟨some 153, Op.nilCheck (Operand.tmp 152), 0, "l05_sparse.go:19", #[{ on := 25, ground := Ground.data }, { on := 24, ground := Ground.guard }], some (24, true)⟩) rfl (by rfl) ?_
            simp only [Act.put, List.setIfInBounds_toArray, List.set_cons_zero, List.set_cons_succ]
            refine wpT_skip (o := ⟨some 154, Op.fieldAddr 27 (Operand.tmp 153) 2, 0, "l05_sparse.go:19", #[{ on := 26, ground := Ground.data }, { on := 24, ground := Ground.guard }], some (24, true)⟩) rfl (by rfl) ?_
            simp only [Act.put, List.setIfInBounds_toArray, List.set_cons_zero, List.set_cons_succ]
            refine wpT_skip (o := ⟨some 155, Op.load 22 (Operand.tmp 154), 22, "l05_sparse.go:19", #[{ on := 27, ground := Ground.data }, { on := 24, ground := Ground.guard }], some (24, true)⟩) rfl (by rfl) ?_
            simp only [Act.put, List.setIfInBounds_toArray, List.set_cons_zero, List.set_cons_succ]
            refine wpT_skip (o := ⟨some 156, Op.move (Operand.tmp 5), 2, "l05_sparse.go:19", #[{ on := 24, ground := Ground.guard }], some (24, true)⟩) rfl (by rfl) ?_
            simp only [Act.put, List.setIfInBounds_toArray, List.set_cons_zero, List.set_cons_succ]
            refine wpT_skip (o := ⟨some 157, Op.indexAddr 22 (Operand.tmp 155) (Operand.tmp 156), 0, "l05_sparse.go:19", #[{ on := 28, ground := Ground.data }, { on := 29, ground := Ground.data }, { on := 24, ground := Ground.guard }], some (24, true)⟩) rfl (by rfl) ?_
            simp only [Act.put, List.setIfInBounds_toArray, List.set_cons_zero, List.set_cons_succ]
            refine wpT_skip (o := ⟨some 158, Op.load 2 (Operand.tmp 157), 2, "l05_sparse.go:19", #[{ on := 30, ground := Ground.data }, { on := 24, ground := Ground.guard }], some (24, true)⟩) rfl (by rfl) ?_
            simp only [Act.put, List.setIfInBounds_toArray, List.set_cons_zero, List.set_cons_succ]
            refine wpT_skip (o := ⟨some 159, Op.move (Operand.tmp 0), 68, "l05_sparse.go:19", #[{ on := 24, ground := Ground.guard }], some (24, true)⟩) rfl (by rfl) ?_
            simp only [Act.put, List.setIfInBounds_toArray, List.set_cons_zero, List.set_cons_succ]
            refine wpT_skip (o := ⟨some 160, Op.nilCheck (Operand.tmp 159), 0, "l05_sparse.go:19", #[{ on := 32, ground := Ground.data }, { on := 24, ground := Ground.guard }], some (24, true)⟩) rfl (by rfl) ?_
            simp only [Act.put, List.setIfInBounds_toArray, List.set_cons_zero, List.set_cons_succ]
            refine wpT_skip (o := ⟨some 161, Op.fieldAddr 27 (Operand.tmp 160) 2, 0, "l05_sparse.go:19", #[{ on := 33, ground := Ground.data }, { on := 24, ground := Ground.guard }], some (24, true)⟩) rfl (by rfl) ?_
            simp only [Act.put, List.setIfInBounds_toArray, List.set_cons_zero, List.set_cons_succ]
            refine wpT_skip (o := ⟨some 162, Op.load 22 (Operand.tmp 161), 22, "l05_sparse.go:19", #[{ on := 34, ground := Ground.data }, { on := 24, ground := Ground.guard }], some (24, true)⟩) rfl (by rfl) ?_
            simp only [Act.put, List.setIfInBounds_toArray, List.set_cons_zero, List.set_cons_succ]
            refine wpT_skip (o := ⟨some 163, Op.move (Operand.tmp 5), 2, "l05_sparse.go:19", #[{ on := 24, ground := Ground.guard }], some (24, true)⟩) rfl (by rfl) ?_
            simp only [Act.put, List.setIfInBounds_toArray, List.set_cons_zero, List.set_cons_succ]
            refine wpT_skip (o := ⟨some 164, Op.binOp BinOp.sub 2 (Operand.tmp 163) (Operand.const (Value.int IntKind.i64 1)) 2, 2, "l05_sparse.go:19", #[{ on := 36, ground := Ground.data }, { on := 24, ground := Ground.guard }], some (24, true)⟩) rfl (by rfl) ?_
            simp only [Act.put, List.setIfInBounds_toArray, List.set_cons_zero, List.set_cons_succ]
            refine wpT_skip (o := ⟨some 165, Op.indexAddr 22 (Operand.tmp 162) (Operand.tmp 164), 0, "l05_sparse.go:19", #[{ on := 35, ground := Ground.data }, { on := 37, ground := Ground.data }, { on := 24, ground := Ground.guard }], some (24, true)⟩) rfl (by rfl) ?_
            simp only [Act.put, List.setIfInBounds_toArray, List.set_cons_zero, List.set_cons_succ]
            refine wpT_skip (o := ⟨some 166, Op.load 2 (Operand.tmp 165), 2, "l05_sparse.go:19", #[{ on := 38, ground := Ground.data }, { on := 24, ground := Ground.guard }], some (24, true)⟩) rfl (by rfl) ?_
            simp only [Act.put, List.setIfInBounds_toArray, List.set_cons_zero, List.set_cons_succ]
            refine wpT_skip (o := ⟨some 167, Op.binOp BinOp.leq 2 (Operand.tmp 158) (Operand.tmp 166) 2, 4, "l05_sparse.go:19", #[{ on := 31, ground := Ground.data }, { on := 39, ground := Ground.data }, { on := 24, ground := Ground.guard }], some (24, true)⟩) rfl (by rfl) ?_
            simp only [Act.put, List.setIfInBounds_toArray, List.set_cons_zero, List.set_cons_succ]
            refine wpT_skip (o := ⟨some 168, Op.pick (Operand.tmp 151) (Operand.tmp 167) (Operand.const (Value.bool false)), 4, "l05_sparse.go:19", #[{ on := 24, ground := Ground.data }, { on := 40, ground := Ground.data }, { on := 14, ground := Ground.guard }], some (14, false)⟩) rfl (by rfl) ?_
            simp only [Act.put, List.setIfInBounds_toArray, List.set_cons_zero, List.set_cons_succ]
            refine' wpT_det (o := ⟨some 169, Op.pick (Operand.tmp 141) (Operand.const (Value.bool true)) (Operand.tmp 168), 4, "l05_sparse.go:19", #[{ on := 14, ground := Ground.data }, { on := 41, ground := Ground.data }], none⟩) rfl (by rfl) (by rfl) (fun w' hw' => ?_) ?_; rotate_left
            · go_simp <;> first | rfl | exact ⟨rfl, rfl⟩
            simp only [Act.put, List.setIfInBounds_toArray, List.set_cons_zero, List.set_cons_succ]
            refine wpT_nil (fun w' hw' hF => ?_)
            refine wpList_nil ?_
            go_wp2_with fail
            go_ret
            exact ⟨ret_bool (by rw [Hres.out, hno]), xB.trans hw'.undrew⟩
          have hci : inR 0 (rd co k) (sd - 1) = true := inR_iff.2 hcr
          have HCR := Lib.hid hcr
          clear hcr
          by_cases hks : s0 < k
          rotate_left
          · have hks1 : ¬ (s0 : Int) < k := by omega
            have hks2 : decide ((s0 : Int) < k) = false := decide_eq_false hks1
            go_wp2_with fail
            refine wp_region_T (cs := []) [0, 1, 2, 3, 4, 5, 6, 7, 8, 9, 10, 11, 12, 13, 14, 15, 16, 17, 18, 19, 20, 21, 22, 23, 24, 25, 26, 27, 28, 29, 30, 31, 32, 33, 34, 35, 36, 37, 38, 39, 40, 41, 42] [] [12] [] (fun i__ v => match i__ with | 12 => v = (.bool true) | _ => False) (fun _ _ _ => True) (by kernel_rfl) (by kernel_rfl) (fun _ _ _ _ _ _ => trivial) ?_
            refine' wpT_det (o := ⟨some 127, Op.move (Operand.tmp 0), 68, "l05_sparse.go:19", #[], none⟩) rfl (by rfl) (by rfl) (fun w' hw' => ?_) ?_; rotate_left
            · go_simp <;> first | rfl | exact ⟨rfl, rfl⟩
            simp only [Act.put, List.setIfInBounds_toArray, List.set_cons_zero, List.set_cons_succ]
            refine' wpT_det (o := ⟨some 128, Op.nilCheck (Operand.tmp 127), 0, "l05_sparse.go:19", #[{ on := 0, ground := Ground.data }], none⟩) rfl (by rfl) (by rfl) (fun w' hw' => ?_) ?_; rotate_left
            · go_simp <;> first | rfl | exact ⟨rfl, rfl⟩
            simp only [Act.put, List.setIfInBounds_toArray, List.set_cons_zero, List.set_cons_succ]
            refine' wpT_det (o := ⟨some 129, Op.fieldAddr 27 (Operand.tmp 128) 2, 0, "l05_sparse.go:19", #[{ on := 1, ground := Ground.data }], none⟩) rfl (by rfl) (by rfl) (fun w' hw' => ?_) ?_; rotate_left
            · go_simp <;> first | rfl | exact ⟨rfl, rfl⟩
            simp only [Act.put, List.setIfInBounds_toArray, List.set_cons_zero, List.set_cons_succ]
            refine' wpT_det (o := ⟨some 130, Op.load 22 (Operand.tmp 129), 22, "l05_sparse.go:19", #[{ on := 2, ground := Ground.data }], none⟩) rfl (by rfl) (by rfl) (fun w' hw' => ?_) ?_; rotate_left
            · have a0_ := Ext.cell hw' a0; have a1_ := Ext.cell hw' a1; have a2_ := Ext.cell hw' a2; have hd_ := Ext.cell hw' hd; have hc_ := Ext.cell hw' hc; go_simp <;> first | rfl | exact ⟨rfl, rfl⟩
            simp only [Act.put, List.setIfInBounds_toArray, List.set_cons_zero, List.set_cons_succ]
            refine' wpT_det (o := ⟨some 131, Op.move (Operand.tmp 5), 2, "l05_sparse.go:19", #[], none⟩) rfl (by rfl) (by rfl) (fun w' hw' => ?_) ?_; rotate_left
            · go_simp <;> first | rfl | exact ⟨rfl, rfl⟩
            simp only [Act.put, List.setIfInBounds_toArray, List.set_cons_zero, List.set_cons_succ]
            refine' wpT_det (o := ⟨some 132, Op.indexAddr 22 (Operand.tmp 130) (Operand.tmp 131), 0, "l05_sparse.go:19", #[{ on := 3, ground := Ground.data }, { on := 4, ground := Ground.data }], none⟩) rfl (by rfl) (by rfl) (fun w' hw' => ?_) ?_; rotate_left
            · go_simp <;> first | rfl | exact ⟨rfl, rfl⟩
            simp only [Act.put, List.setIfInBounds_toArray, List.set_cons_zero, List.set_cons_succ]
            refine' wpT_det (o := ⟨some 133, Op.load 2 (Operand.tmp 132), 2, "l05_sparse.go:19", #[{ on := 5, ground := Ground.data }], none⟩) rfl (by rfl) (by rfl) (fun w' hw' => ?_) ?_; rotate_left
            · have a0_ := Ext.cell hw' a0; have a1_ := Ext.cell hw' a1; have a2_ := Ext.cell hw' a2; have hd_ := Ext.cell hw' hd; have hc_ := Ext.cell hw' hc; go_simp <;> first | rfl | exact ⟨rfl, rfl⟩
            simp only [Act.put, List.setIfInBounds_toArray, List.set_cons_zero, List.set_cons_succ]
            refine' wpT_det (o := ⟨some 134, Op.move (Operand.tmp 0), 68, "l05_sparse.go:19", #[], none⟩) rfl (by rfl) (by rfl) (fun w' hw' => ?_) ?_; rotate_left
            · go_simp <;> first | rfl | exact ⟨rfl, rfl⟩
            simp only [Act.put, List.setIfInBounds_toArray, List.set_cons_zero, List.set_cons_succ]
            refine' wpT_det (o := ⟨some 135, Op.nilCheck (Operand.tmp 134), 0, "l05_sparse.go:19", #[{ on := 7, ground := Ground.data }], none⟩) rfl (by rfl) (by rfl) (fun w' hw' => ?_) ?_; rotate_left
            · go_simp <;> first | rfl | exact ⟨rfl, rfl⟩
            simp only [Act.put, List.setIfInBounds_toArray, List.set_cons_zero, List.set_cons_succ]
            refine' wpT_det (o := ⟨some 136, Op.fieldAddr 27 (Operand.tmp 135) 0, 0, "l05_sparse.go:19", #[{ on := 8, ground := Ground.data }], none⟩) rfl (by rfl) (by rfl) (fun w' hw' => ?_) ?_; rotate_left
            · go_simp <;> first | rfl | exact ⟨rfl, rfl⟩
            simp only [Act.put, List.setIfInBounds_toArray, List.set_cons_zero, List.set_cons_succ]
            refine' wpT_det (o := ⟨some 137, Op.load 2 (Operand.tmp 136), 2, "l05_sparse.go:19", #[{ on := 9, ground := Ground.data }], none⟩) rfl (by rfl) (by rfl) (fun w' hw' => ?_) ?_; rotate_left
            · have a0_ := Ext.cell hw' a0; have a1_ := Ext.cell hw' a1; have a2_ := Ext.cell hw' a2; have hd_ := Ext.cell hw' hd; have hc_ := Ext.cell hw' hc; go_simp <;> first | rfl | exact ⟨rfl, rfl⟩
            simp only [Act.put, List.setIfInBounds_toArray, List.set_cons_zero, List.set_cons_succ]
            refine' wpT_det (o := ⟨some 138, Op.binOp BinOp.sub 2 (Operand.tmp 137) (Operand.const (Value.int IntKind.i64 1)) 2, 2, "l05_sparse.go:19", #[{ on := 10, ground := Ground.data }], none⟩) rfl (by rfl) (by rfl) (fun w' hw' => ?_) ?_; rotate_left
            · go_simp <;> first | rfl | exact ⟨rfl, rfl⟩
            simp only [Act.put, List.setIfInBounds_toArray, List.set_cons_zero, List.set_cons_succ]
            refine wpT_nd (o := ⟨some 139, Op.call { callee := Callee.value (Operand.func 111), args := #[Operand.tmp 133, Operand.const (Value.int IntKind.i64 0), Operand.tmp 138], argTypes := #[2, 2, 2] }, 4, "l05_sparse.go:19", #[{ on := 6, ground := Ground.data }, { on := 11, ground := Ground.data }], none⟩) rfl (by rfl) (by rfl) (fun w' hw' hF R__ hGo => ?_) ⟨_, rfl⟩ ?_
            · go_simp
              refine gives_enter rfl ?_
              refine (l00In_any _ _ _ _).mono ?_
              rintro e w2 ⟨rfl, rfl⟩
              exact ⟨_, rfl, hGo _ _ (Ext.refl _) (congrArg Value.bool hci) trivial⟩
            intro v hv
            obtain rfl : v = (.bool true) := hv
            simp only [Act.put, List.setIfInBounds_toArray, List.set_cons_zero, List.set_cons_succ]
            refine' wpT_det (o := ⟨some 140, Op.unOp UnOp.not 4 (Operand.tmp 139), 4, "l05_sparse.go:19", #[{ on := 12, ground := Ground.data }], none⟩) rfl (by rfl) (by rfl) (fun w' hw' => ?_) ?_; rotate_left
            · go_simp <;> first | rfl | exact ⟨rfl, rfl⟩
            simp only [Act.put, List.setIfInBounds_toArray, List.set_cons_zero, List.set_cons_succ]
            refine' wpT_det (o := ⟨some 141, Op.move (Operand.tmp 140), 4, "l05_sparse.go:19", #[{ on := 13, ground := Ground.data }, { on := 12, ground := Ground.chain }], none⟩) rfl (by rfl) (by rfl) (fun w' hw' => ?_) ?_; rotate_left
            · go_simp <;> first | rfl | exact ⟨rfl, rfl⟩
            simp only [Act.put, List.setIfInBounds_toArray, List.set_cons_zero, List.set_cons_succ]
            refine' wpT_det (o := ⟨some 142, Op.move (Operand.tmp 5), 2, "l05_sparse.go:19", #[{ on := 14, ground := Ground.guard }], some (14, false)⟩) rfl (by rfl) (by rfl) (fun w' hw' => ?_) ?_; rotate_left
            · go_simp <;> first | rfl | exact ⟨rfl, rfl⟩
            simp only [Act.put, List.setIfInBounds_toArray, List.set_cons_zero, List.set_cons_succ]
            refine' wpT_det (o := ⟨some 143, Op.move (Operand.tmp 0), 68, "l05_sparse.go:19", #[{ on := 14, ground := Ground.guard }], some (14, false)⟩) rfl (by rfl) (by rfl) (fun w' hw' => ?_) ?_; rotate_left
            · go_simp <;> first | rfl | exact ⟨rfl, rfl⟩
            simp only [Act.put, List.setIfInBounds_toArray, List.set_cons_zero, List.set_cons_succ]
            refine' wpT_det (o := ⟨some 144, Op.nilCheck (Operand.tmp 143), 0, "l05_sparse.go:19", #[{ on := 16, ground := Ground.data }, { on := 14, ground := Ground.guard }], some (14, false)⟩) rfl (by rfl) (by rfl) (fun w' hw' => ?_) ?_; rotate_left
            · go_simp <;> first | rfl | exact ⟨rfl, rfl⟩
            simp only [Act.put, List.setIfInBounds_toArray, List.set_cons_zero, List.set_cons_succ]
            refine' wpT_det (o := ⟨some 145, Op.fieldAddr 27 (Operand.tmp 144) 1, 0, "l05_sparse.go:19", #[{ on := 17, ground := Ground.data }, { on := 14, ground := Ground.guard }], some (14, false)⟩) rfl (by rfl) (by rfl) (fun w' hw' => ?_) ?_; rotate_left
            · go_simp <;> first | rfl | exact ⟨rfl, rfl⟩
            simp only [Act.put, List.setIfInBounds_toArray, List.set_cons_zero, List.set_cons_succ]
            refine' wpT_det (o := ⟨some 146, Op.load 22 (Operand.tmp 145), 22, "l05_sparse.go:19", #[{ on := 18, ground := Ground.data }, { on := 14, ground := Ground.guard }], some (14, false)⟩) rfl (by rfl) (by rfl) (fun w' hw' => ?_) ?_; rotate_left
            · have a0_ := Ext.cell hw' a0; have a1_ := Ext.cell hw' a1; have a2_ := Ext.cell hw' a2; have hd_ := Ext.cell hw' hd; have hc_ := Ext.cell hw' hc; go_simp <;> first | rfl | exact ⟨rfl, rfl⟩
            simp only [Act.put, List.setIfInBounds_toArray, List.set_cons_zero, List.set_cons_succ]
            refine' wpT_det (o := ⟨some 147, Op.move (Operand.tmp 4), 2, "l05_sparse.go:19", #[{ on := 14, ground := Ground.guard }], some (14, false)⟩) rfl (by rfl) (by rfl) (fun w' hw' => ?_) ?_; rotate_left
            · go_simp <;> first | rfl | exact ⟨rfl, rfl⟩
            simp only [Act.put, List.setIfInBounds_toArray, List.set_cons_zero, List.set_cons_succ]
            refine' wpT_det (o := ⟨some 148, Op.indexAddr 22 (Operand.tmp 146) (Operand.tmp 147), 0, "l05_sparse.go:19", #[{ on := 19, ground := Ground.data }, { on := 20, ground := Ground.data }, { on := 14, ground := Ground.guard }], some (14, false)⟩) rfl (by rfl) (by rfl) (fun w' hw' => ?_) ?_; rotate_left
            · go_simp <;> first | rfl | exact ⟨rfl, rfl⟩
            simp only [Act.put, List.setIfInBounds_toArray, List.set_cons_zero, List.set_cons_succ]
            refine' wpT_det (o := ⟨some 149, Op.load 2 (Operand.tmp 148), 2, "l05_sparse.go:19", #[{ on := 21, ground := Ground.data }, { on := 14, ground := Ground.guard }], some (14, false)⟩) rfl (by rfl) (by rfl) (fun w' hw' => ?_) ?_; rotate_left
            · have a0_ := Ext.cell hw' a0; have a1_ := Ext.cell hw' a1; have a2_ := Ext.cell hw' a2; have hd_ := Ext.cell hw' hd; have hc_ := Ext.cell hw' hc; go_simp <;> first | rfl | exact ⟨rfl, rfl⟩
            simp only [Act.put, List.setIfInBounds_toArray, List.set_cons_zero, List.set_cons_succ]
            refine' wpT_det (o := ⟨some 150, Op.binOp BinOp.gtr 2 (Operand.tmp 142) (Operand.tmp 149) 2, 4, "l05_sparse.go:19", #[{ on := 15, ground := Ground.data }, { on := 22, ground := Ground.data }, { on := 14, ground := Ground.guard }], some (14, false)⟩) rfl (by rfl) (by rfl) (fun w' hw' => ?_) ?_; rotate_left
            · go_simp <;> first | rfl | exact ⟨rfl, rfl⟩
            simp only [Act.put, List.setIfInBounds_toArray, List.set_cons_zero, List.set_cons_succ]
            refine' wpT_det (o := ⟨some 151, Op.move (Operand.tmp 150), 4, "l05_sparse.go:19", #[{ on := 23, ground := Ground.data }, { on := 14, ground := Ground.chain }, { on := 14, ground := Ground.guard }], some (14, false)⟩) rfl (by rfl) (by rfl) (fun w' hw' => ?_) ?_; rotate_left
            · go_simp <;> first | rfl | exact ⟨rfl, rfl⟩
            simp only [Act.put, List.setIfInBounds_toArray, List.set_cons_zero, List.set_cons_succ]
            refine wpT_skip (o := ⟨some 152, Op.move (Operand.tmp 0), 68, "l05_sparse.go:19", #[{ on := 24, ground := Ground.guard }], some (24, true)⟩) rfl (by rfl) ?_
            simp only [Act.put, List.setIfInBounds_toArray, List.set_cons_zero, List.set_cons_succ]
            refine wpT_skip (o := ⟨some 153, Op.nilCheck (Operand.tmp 152), 0, "l05_sparse.go:19", #[{ on := 25, ground := Ground.data }, { on := 24, ground := Ground.guard }], some (24, true)⟩) rfl (by rfl) ?_
            simp only [Act.put, List.setIfInBounds_toArray, List.set_cons_zero, List.set_cons_succ]
            refine wpT_skip (o := ⟨some 154, Op.fieldAddr 27 (Operand.tmp 153) 2, 0, "l05_sparse.go:19", #[{ on := 26, ground := Ground.data }, { on := 24, ground := Ground.guard }], some (24, true)⟩) rfl (by rfl) ?_
            simp only [Act.put, List.setIfInBounds_toArray, List.set_cons_zero, List.set_cons_succ]
            refine wpT_skip (o := ⟨some 155, Op.load 22 (Operand.tmp 154), 22, "l05_sparse.go:19", #[{ on := 27, ground := Ground.data }, { on := 24, ground := Ground.guard }], some (24, true)⟩) rfl (by rfl) ?_
            simp only [Act.put, List.setIfInBounds_toArray, List.set_cons_zero, List.set_cons_succ]
            refine wpT_skip (o := ⟨some 156, Op.move (Operand.tmp 5), 2, "l05_sparse.go:19", #[{ on := 24, ground := Ground.guard }], some (24, true)⟩) rfl (by rfl) ?_
            simp only [Act.put, List.setIfInBounds_toArray, List.set_cons_zero, List.set_cons_succ]
            refine wpT_skip (o := ⟨some 157, Op.indexAddr 22 (Operand.tmp 155) (Operand.tmp 156), 0, "l05_sparse.go:19", #[{ on := 28, ground := Ground.data }, { on := 29, ground := Ground.data }, { on := 24, ground := Ground.guard }], some (24, true)⟩) rfl (by rfl) ?_
            simp only [Act.put, List.setIfInBounds_toArray, List.set_cons_zero, List.set_cons_succ]
            refine wpT_skip (o := ⟨some 158, Op.load 2 (Operand.tmp 157), 2, "l05_sparse.go:19", #[{ on := 30, ground := Ground.data }, { on := 24, ground := Ground.guard }], some (24, true)⟩) rfl (by rfl) ?_
            simp only [Act.put, List.setIfInBounds_toArray, List.set_cons_zero, List.set_cons_succ]
            refine wpT_skip (o := ⟨some 159, Op.move (Operand.tmp 0), 68, "l05_sparse.go:19", #[{ on := 24, ground := Ground.guard }], some (24, true)⟩) rfl (by rfl) ?_
            simp only [Act.put, List.setIfInBounds_toArray, List.set_cons_zero, List.set_cons_succ]
            refine wpT_skip (o := ⟨some 160, Op.nilCheck (Operand.tmp 159), 0, "l05_sparse.go:19", #[{ on := 32, ground := Ground.data }, { on := 24, ground := Ground.guard }], some (24, true)⟩) rfl (by rfl) ?_
            simp only [Act.put, List.setIfInBounds_toArray, List.set_cons_zero, List.set_cons_succ]
            refine wpT_skip (o := ⟨some 161, Op.fieldAddr 27 (Operand.tmp 160) 2, 0, "l05_sparse.go:19", #[{ on := 33, ground := Ground.data }, { on := 24, ground := Ground.guard }], some (24, true)⟩) rfl (by rfl) ?_
            simp only [Act.put, List.setIfInBounds_toArray, List.set_cons_zero, List.set_cons_succ]
            refine wpT_skip (o := ⟨some 162, Op.load 22 (Operand.tmp 161), 22, "l05_sparse.go:19", #[{ on := 34, ground := Ground.data }, { on := 24, ground := Ground.guard }], some (24, true)⟩) rfl (by rfl) ?_
            simp only [Act.put, List.setIfInBounds_toArray, List.set_cons_zero, List.set_cons_succ]
            refine wpT_skip (o := ⟨some 163, Op.move (Operand.tmp 5), 2, "l05_sparse.go:19", #[{ on := 24, ground := Ground.guard }], some (24, true)⟩) rfl (by rfl) ?_
            simp only [Act.put, List.setIfInBounds_toArray, List.set_cons_zero, List.set_cons_succ]
            refine wpT_skip (o := ⟨some 164, Op.binOp BinOp.sub 2 (Operand.tmp 163) (Operand.const (Value.int IntKind.i64 1)) 2, 2, "l05_sparse.go:19", #[{ on := 36, ground := Ground.data }, { on := 24, ground := Ground.guard }], some (24, true)⟩) rfl (by rfl) ?_
            simp only [Act.put, List.setIfInBounds_toArray, List.set_cons_zero, List.set_cons_succ]
            refine wpT_skip (o := ⟨some 165, Op.indexAddr 22 (Operand.tmp 162) (Operand.tmp 164), 0, "l05_sparse.go:19", #[{ on := 35, ground := Ground.data }, { on := 37, ground := Ground.data }, { on := 24, ground := Ground.guard }], some (24, true)⟩) rfl (by rfl) ?_
            simp only [Act.put, List.setIfInBounds_toArray, List.set_cons_zero, List.set_cons_succ]
            refine wpT_skip (o := ⟨some 166, Op.load 2 (Operand.tmp 165), 2, "l05_sparse.go:19", #[{ on := 38, ground := Ground.data }, { on := 24, ground := Ground.guard }], some (24, true)⟩) rfl (by rfl) ?_
            simp only [Act.put, List.setIfInBounds_toArray, List.set_cons_zero, List.set_cons_succ]
            refine wpT_skip (o := ⟨some 167, Op.binOp BinOp.leq 2 (Operand.tmp 158) (Operand.tmp 166) 2, 4, "l05_sparse.go:19", #[{ on := 31, ground := Ground.data }, { on := 39, ground := Ground.data }, { on := 24, ground := Ground.guard }], some (24, true)⟩) rfl (by rfl) ?_
            simp only [Act.put, List.setIfInBounds_toArray, List.set_cons_zero, List.set_cons_succ]
            refine' wpT_det (o := ⟨some 168, Op.pick (Operand.tmp 151) (Operand.tmp 167) (Operand.const (Value.bool false)), 4, "l05_sparse.go:19", #[{ on := 24, ground := Ground.data }, { on := 40, ground := Ground.data }, { on := 14, ground := Ground.guard }], some (14, false)⟩) rfl (by rfl) (by rfl) (fun w' hw' => ?_) ?_; rotate_left
            · go_simp <;> first | rfl | exact ⟨rfl, rfl⟩
            simp only [Act.put, List.setIfInBounds_toArray, List.set_cons_zero, List.set_cons_succ]
            refine' wpT_det (o := ⟨some 169, Op.pick (Operand.tmp 141) (Operand.const (Value.bool true)) (Operand.tmp 168), 4, "l05_sparse.go:19", #[{ on := 14, ground := Ground.data }, { on := 41, ground := Ground.data }], none⟩) rfl (by rfl) (by rfl) (fun w' hw' => ?_) ?_; rotate_left
            · go_simp <;> first | rfl | exact ⟨rfl, rfl⟩
            simp only [Act.put, List.setIfInBounds_toArray, List.set_cons_zero, List.set_cons_succ]
            refine wpT_nil (fun w' hw' hF => ?_)
            refine wpList_nil ?_
            go_wp2_with fail
            go_roundw
            case rel =>
              refine ⟨k + 1, by omega, by omega, by go_num, fun k' h1 h2 => ?_, fun k' h1 h2 => by omega, hxB.trans hw'.undrew⟩
              by_cases e : k' = k
              · subst e; have := HCR.out; omega
              · exact hinr.out k' h1 (by omega)
            case measure => simp [intOf]; omega
          have hks1 : (s0 : Int) < k := by omega
          have hks2 : decide ((s0 : Int) < k) = true := decide_eq_true hks1
          have k1 : 1 ≤ (k : Int) := by omega
          have k2 : (k : Int) - 1 < m := by omega
          have g3 : IntKind.i64.wrap ((k : Int) - 1) = (k : Int) - 1 := IntWalk.i64_in _ (by omega)
          have q2 := (hq.below xB).int ((k : Int) - 1) (by omega) k2
          obtain ⟨ad', had, hd1'⟩ := q2
          obtain rfl := Option.some.inj had
          clear had
          rw [Int.pred_toNat, Int.toNat_natCast] at hd1'
          by_cases hge : rd co k ≤ rd co ((k : Int) - 1)
          · have hno : isSp sd st co va = false := isSp_not fun h => by
              have := h.s10 i (k - 1) hlt (by have := HS0.out; omega) (by have := HT1.out; omega)
              have e1 : ((k - 1 : Nat) : Int) = (k : Int) - 1 := by omega
              rw [e1] at this
              have e2 : (k : Int) - 1 + 1 = k := by omega
              rw [e2] at this
              omega
            have hge' : decide (rd co k ≤ rd co ((k : Int) - 1)) = true := decide_eq_true hge
            go_wp2_with fail
            refine wp_region_T (cs := []) [0, 1, 2, 3, 4, 5, 6, 7, 8, 9, 10, 11, 12, 13, 14, 15, 16, 17, 18, 19, 20, 21, 22, 23, 24, 25, 26, 27, 28, 29, 30, 31, 32, 33, 34, 35, 36, 37, 38, 39, 40, 41, 42] [] [12] [] (fun i__ v => match i__ with | 12 => v = (.bool true) | _ => False) (fun _ _ _ => True) (by kernel_rfl) (by kernel_rfl) (fun _ _ _ _ _ _ => trivial) ?_
            refine' wpT_det (o := ⟨some 127, Op.move (Operand.tmp 0), 68, "l05_sparse.go:19", #[], none⟩) rfl (by rfl) (by rfl) (fun w' hw' => ?_) ?_; rotate_left
            · go_simp <;> first | rfl | exact ⟨rfl, rfl⟩
            simp only [Act.put, List.setIfInBounds_toArray, List.set_cons_zero, List.set_cons_succ]
            refine' wpT_det (o := ⟨some 128, Op.nilCheck (Operand.tmp 127), 0, "l05_sparse.go:19", #[{ on := 0, ground := Ground.data }], none⟩) rfl (by rfl) (by rfl) (fun w' hw' => ?_) ?_; rotate_left
            · go_simp <;> first | rfl | exact ⟨rfl, rfl⟩
            simp only [Act.put, List.setIfInBounds_toArray, List.set_cons_zero, List.set_cons_succ]
            refine' wpT_det (o := ⟨some 129, Op.fieldAddr 27 (Operand.tmp 128) 2, 0, "l05_sparse.go:19", #[{ on := 1, ground := Ground.data }], none⟩) rfl (by rfl) (by rfl) (fun w' hw' => ?_) ?_; rotate_left
            · go_simp <;> first | rfl | exact ⟨rfl, rfl⟩
            simp only [Act.put, List.setIfInBounds_toArray, List.set_cons_zero, List.set_cons_succ]
            refine' wpT_det (o := ⟨some 130, Op.load 22 (Operand.tmp 129), 22, "l05_sparse.go:19", #[{ on := 2, ground := Ground.data }], none⟩) rfl (by rfl) (by rfl) (fun w' hw' => ?_) ?_; rotate_left
            · have a0_ := Ext.cell hw' a0; have a1_ := Ext.cell hw' a1; have a2_ := Ext.cell hw' a2; have hd_ := Ext.cell hw' hd; have hc_ := Ext.cell hw' hc; have hd1'_ := Ext.cell hw' hd1'; go_simp <;> first | rfl | exact ⟨rfl, rfl⟩
            simp only [Act.put, List.setIfInBounds_toArray, List.set_cons_zero, List.set_cons_succ]
            refine' wpT_det (o := ⟨some 131, Op.move (Operand.tmp 5), 2, "l05_sparse.go:19", #[], none⟩) rfl (by rfl) (by rfl) (fun w' hw' => ?_) ?_; rotate_left
            · go_simp <;> first | rfl | exact ⟨rfl, rfl⟩
            simp only [Act.put, List.setIfInBounds_toArray, List.set_cons_zero, List.set_cons_succ]
            refine' wpT_det (o := ⟨some 132, Op.indexAddr 22 (Operand.tmp 130) (Operand.tmp 131), 0, "l05_sparse.go:19", #[{ on := 3, ground := Ground.data }, { on := 4, ground := Ground.data }], none⟩) rfl (by rfl) (by rfl) (fun w' hw' => ?_) ?_; rotate_left
            · go_simp <;> first | rfl | exact ⟨rfl, rfl⟩
            simp only [Act.put, List.setIfInBounds_toArray, List.set_cons_zero, List.set_cons_succ]
            refine' wpT_det (o := ⟨some 133, Op.load 2 (Operand.tmp 132), 2, "l05_sparse.go:19", #[{ on := 5, ground := Ground.data }], none⟩) rfl (by rfl) (by rfl) (fun w' hw' => ?_) ?_; rotate_left
            · have a0_ := Ext.cell hw' a0; have a1_ := Ext.cell hw' a1; have a2_ := Ext.cell hw' a2; have hd_ := Ext.cell hw' hd; have hc_ := Ext.cell hw' hc; have hd1'_ := Ext.cell hw' hd1'; go_simp <;> first | rfl | exact ⟨rfl, rfl⟩
            simp only [Act.put, List.setIfInBounds_toArray, List.set_cons_zero, List.set_cons_succ]
            refine' wpT_det (o := ⟨some 134, Op.move (Operand.tmp 0), 68, "l05_sparse.go:19", #[], none⟩) rfl (by rfl) (by rfl) (fun w' hw' => ?_) ?_; rotate_left
            · go_simp <;> first | rfl | exact ⟨rfl, rfl⟩
            simp only [Act.put, List.setIfInBounds_toArray, List.set_cons_zero, List.set_cons_succ]
            refine' wpT_det (o := ⟨some 135, Op.nilCheck (Operand.tmp 134), 0, "l05_sparse.go:19", #[{ on := 7, ground := Ground.data }], none⟩) rfl (by rfl) (by rfl) (fun w' hw' => ?_) ?_; rotate_left
            · go_simp <;> first | rfl | exact ⟨rfl, rfl⟩
            simp only [Act.put, List.setIfInBounds_toArray, List.set_cons_zero, List.set_cons_succ]
            refine' wpT_det (o := ⟨some 136, Op.fieldAddr 27 (Operand.tmp 135) 0, 0, "l05_sparse.go:19", #[{ on := 8, ground := Ground.data }], none⟩) rfl (by rfl) (by rfl) (fun w' hw' => ?_) ?_; rotate_left
            · go_simp <;> first | rfl | exact ⟨rfl, rfl⟩
            simp only [Act.put, List.setIfInBounds_toArray, List.set_cons_zero, List.set_cons_succ]
            refine' wpT_det (o := ⟨some 137, Op.load 2 (Operand.tmp 136), 2, "l05_sparse.go:19", #[{ on := 9, ground := Ground.data }], none⟩) rfl (by rfl) (by rfl) (fun w' hw' => ?_) ?_; rotate_left
            · have a0_ := Ext.cell hw' a0; have a1_ := Ext.cell hw' a1; have a2_ := Ext.cell hw' a2; have hd_ := Ext.cell hw' hd; have hc_ := Ext.cell hw' hc; have hd1'_ := Ext.cell hw' hd1'; go_simp <;> first | rfl | exact ⟨rfl, rfl⟩
            simp only [Act.put, List.setIfInBounds_toArray, List.set_cons_zero, List.set_cons_succ]
            refine' wpT_det (o := ⟨some 138, Op.binOp BinOp.sub 2 (Operand.tmp 137) (Operand.const (Value.int IntKind.i64 1)) 2, 2, "l05_sparse.go:19", #[{ on := 10, ground := Ground.data }], none⟩) rfl (by rfl) (by rfl) (fun w' hw' => ?_) ?_; rotate_left
            · go_simp <;> first | rfl | exact ⟨rfl, rfl⟩
            simp only [Act.put, List.setIfInBounds_toArray, List.set_cons_zero, List.set_cons_succ]
            refine wpT_nd (o := ⟨some 139, Op.call { callee := Callee.value (Operand.func 111), args := #[Operand.tmp 133, Operand.const (Value.int IntKind.i64 0), Operand.tmp 138], argTypes := #[2, 2, 2] }, 4, "l05_sparse.go:19", #[{ on := 6, ground := Ground.data }, { on := 11, ground := Ground.data }], none⟩) rfl (by rfl) (by rfl) (fun w' hw' hF R__ hGo => ?_) ⟨_, rfl⟩ ?_
            · go_simp
              refine gives_enter rfl ?_
              refine (l00In_any _ _ _ _).mono ?_
              rintro e w2 ⟨rfl, rfl⟩
              exact ⟨_, rfl, hGo _ _ (Ext.refl _) (congrArg Value.bool hci) trivial⟩
            intro v hv
            obtain rfl : v = (.bool true) := hv
            simp only [Act.put, List.setIfInBounds_toArray, List.set_cons_zero, List.set_cons_succ]
            refine' wpT_det (o := ⟨some 140, Op.unOp UnOp.not 4 (Operand.tmp 139), 4, "l05_sparse.go:19", #[{ on := 12, ground := Ground.data }], none⟩) rfl (by rfl) (by rfl) (fun w' hw' => ?_) ?_; rotate_left
            · go_simp <;> first | rfl | exact ⟨rfl, rfl⟩
            simp only [Act.put, List.setIfInBounds_toArray, List.set_cons_zero, List.set_cons_succ]
            refine' wpT_det (o := ⟨some 141, Op.move (Operand.tmp 140), 4, "l05_sparse.go:19", #[{ on := 13, ground := Ground.data }, { on := 12, ground := Ground.chain }], none⟩) rfl (by rfl) (by rfl) (fun w' hw' => ?_) ?_; rotate_left
            · go_simp <;> first | rfl | exact ⟨rfl, rfl⟩
            simp only [Act.put, List.setIfInBounds_toArray, List.set_cons_zero, List.set_cons_succ]
            refine' wpT_det (o := ⟨some 142, Op.move (Operand.tmp 5), 2, "l05_sparse.go:19", #[{ on := 14, ground := Ground.guard }], some (14, false)⟩) rfl (by rfl) (by rfl) (fun w' hw' => ?_) ?_; rotate_left
            · go_simp <;> first | rfl | exact ⟨rfl, rfl⟩
            simp only [Act.put, List.setIfInBounds_toArray, List.set_cons_zero, List.set_cons_succ]
            refine' wpT_det (o := ⟨some 143, Op.move (Operand.tmp 0), 68, "l05_sparse.go:19", #[{ on := 14, ground := Ground.guard }], some (14, false)⟩) rfl (by rfl) (by rfl) (fun w' hw' => ?_) ?_; rotate_left
            · go_simp <;> first | rfl | exact ⟨rfl, rfl⟩
            simp only [Act.put, List.setIfInBounds_toArray, List.set_cons_zero, List.set_cons_succ]
            refine' wpT_det (o := ⟨some 144, Op.nilCheck (Operand.tmp 143), 0, "l05_sparse.go:19", #[{ on := 16, ground := Ground.data }, { on := 14, ground := Ground.guard }], some (14, false)⟩) rfl (by rfl) (by rfl) (fun w' hw' => ?_) ?_; rotate_left
            · go_simp <;> first | rfl | exact ⟨rfl, rfl⟩
            simp only [Act.put, List.setIfInBounds_toArray, List.set_cons_zero, List.set_cons_succ]
            refine' wpT_det (o := ⟨some 145, Op.fieldAddr 27 (Operand.tmp 144) 1, 0, "l05_sparse.go:19", #[{ on := 17, ground := Ground.data }, { on := 14, ground := Ground.guard }], some (14, false)⟩) rfl (by rfl) (by rfl) (fun w' hw' => ?_) ?_; rotate_left
            · go_simp <;> first | rfl | exact ⟨rfl, rfl⟩
            simp only [Act.put, List.setIfInBounds_toArray, List.set_cons_zero, List.set_cons_succ]
            refine' wpT_det (o := ⟨some 146, Op.load 22 (Operand.tmp 145), 22, "l05_sparse.go:19", #[{ on := 18, ground := Ground.data }, { on := 14, ground := Ground.guard }], some (14, false)⟩) rfl (by rfl) (by rfl) (fun w' hw' => ?_) ?_; rotate_left
            · have a0_ := Ext.cell hw' a0; have a1_ := Ext.cell hw' a1; have a2_ := Ext.cell hw' a2; have hd_ := Ext.cell hw' hd; have hc_ := Ext.cell hw' hc; have hd1'_ := Ext.cell hw' hd1'; go_simp <;> first | rfl | exact ⟨rfl, rfl⟩
            simp only [Act.put, List.setIfInBounds_toArray, List.set_cons_zero, List.set_cons_succ]
            refine' wpT_det (o := ⟨some 147, Op.move (Operand.tmp 4), 2, "l05_sparse.go:19", #[{ on := 14, ground := Ground.guard }], some (14, false)⟩) rfl (by rfl) (by rfl) (fun w' hw' => ?_) ?_; rotate_left
            · go_simp <;> first | rfl | exact ⟨rfl, rfl⟩
            simp only [Act.put, List.setIfInBounds_toArray, List.set_cons_zero, List.set_cons_succ]
            refine' wpT_det (o := ⟨some 148, Op.indexAddr 22 (Operand.tmp 146) (Operand.tmp 147), 0, "l05_sparse.go:19", #[{ on := 19, ground := Ground.data }, { on := 20, ground := Ground.data }, { on := 14, ground := Ground.guard }], some (14, false)⟩) rfl (by rfl) (by rfl) (fun w' hw' => ?_) ?_; rotate_left
            · go_simp <;> first | rfl | exact ⟨rfl, rfl⟩
            simp only [Act.put, List.setIfInBounds_toArray, List.set_cons_zero, List.set_cons_succ]
            refine' wpT_det (o := ⟨some 149, Op.load 2 (Operand.tmp 148), 2, "l05_sparse.go:19", #[{ on := 21, ground := Ground.data }, { on := 14, ground := Ground.guard }], some (14, false)⟩) rfl (by rfl) (by rfl) (fun w' hw' => ?_) ?_; rotate_left
            · have a0_ := Ext.cell hw' a0; have a1_ := Ext.cell hw' a1; have a2_ := Ext.cell hw' a2; have hd_ := Ext.cell hw' hd; have hc_ := Ext.cell hw' hc; have hd1'_ := Ext.cell hw' hd1'; go_simp <;> first | rfl | exact ⟨rfl, rfl⟩
            simp only [Act.put, List.setIfInBounds_toArray, List.set_cons_zero, List.set_cons_succ]
            refine' wpT_det (o := ⟨some 150, Op.binOp BinOp.gtr 2 (Operand.tmp 142) (Operand.tmp 149) 2, 4, "l05_sparse.go:19", #[{ on := 15, ground := Ground.data }, { on := 22, ground := Ground.data }, { on := 14, ground := Ground.guard }], some (14, false)⟩) rfl (by rfl) (by rfl) (fun w' hw' => ?_) ?_; rotate_left
            · go_simp <;> first | rfl | exact ⟨rfl, rfl⟩
            simp only [Act.put, List.setIfInBounds_toArray, List.set_cons_zero, List.set_cons_succ]
            refine' wpT_det (o := ⟨some 151, Op.move (Operand.tmp 150), 4, "l05_sparse.go:19", #[{ on := 23, ground := Ground.data }, { on := 14, ground := Ground.chain }, { on := 14, ground := Ground.guard }], some (14, false)⟩) rfl (by rfl) (by rfl) (fun w' hw' => ?_) ?_; rotate_left
            · go_simp <;> first | rfl | exact ⟨rfl, rfl⟩
            simp only [Act.put, List.setIfInBounds_toArray, List.set_cons_zero, List.set_cons_succ]
            refine' wpT_det (o := ⟨some 152, Op.move (Operand.tmp 0), 68, "l05_sparse.go:19", #[{ on := 24, ground := Ground.guard }], some (24, true)⟩) rfl (by rfl) (by rfl) (fun w' hw' => ?_) ?_; rotate_left
            · go_simp <;> first | rfl | exact ⟨rfl, rfl⟩
            simp only [Act.put, List.setIfInBounds_toArray, List.set_cons_zero, List.set_cons_succ]
            refine' wpT_det (o := ⟨some 153, Op.nilCheck (Operand.tmp 152), 0, "l05_sparse.go:19", #[{ on := 25, ground := Ground.data }, { on := 24, ground := Ground.guard }], some (24, true)⟩) rfl (by rfl) (by rfl) (fun w' hw' => ?_) ?_; rotate_left
            · go_simp <;> first | rfl | exact ⟨rfl, rfl⟩
            simp only [Act.put, List.setIfInBounds_toArray, List.set_cons_zero, List.set_cons_succ]
            refine' wpT_det (o := ⟨some 154, Op.fieldAddr 27 (Operand.tmp 153) 2, 0, "l05_sparse.go:19", #[{ on := 26, ground := Ground.data }, { on := 24, ground := Ground.guard }], some (24, true)⟩) rfl (by rfl) (by rfl) (fun w' hw' => ?_) ?_; rotate_left
            · go_simp <;> first | rfl | exact ⟨rfl, rfl⟩
            simp only [Act.put, List.setIfInBounds_toArray, List.set_cons_zero, List.set_cons_succ]
            refine' wpT_det (o := ⟨some 155, Op.load 22 (Operand.tmp 154), 22, "l05_sparse.go:19", #[{ on := 27, ground := Ground.data }, { on := 24, ground := Ground.guard }], some (24, true)⟩) rfl (by rfl) (by rfl) (fun w' hw' => ?_) ?_; rotate_left
            · have a0_ := Ext.cell hw' a0; have a1_ := Ext.cell hw' a1; have a2_ := Ext.cell hw' a2; have hd_ := Ext.cell hw' hd; have hc_ := Ext.cell hw' hc; have hd1'_ := Ext.cell hw' hd1'; go_simp <;> first | rfl | exact ⟨rfl, rfl⟩
            simp only [Act.put, List.setIfInBounds_toArray, List.set_cons_zero, List.set_cons_succ]
            refine' wpT_det (o := ⟨some 156, Op.move (Operand.tmp 5), 2, "l05_sparse.go:19", #[{ on := 24, ground := Ground.guard }], some (24, true)⟩) rfl (by rfl) (by rfl) (fun w' hw' => ?_) ?_; rotate_left
            · go_simp <;> first | rfl | exact ⟨rfl, rfl⟩
            simp only [Act.put, List.setIfInBounds_toArray, List.set_cons_zero, List.set_cons_succ]
            refine' wpT_det (o := ⟨some 157, Op.indexAddr 22 (Operand.tmp 155) (Operand.tmp 156), 0, "l05_sparse.go:19", #[{ on := 28, ground := Ground.data }, { on := 29, ground := Ground.data }, { on := 24, ground := Ground.guard }], some (24, true)⟩) rfl (by rfl) (by rfl) (fun w' hw' => ?_) ?_; rotate_left
            · go_simp <;> first | rfl | exact ⟨rfl, rfl⟩
            simp only [Act.put, List.setIfInBounds_toArray, List.set_cons_zero, List.set_cons_succ]
            refine' wpT_det (o := ⟨some 158, Op.load 2 (Operand.tmp 157), 2, "l05_sparse.go:19", #[{ on := 30, ground := Ground.data }, { on := 24, ground := Ground.guard }], some (24, true)⟩) rfl (by rfl) (by rfl) (fun w' hw' => ?_) ?_; rotate_left
            · have a0_ := Ext.cell hw' a0; have a1_ := Ext.cell hw' a1; have a2_ := Ext.cell hw' a2; have hd_ := Ext.cell hw' hd; have hc_ := Ext.cell hw' hc; have hd1'_ := Ext.cell hw' hd1'; go_simp <;> first | rfl | exact ⟨rfl, rfl⟩
            simp only [Act.put, List.setIfInBounds_toArray, List.set_cons_zero, List.set_cons_succ]
            refine' wpT_det (o := ⟨some 159, Op.move (Operand.tmp 0), 68, "l05_sparse.go:19", #[{ on := 24, ground := Ground.guard }], some (24, true)⟩) rfl (by rfl) (by rfl) (fun w' hw' => ?_) ?_; rotate_left
            · go_simp <;> first | rfl | exact ⟨rfl, rfl⟩
            simp only [Act.put, List.setIfInBounds_toArray, List.set_cons_zero, List.set_cons_succ]
            refine' wpT_det (o := ⟨some 160, Op.nilCheck (Operand.tmp 159), 0, "l05_sparse.go:19", #[{ on := 32, ground := Ground.data }, { on := 24, ground := Ground.guard }], some (24, true)⟩) rfl (by rfl) (by rfl) (fun w' hw' => ?_) ?_; rotate_left
            · go_simp <;> first | rfl | exact ⟨rfl, rfl⟩
            simp only [Act.put, List.setIfInBounds_toArray, List.set_cons_zero, List.set_cons_succ]
            refine' wpT_det (o := ⟨some 161, Op.fieldAddr 27 (Operand.tmp 160) 2, 0, "l05_sparse.go:19", #[{ on := 33, ground := Ground.data }, { on := 24, ground := Ground.guard }], some (24, true)⟩) rfl (by rfl) (by rfl) (fun w' hw' => ?_) ?_; rotate_left
            · go_simp <;> first | rfl | exact ⟨rfl, rfl⟩
            simp only [Act.put, List.setIfInBounds_toArray, List.set_cons_zero, List.set_cons_succ]
            refine' wpT_det (o := ⟨some 162, Op.load 22 (Operand.tmp 161), 22, "l05_sparse.go:19", #[{ on := 34, ground := Ground.data }, { on := 24, ground := Ground.guard }], some (24, true)⟩) rfl (by rfl) (by rfl) (fun w' hw' => ?_) ?_; rotate_left
            · have a0_ := Ext.cell hw' a0; have a1_ := Ext.cell hw' a1; have a2_ := Ext.cell hw' a2; have hd_ := Ext.cell hw' hd; have hc_ := Ext.cell hw' hc; have hd1'_ := Ext.cell hw' hd1'; go_simp <;> first | rfl | exact ⟨rfl, rfl⟩
            simp only [Act.put, List.setIfInBounds_toArray, List.set_cons_zero, List.set_cons_succ]
            refine' wpT_det (o := ⟨some 163, Op.move (Operand.tmp 5), 2, "l05_sparse.go:19", #[{ on := 24, ground := Ground.guard }], some (24, true)⟩) rfl (by rfl) (by rfl) (fun w' hw' => ?_) ?_; rotate_left
            · go_simp <;> first | rfl | exact ⟨rfl, rfl⟩
            simp only [Act.put, List.setIfInBounds_toArray, List.set_cons_zero, List.set_cons_succ]
            refine' wpT_det (o := ⟨some 164, Op.binOp BinOp.sub 2 (Operand.tmp 163) (Operand.const (Value.int IntKind.i64 1)) 2, 2, "l05_sparse.go:19", #[{ on := 36, ground := Ground.data }, { on := 24, ground := Ground.guard }], some (24, true)⟩) rfl (by rfl) (by rfl) (fun w' hw' => ?_) ?_; rotate_left
            · go_simp <;> first | rfl | exact ⟨rfl, rfl⟩
            simp only [Act.put, List.setIfInBounds_toArray, List.set_cons_zero, List.set_cons_succ]
            refine' wpT_det (o := ⟨some 165, Op.indexAddr 22 (Operand.tmp 162) (Operand.tmp 164), 0, "l05_sparse.go:19", #[{ on := 35, ground := Ground.data }, { on := 37, ground := Ground.data }, { on := 24, ground := Ground.guard }], some (24, true)⟩) rfl (by rfl) (by rfl) (fun w' hw' => ?_) ?_; rotate_left
            · go_simp <;> first | rfl | exact ⟨rfl, rfl⟩
            simp only [Act.put, List.setIfInBounds_toArray, List.set_cons_zero, List.set_cons_succ]
            refine' wpT_det (o := ⟨some 166, Op.load 2 (Operand.tmp 165), 2, "l05_sparse.go:19", #[{ on := 38, ground := Ground.data }, { on := 24, ground := Ground.guard }], some (24, true)⟩) rfl (by rfl) (by rfl) (fun w' hw' => ?_) ?_; rotate_left
            · have a0_ := Ext.cell hw' a0; have a1_ := Ext.cell hw' a1; have a2_ := Ext.cell hw' a2; have hd_ := Ext.cell hw' hd; have hc_ := Ext.cell hw' hc; have hd1'_ := Ext.cell hw' hd1'; go_simp <;> first | rfl | exact ⟨rfl, rfl⟩
            simp only [Act.put, List.setIfInBounds_toArray, List.set_cons_zero, List.set_cons_succ]
            refine' wpT_det (o := ⟨some 167, Op.binOp BinOp.leq 2 (Operand.tmp 158) (Operand.tmp 166) 2, 4, "l05_sparse.go:19", #[{ on := 31, ground := Ground.data }, { on := 39, ground := Ground.data }, { on := 24, ground := Ground.guard }], some (24, true)⟩) rfl (by rfl) (by rfl) (fun w' hw' => ?_) ?_; rotate_left
            · go_simp <;> first | rfl | exact ⟨rfl, rfl⟩
            simp only [Act.put, List.setIfInBounds_toArray, List.set_cons_zero, List.set_cons_succ]
            refine' wpT_det (o := ⟨some 168, Op.pick (Operand.tmp 151) (Operand.tmp 167) (Operand.const (Value.bool false)), 4, "l05_sparse.go:19", #[{ on := 24, ground := Ground.data }, { on := 40, ground := Ground.data }, { on := 14, ground := Ground.guard }], some (14, false)⟩) rfl (by rfl) (by rfl) (fun w' hw' => ?_) ?_; rotate_left
            · go_simp <;> first | rfl | exact ⟨rfl, rfl⟩
            simp only [Act.put, List.setIfInBounds_toArray, List.set_cons_zero, List.set_cons_succ]
            refine' wpT_det (o := ⟨some 169, Op.pick (Operand.tmp 141) (Operand.const (Value.bool true)) (Operand.tmp 168), 4, "l05_sparse.go:19", #[{ on := 14, ground := Ground.data }, { on := 41, ground := Ground.data }], none⟩) rfl (by rfl) (by rfl) (fun w' hw' => ?_) ?_; rotate_left
            · go_simp <;> first | rfl | exact ⟨rfl, rfl⟩
            simp only [Act.put, List.setIfInBounds_toArray, List.set_cons_zero, List.set_cons_succ]
            refine wpT_nil (fun w' hw' hF => ?_)
            refine wpList_nil ?_
            go_wp2_with fail
            go_ret
            exact ⟨ret_bool (by rw [Hres.out, hno]), xB.trans hw'.undrew⟩
          · have hge' : decide (rd co k ≤ rd co ((k : Int) - 1)) = false := decide_eq_false hge
            have HG := Lib.hid hge
            go_wp2_with fail
            refine wp_region_T (cs := []) [0, 1, 2, 3, 4, 5, 6, 7, 8, 9, 10, 11, 12, 13, 14, 15, 16, 17, 18, 19, 20, 21, 22, 23, 24, 25, 26, 27, 28, 29, 30, 31, 32, 33, 34, 35, 36, 37, 38, 39, 40, 41, 42] [] [12] [] (fun i__ v => match i__ with | 12 => v = (.bool true) | _ => False) (fun _ _ _ => True) (by kernel_rfl) (by kernel_rfl) (fun _ _ _ _ _ _ => trivial) ?_
            refine' wpT_det (o := ⟨some 127, Op.move (Operand.tmp 0), 68, "l05_sparse.go:19", #[], none⟩) rfl (by rfl) (by rfl) (fun w' hw' => ?_) ?_; rotate_left
            · go_simp <;> first | rfl | exact ⟨rfl, rfl⟩
            simp only [Act.put, List.setIfInBounds_toArray, List.set_cons_zero, List.set_cons_succ]
            refine' wpT_det (o := ⟨some 128, Op.nilCheck (Operand.tmp 127), 0, "l05_sparse.go:19", #[{ on := 0, ground := Ground.data }], none⟩) rfl (by rfl) (by rfl) (fun w' hw' => ?_) ?_; rotate_left
            · go_simp <;> first | rfl | exact ⟨rfl, rfl⟩
            simp only [Act.put, List.setIfInBounds_toArray, List.set_cons_zero, List.set_cons_succ]
            refine' wpT_det (o := ⟨some 129, Op.fieldAddr 27 (Operand.tmp 128) 2, 0, "l05_sparse.go:19", #[{ on := 1, ground := Ground.data }], none⟩) rfl (by rfl) (by rfl) (fun w' hw' => ?_) ?_; rotate_left
            · go_simp <;> first | rfl | exact ⟨rfl, rfl⟩
            simp only [Act.put, List.setIfInBounds_toArray, List.set_cons_zero, List.set_cons_succ]
            refine' wpT_det (o := ⟨some 130, Op.load 22 (Operand.tmp 129), 22, "l05_sparse.go:19", #[{ on := 2, ground := Ground.data }], none⟩) rfl (by rfl) (by rfl) (fun w' hw' => ?_) ?_; rotate_left
            · have a0_ := Ext.cell hw' a0; have a1_ := Ext.cell hw' a1; have a2_ := Ext.cell hw' a2; have hd_ := Ext.cell hw' hd; have hc_ := Ext.cell hw' hc; have hd1'_ := Ext.cell hw' hd1'; go_simp <;> first | rfl | exact ⟨rfl, rfl⟩
            simp only [Act.put, List.setIfInBounds_toArray, List.set_cons_zero, List.set_cons_succ]
            refine' wpT_det (o := ⟨some 131, Op.move (Operand.tmp 5), 2, "l05_sparse.go:19", #[], none⟩) rfl (by rfl) (by rfl) (fun w' hw' => ?_) ?_; rotate_left
            · go_simp <;> first | rfl | exact ⟨rfl, rfl⟩
            simp only [Act.put, List.setIfInBounds_toArray, List.set_cons_zero, List.set_cons_succ]
            refine' wpT_det (o := ⟨some 132, Op.indexAddr 22 (Operand.tmp 130) (Operand.tmp 131), 0, "l05_sparse.go:19", #[{ on := 3, ground := Ground.data }, { on := 4, ground := Ground.data }], none⟩) rfl (by rfl) (by rfl) (fun w' hw' => ?_) ?_; rotate_left
            · go_simp <;> first | rfl | exact ⟨rfl, rfl⟩
            simp only [Act.put, List.setIfInBounds_toArray, List.set_cons_zero, List.set_cons_succ]
            refine' wpT_det (o := ⟨some 133, Op.load 2 (Operand.tmp 132), 2, "l05_sparse.go:19", #[{ on := 5, ground := Ground.data }], none⟩) rfl (by rfl) (by rfl) (fun w' hw' => ?_) ?_; rotate_left
            · have a0_ := Ext.cell hw' a0; have a1_ := Ext.cell hw' a1; have a2_ := Ext.cell hw' a2; have hd_ := Ext.cell hw' hd; have hc_ := Ext.cell hw' hc; have hd1'_ := Ext.cell hw' hd1'; go_simp <;> first | rfl | exact ⟨rfl, rfl⟩
            simp only [Act.put, List.setIfInBounds_toArray, List.set_cons_zero, List.set_cons_succ]
            refine' wpT_det (o := ⟨some 134, Op.move (Operand.tmp 0), 68, "l05_sparse.go:19", #[], none⟩) rfl (by rfl) (by rfl) (fun w' hw' => ?_) ?_; rotate_left
            · go_simp <;> first | rfl | exact ⟨rfl, rfl⟩
            simp only [Act.put, List.setIfInBounds_toArray, List.set_cons_zero, List.set_cons_succ]
            refine' wpT_det (o := ⟨some 135, Op.nilCheck (Operand.tmp 134), 0, "l05_sparse.go:19", #[{ on := 7, ground := Ground.data }], none⟩) rfl (by rfl) (by rfl) (fun w' hw' => ?_) ?_; rotate_left
            · go_simp <;> first | rfl | exact ⟨rfl, rfl⟩
            simp only [Act.put, List.setIfInBounds_toArray, List.set_cons_zero, List.set_cons_succ]
            refine' wpT_det (o := ⟨some 136, Op.fieldAddr 27 (Operand.tmp 135) 0, 0, "l05_sparse.go:19", #[{ on := 8, ground := Ground.data }], none⟩) rfl (by rfl) (by rfl) (fun w' hw' => ?_) ?_; rotate_left
            · go_simp <;> first | rfl | exact ⟨rfl, rfl⟩
            simp only [Act.put, List.setIfInBounds_toArray, List.set_cons_zero, List.set_cons_succ]
            refine' wpT_det (o := ⟨some 137, Op.load 2 (Operand.tmp 136), 2, "l05_sparse.go:19", #[{ on := 9, ground := Ground.data }], none⟩) rfl (by rfl) (by rfl) (fun w' hw' => ?_) ?_; rotate_left
            · have a0_ := Ext.cell hw' a0; have a1_ := Ext.cell hw' a1; have a2_ := Ext.cell hw' a2; have hd_ := Ext.cell hw' hd; have hc_ := Ext.cell hw' hc; have hd1'_ := Ext.cell hw' hd1'; go_simp <;> first | rfl | exact ⟨rfl, rfl⟩
            simp only [Act.put, List.setIfInBounds_toArray, List.set_cons_zero, List.set_cons_succ]
            refine' wpT_det (o := ⟨some 138, Op.binOp BinOp.sub 2 (Operand.tmp 137) (Operand.const (Value.int IntKind.i64 1)) 2, 2, "l05_sparse.go:19", #[{ on := 10, ground := Ground.data }], none⟩) rfl (by rfl) (by rfl) (fun w' hw' => ?_) ?_; rotate_left
            · go_simp <;> first | rfl | exact ⟨rfl, rfl⟩
            simp only [Act.put, List.setIfInBounds_toArray, List.set_cons_zero, List.set_cons_succ]
            refine wpT_nd (o := ⟨some 139, Op.call { callee := Callee.value (Operand.func 111), args := #[Operand.tmp 133, Operand.const (Value.int IntKind.i64 0), Operand.tmp 138], argTypes := #[2, 2, 2] }, 4, "l05_sparse.go:19", #[{ on := 6, ground := Ground.data }, { on := 11, ground := Ground.data }], none⟩) rfl (by rfl) (by rfl) (fun w' hw' hF R__ hGo => ?_) ⟨_, rfl⟩ ?_
            · go_simp
              refine gives_enter rfl ?_
              refine (l00In_any _ _ _ _).mono ?_
              rintro e w2 ⟨rfl, rfl⟩
              exact ⟨_, rfl, hGo _ _ (Ext.refl _) (congrArg Value.bool hci) trivial⟩
            intro v hv
            obtain rfl : v = (.bool true) := hv
            simp only [Act.put, List.setIfInBounds_toArray, List.set_cons_zero, List.set_cons_succ]
            refine' wpT_det (o := ⟨some 140, Op.unOp UnOp.not 4 (Operand.tmp 139), 4, "l05_sparse.go:19", #[{ on := 12, ground := Ground.data }], none⟩) rfl (by rfl) (by rfl) (fun w' hw' => ?_) ?_; rotate_left
            · go_simp <;> first | rfl | exact ⟨rfl, rfl⟩
            simp only [Act.put, List.setIfInBounds_toArray, List.set_cons_zero, List.set_cons_succ]
            refine' wpT_det (o := ⟨some 141, Op.move (Operand.tmp 140), 4, "l05_sparse.go:19", #[{ on := 13, ground := Ground.data }, { on := 12, ground := Ground.chain }], none⟩) rfl (by rfl) (by rfl) (fun w' hw' => ?_) ?_; rotate_left
            · go_simp <;> first | rfl | exact ⟨rfl, rfl⟩
            simp only [Act.put, List.setIfInBounds_toArray, List.set_cons_zero, List.set_cons_succ]
            refine' wpT_det (o := ⟨some 142, Op.move (Operand.tmp 5), 2, "l05_sparse.go:19", #[{ on := 14, ground := Ground.guard }], some (14, false)⟩) rfl (by rfl) (by rfl) (fun w' hw' => ?_) ?_; rotate_left
            · go_simp <;> first | rfl | exact ⟨rfl, rfl⟩
            simp only [Act.put, List.setIfInBounds_toArray, List.set_cons_zero, List.set_cons_succ]
            refine' wpT_det (o := ⟨some 143, Op.move (Operand.tmp 0), 68, "l05_sparse.go:19", #[{ on := 14, ground := Ground.guard }], some (14, false)⟩) rfl (by rfl) (by rfl) (fun w' hw' => ?_) ?_; rotate_left
            · go_simp <;> first | rfl | exact ⟨rfl, rfl⟩
            simp only [Act.put, List.setIfInBounds_toArray, List.set_cons_zero, List.set_cons_succ]
            refine' wpT_det (o := ⟨some 144, Op.nilCheck (Operand.tmp 143), 0, "l05_sparse.go:19", #[{ on := 16, ground := Ground.data }, { on := 14, ground := Ground.guard }], some (14, false)⟩) rfl (by rfl) (by rfl) (fun w' hw' => ?_) ?_; rotate_left
            · go_simp <;> first | rfl | exact ⟨rfl, rfl⟩
            simp only [Act.put, List.setIfInBounds_toArray, List.set_cons_zero, List.set_cons_succ]
            refine' wpT_det (o := ⟨some 145, Op.fieldAddr 27 (Operand.tmp 144) 1, 0, "l05_sparse.go:19", #[{ on := 17, ground := Ground.data }, { on := 14, ground := Ground.guard }], some (14, false)⟩) rfl (by rfl) (by rfl) (fun w' hw' => ?_) ?_; rotate_left
            · go_simp <;> first | rfl | exact ⟨rfl, rfl⟩
            simp only [Act.put, List.setIfInBounds_toArray, List.set_cons_zero, List.set_cons_succ]
            refine' wpT_det (o := ⟨some 146, Op.load 22 (Operand.tmp 145), 22, "l05_sparse.go:19", #[{ on := 18, ground := Ground.data }, { on := 14, ground := Ground.guard }], some (14, false)⟩) rfl (by rfl) (by rfl) (fun w' hw' => ?_) ?_; rotate_left
            · have a0_ := Ext.cell hw' a0; have a1_ := Ext.cell hw' a1; have a2_ := Ext.cell hw' a2; have hd_ := Ext.cell hw' hd; have hc_ := Ext.cell hw' hc; have hd1'_ := Ext.cell hw' hd1'; go_simp <;> first | rfl | exact ⟨rfl, rfl⟩
            simp only [Act.put, List.setIfInBounds_toArray, List.set_cons_zero, List.set_cons_succ]
            refine' wpT_det (o := ⟨some 147, Op.move (Operand.tmp 4), 2, "l05_sparse.go:19", #[{ on := 14, ground := Ground.guard }], some (14, false)⟩) rfl (by rfl) (by rfl) (fun w' hw' => ?_) ?_; rotate_left
            · go_simp <;> first | rfl | exact ⟨rfl, rfl⟩
            simp only [Act.put, List.setIfInBounds_toArray, List.set_cons_zero, List.set_cons_succ]
            refine' wpT_det (o := ⟨some 148, Op.indexAddr 22 (Operand.tmp 146) (Operand.tmp 147), 0, "l05_sparse.go:19", #[{ on := 19, ground := Ground.data }, { on := 20, ground := Ground.data }, { on := 14, ground := Ground.guard }], some (14, false)⟩) rfl (by rfl) (by rfl) (fun w' hw' => ?_) ?_; rotate_left
            · go_simp <;> first | rfl | exact ⟨rfl, rfl⟩
            simp only [Act.put, List.setIfInBounds_toArray, List.set_cons_zero, List.set_cons_succ]
            refine' wpT_det (o := ⟨some 149, Op.load 2 (Operand.tmp 148), 2, "l05_sparse.go:19", #[{ on := 21, ground := Ground.data }, { on := 14, ground := Ground.guard }], some (14, false)⟩) rfl (by rfl) (by rfl) (fun w' hw' => ?_) ?_; rotate_left
            · have a0_ := Ext.cell hw' a0; have a1_ := Ext.cell hw' a1; have a2_ := Ext.cell hw' a2; have hd_ := Ext.cell hw' hd; have hc_ := Ext.cell hw' hc; have hd1'_ := Ext.cell hw' hd1'; go_simp <;> first | rfl | exact ⟨rfl, rfl⟩
            simp only [Act.put, List.setIfInBounds_toArray, List.set_cons_zero, List.set_cons_succ]
            refine' wpT_det (o := ⟨some 150, Op.binOp BinOp.gtr 2 (Operand.tmp 142) (Operand.tmp 149) 2, 4, "l05_sparse.go:19", #[{ on := 15, ground := Ground.data }, { on := 22, ground := Ground.data }, { on := 14, ground := Ground.guard }], some (14, false)⟩) rfl (by rfl) (by rfl) (fun w' hw' => ?_) ?_; rotate_left
            · go_simp <;> first | rfl | exact ⟨rfl, rfl⟩
            simp only [Act.put, List.setIfInBounds_toArray, List.set_cons_zero, List.set_cons_succ]
            refine' wpT_det (o := ⟨some 151, Op.move (Operand.tmp 150), 4, "l05_sparse.go:19", #[{ on := 23, ground := Ground.data }, { on := 14, ground := Ground.chain }, { on := 14, ground := Ground.guard }], some (14, false)⟩) rfl (by rfl) (by rfl) (fun w' hw' => ?_) ?_; rotate_left
            · go_simp <;> first | rfl | exact ⟨rfl, rfl⟩
            simp only [Act.put, List.setIfInBounds_toArray, List.set_cons_zero, List.set_cons_succ]
            refine' wpT_det (o := ⟨some 152, Op.move (Operand.tmp 0), 68, "l05_sparse.go:19", #[{ on := 24, ground := Ground.guard }], some (24, true)⟩) rfl (by rfl) (by rfl) (fun w' hw' => ?_) ?_; rotate_left
            · go_simp <;> first | rfl | exact ⟨rfl, rfl⟩
            simp only [Act.put, List.setIfInBounds_toArray, List.set_cons_zero, List.set_cons_succ]
            refine' wpT_det (o := ⟨some 153, Op.nilCheck (Operand.tmp 152), 0, "l05_sparse.go:19", #[{ on := 25, ground := Ground.data }, { on := 24, ground := Ground.guard }], some (24, true)⟩) rfl (by rfl) (by rfl) (fun w' hw' => ?_) ?_; rotate_left
            · go_simp <;> first | rfl | exact ⟨rfl, rfl⟩
            simp only [Act.put, List.setIfInBounds_toArray, List.set_cons_zero, List.set_cons_succ]
            refine' wpT_det (o := ⟨some 154, Op.fieldAddr 27 (Operand.tmp 153) 2, 0, "l05_sparse.go:19", #[{ on := 26, ground := Ground.data }, { on := 24, ground := Ground.guard }], some (24, true)⟩) rfl (by rfl) (by rfl) (fun w' hw' => ?_) ?_; rotate_left
            · go_simp <;> first | rfl | exact ⟨rfl, rfl⟩
            simp only [Act.put, List.setIfInBounds_toArray, List.set_cons_zero, List.set_cons_succ]
            refine' wpT_det (o := ⟨some 155, Op.load 22 (Operand.tmp 154), 22, "l05_sparse.go:19", #[{ on := 27, ground := Ground.data }, { on := 24, ground := Ground.guard }], some (24, true)⟩) rfl (by rfl) (by rfl) (fun w' hw' => ?_) ?_; rotate_left
            · have a0_ := Ext.cell hw' a0; have a1_ := Ext.cell hw' a1; have a2_ := Ext.cell hw' a2; have hd_ := Ext.cell hw' hd; have hc_ := Ext.cell hw' hc; have hd1'_ := Ext.cell hw' hd1'; go_simp <;> first | rfl | exact ⟨rfl, rfl⟩
            simp only [Act.put, List.setIfInBounds_toArray, List.set_cons_zero, List.set_cons_succ]
            refine' wpT_det (o := ⟨some 156, Op.move (Operand.tmp 5), 2, "l05_sparse.go:19", #[{ on := 24, ground := Ground.guard }], some (24, true)⟩) rfl (by rfl) (by rfl) (fun w' hw' => ?_) ?_; rotate_left
            · go_simp <;> first | rfl | exact ⟨rfl, rfl⟩
            simp only [Act.put, List.setIfInBounds_toArray, List.set_cons_zero, List.set_cons_succ]
            refine' wpT_det (o := ⟨some 157, Op.indexAddr 22 (Operand.tmp 155) (Operand.tmp 156), 0, "l05_sparse.go:19", #[{ on := 28, ground := Ground.data }, { on := 29, ground := Ground.data }, { on := 24, ground := Ground.guard }], some (24, true)⟩) rfl (by rfl) (by rfl) (fun w' hw' => ?_) ?_; rotate_left
            · go_simp <;> first | rfl | exact ⟨rfl, rfl⟩
            simp only [Act.put, List.setIfInBounds_toArray, List.set_cons_zero, List.set_cons_succ]
            refine' wpT_det (o := ⟨some 158, Op.load 2 (Operand.tmp 157), 2, "l05_sparse.go:19", #[{ on := 30, ground := Ground.data }, { on := 24, ground := Ground.guard }], some (24, true)⟩) rfl (by rfl) (by rfl) (fun w' hw' => ?_) ?_; rotate_left
            · have a0_ := Ext.cell hw' a0; have a1_ := Ext.cell hw' a1; have a2_ := Ext.cell hw' a2; have hd_ := Ext.cell hw' hd; have hc_ := Ext.cell hw' hc; have hd1'_ := Ext.cell hw' hd1'; go_simp <;> first | rfl | exact ⟨rfl, rfl⟩
            simp only [Act.put, List.setIfInBounds_toArray, List.set_cons_zero, List.set_cons_succ]
            refine' wpT_det (o := ⟨some 159, Op.move (Operand.tmp 0), 68, "l05_sparse.go:19", #[{ on := 24, ground := Ground.guard }], some (24, true)⟩) rfl (by rfl) (by rfl) (fun w' hw' => ?_) ?_; rotate_left
            · go_simp <;> first | rfl | exact ⟨rfl, rfl⟩
            simp only [Act.put, List.setIfInBounds_toArray, List.set_cons_zero, List.set_cons_succ]
            refine' wpT_det (o := ⟨some 160, Op.nilCheck (Operand.tmp 159), 0, "l05_sparse.go:19", #[{ on := 32, ground := Ground.data }, { on := 24, ground := Ground.guard }], some (24, true)⟩) rfl (by rfl) (by rfl) (fun w' hw' => ?_) ?_; rotate_left
            · go_simp <;> first | rfl | exact ⟨rfl, rfl⟩
            simp only [Act.put, List.setIfInBounds_toArray, List.set_cons_zero, List.set_cons_succ]
            refine' wpT_det (o := ⟨some 161, Op.fieldAddr 27 (Operand.tmp 160) 2, 0, "l05_sparse.go:19", #[{ on := 33, ground := Ground.data }, { on := 24, ground := Ground.guard }], some (24, true)⟩) rfl (by rfl) (by rfl) (fun w' hw' => ?_) ?_; rotate_left
            · go_simp <;> first | rfl | exact ⟨rfl, rfl⟩
            simp only [Act.put, List.setIfInBounds_toArray, List.set_cons_zero, List.set_cons_succ]
            refine' wpT_det (o := ⟨some 162, Op.load 22 (Operand.tmp 161), 22, "l05_sparse.go:19", #[{ on := 34, ground := Ground.data }, { on := 24, ground := Ground.guard }], some (24, true)⟩) rfl (by rfl) (by rfl) (fun w' hw' => ?_) ?_; rotate_left
            · have a0_ := Ext.cell hw' a0; have a1_ := Ext.cell hw' a1; have a2_ := Ext.cell hw' a2; have hd_ := Ext.cell hw' hd; have hc_ := Ext.cell hw' hc; have hd1'_ := Ext.cell hw' hd1'; go_simp <;> first | rfl | exact ⟨rfl, rfl⟩
            simp only [Act.put, List.setIfInBounds_toArray, List.set_cons_zero, List.set_cons_succ]
            refine' wpT_det (o := ⟨some 163, Op.move (Operand.tmp 5), 2, "l05_sparse.go:19", #[{ on := 24, ground := Ground.guard }], some (24, true)⟩) rfl (by rfl) (by rfl) (fun w' hw' => ?_) ?_; rotate_left
            · go_simp <;> first | rfl | exact ⟨rfl, rfl⟩
            simp only [Act.put, List.setIfInBounds_toArray, List.set_cons_zero, List.set_cons_succ]
            refine' wpT_det (o := ⟨some 164, Op.binOp BinOp.sub 2 (Operand.tmp 163) (Operand.const (Value.int IntKind.i64 1)) 2, 2, "l05_sparse.go:19", #[{ on := 36, ground := Ground.data }, { on := 24, ground := Ground.guard }], some (24, true)⟩) rfl (by rfl) (by rfl) (fun w' hw' => ?_) ?_; rotate_left
            · go_simp <;> first | rfl | exact ⟨rfl, rfl⟩
            simp only [Act.put, List.setIfInBounds_toArray, List.set_cons_zero, List.set_cons_succ]
            refine' wpT_det (o := ⟨some 165, Op.indexAddr 22 (Operand.tmp 162) (Operand.tmp 164), 0, "l05_sparse.go:19", #[{ on := 35, ground := Ground.data }, { on := 37, ground := Ground.data }, { on := 24, ground := Ground.guard }], some (24, true)⟩) rfl (by rfl) (by rfl) (fun w' hw' => ?_) ?_; rotate_left
            · go_simp <;> first | rfl | exact ⟨rfl, rfl⟩
            simp only [Act.put, List.setIfInBounds_toArray, List.set_cons_zero, List.set_cons_succ]
            refine' wpT_det (o := ⟨some 166, Op.load 2 (Operand.tmp 165), 2, "l05_sparse.go:19", #[{ on := 38, ground := Ground.data }, { on := 24, ground := Ground.guard }], some (24, true)⟩) rfl (by rfl) (by rfl) (fun w' hw' => ?_) ?_; rotate_left
            · have a0_ := Ext.cell hw' a0; have a1_ := Ext.cell hw' a1; have a2_ := Ext.cell hw' a2; have hd_ := Ext.cell hw' hd; have hc_ := Ext.cell hw' hc; have hd1'_ := Ext.cell hw' hd1'; go_simp <;> first | rfl | exact ⟨rfl, rfl⟩
            simp only [Act.put, List.setIfInBounds_toArray, List.set_cons_zero, List.set_cons_succ]
            refine' wpT_det (o := ⟨some 167, Op.binOp BinOp.leq 2 (Operand.tmp 158) (Operand.tmp 166) 2, 4, "l05_sparse.go:19", #[{ on := 31, ground := Ground.data }, { on := 39, ground := Ground.data }, { on := 24, ground := Ground.guard }], some (24, true)⟩) rfl (by rfl) (by rfl) (fun w' hw' => ?_) ?_; rotate_left
            · go_simp <;> first | rfl | exact ⟨rfl, rfl⟩
            simp only [Act.put, List.setIfInBounds_toArray, List.set_cons_zero, List.set_cons_succ]
            refine' wpT_det (o := ⟨some 168, Op.pick (Operand.tmp 151) (Operand.tmp 167) (Operand.const (Value.bool false)), 4, "l05_sparse.go:19", #[{ on := 24, ground := Ground.data }, { on := 40, ground := Ground.data }, { on := 14, ground := Ground.guard }], some (14, false)⟩) rfl (by rfl) (by rfl) (fun w' hw' => ?_) ?_; rotate_left
            · go_simp <;> first | rfl | exact ⟨rfl, rfl⟩
            simp only [Act.put, List.setIfInBounds_toArray, List.set_cons_zero, List.set_cons_succ]
            refine' wpT_det (o := ⟨some 169, Op.pick (Operand.tmp 141) (Operand.const (Value.bool true)) (Operand.tmp 168), 4, "l05_sparse.go:19", #[{ on := 14, ground := Ground.data }, { on := 41, ground := Ground.data }], none⟩) rfl (by rfl) (by rfl) (fun w' hw' => ?_) ?_; rotate_left
            · go_simp <;> first | rfl | exact ⟨rfl, rfl⟩
            simp only [Act.put, List.setIfInBounds_toArray, List.set_cons_zero, List.set_cons_succ]
            refine wpT_nil (fun w' hw' hF => ?_)
            refine wpList_nil ?_
            go_wp2_with fail
            go_roundw
            case rel =>
              refine ⟨k + 1, by omega, by omega, by go_num, fun k' h1 h2 => ?_, fun k' h1 h2 => ?_, hxB.trans hw'.undrew⟩
              · by_cases e : k' = k
                · subst e; have := HCR.out; omega
                · exact hinr.out k' h1 (by omega)
              by_cases e : k' + 1 < k
              · exact hin.out k' h1 e
              · have e1 : (k' : Int) = (k : Int) - 1 := by omega
                rw [e1]
                have e2 : (k : Int) - 1 + 1 = k := by omega
                rw [e2]
                have := HG.out
                omega
            case measure => simp [intOf]; omega
        · go_wp2_with fail
          go_roundw
          case rel =>
            have e1 : ((i + 1 : Nat) : Int) = (i : Int) + 1 := by omega
            refine ⟨i + 1, by omega, by go_num, fun i' h1 => ?_, ?_, fun k' h1 => ?_, fun i' k' h1 h2 h3 => ?_, hx.trans hxB⟩
            · by_cases e : i' = i
              · subst e; rw [HS0.out, HT1.out]; omega
              · exact hmon.out i' (by omega)
            · show _ ∧ _
              rw [e1, HT1.out]; omega
            · rw [e1, HT1.out] at h1
              by_cases e : (k' : Int) < rd st i
              · exact hcol.out k' e
              · rw [HS0.out] at e
                exact hinr.out k' (by omega) (by omega)
            · by_cases e : i' = i
              · subst e
                rw [HS0.out] at h2
                rw [HT1.out] at h3
                exact hin.out k' (by omega) (by omega)
              · exact hinv.out i' k' (by omega) h2 h3
          case measure => simp [intOf]; omega
    · go_wp2_with fail
      go_ret
      have ei : (i : Int) = sd := by omega
      exact ⟨ret_bool (by rw [Hres.out]; exact (KZ.out (fun i' h1 => hmon.out i' (by omega)) (fun k h1 => hcol.out k (by rw [ei, H6.out]; omega)) (fun i' k h1 h2 h3 => hinv.out i' k (by omega) h2 h3)).symm), xA⟩

theorem l05Is_any (b : Nat) (sd : Int) (A : Option Addr) (n ca : Nat) (B : Option Addr) (m cb : Nat) (V : Option Addr) (p cv : Nat) (st co : List Int) (va : List Nat) (w : World) (ha : SAt w b sd A n ca B m cb V p cv st co va) :
    Calls Try.prog 71 #[.pointer (some ⟨b, 0, none⟩)] w fun e w' => e = .returned (.bool (isSp sd st co va)) ∧ Ext w w' := by
  by_cases h : Frm sd n m p st va
  · exact l05Is_good b sd A n ca B m cb V p cv st co va w h ha
  · exact l05Is_bad b sd A n ca B m cb V p cv st co va w h ha

set_option maxRecDepth 20000 in
set_option maxHeartbeats 1000000 in
theorem specValidSparse_any (sd : Int) (A : Option Addr) (n ca : Nat) (B : Option Addr) (m cb : Nat) (V : Option Addr) (p cv : Nat) (st co : List Int) (va : List Nat) (w : World) (hr : Rds w A n (ints st)) (hq : Rds w B m (ints co)) (hv : Rds w V p (flts va)) :
    Calls Try.prog 37 #[.agg #[.int .i64 sd, .slice A n ca, .slice B m cb, .slice V p cv]] w fun e w' => e = .returned (.bool (isSp sd st co va)) ∧ Ext w w' := by
  go_enter Try.func37, Try.ntmps37
  go_upto_region 1 with (fail)
  obtain ⟨w0, hw0⟩ : ∃ w0, w0 = (w.alloc (.cells #[.int .i64 sd, .slice A n ca, .slice B m cb, .slice V p cv] 27)) := ⟨_, rfl⟩
  have hx0 : Ext w w0 := by subst hw0; exact (Ext.refl _).alloc _
  have ba : Blk w0 (w.heap.size) #[.int .i64 sd, .slice A n ca, .slice B m cb, .slice V p cv] 27 := by subst hw0; exact (Blk.new w _ _)
  rw [← hw0]
  clear hw0
  go_wp2_with fail
  refine (l05Is_any _ sd A n ca B m cb V p cv st co va _ (SAt.of ba (hr.below hx0) (hq.below hx0) (hv.below hx0))).mono ?_
  rintro e w1 ⟨rfl, hx⟩
  go_wp2_with fail
  go_ret
  exact ⟨rfl, hx0.trans hx⟩

end Go.Proofs.Ytkifpligpobiaaa
