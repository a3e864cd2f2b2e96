
import Derived.Test.YtkifpligpobiaaaV2
set_option linter.unusedVariables false
set_option linter.unusedSimpArgs false

namespace Go.Proofs.Ytkifpligpobiaaa

open Go.RowKit


/-- A sparse square in a block. -/
structure SAt (w : World) (b : Nat) (sd : Int) (A : Option Addr) (n ca : Nat) (B : Option Addr) (m cb : Nat) (V : Option Addr) (p cv : Nat) (st co : List Int) (va : List Nat) : Prop where
  c0 : w.cell? ⟨b, 0, none⟩ = some (.int .i64 sd)
  c1 : w.cell? ⟨b, 1, none⟩ = some (.slice A n ca)
  c2 : w.cell? ⟨b, 2, none⟩ = some (.slice B m cb)
  c3 : w.cell? ⟨b, 3, none⟩ = some (.slice V p cv)
  hr : Rds w A n (ints st)
  hq : Rds w B m (ints co)
  hv : Rds w V p (flts va)
theorem SAt.ext {w w' : World} {b : Nat} {sd : Int} {A : Option Addr} {n ca : Nat} {B : Option Addr} {m cb : Nat} {V : Option Addr} {p cv : Nat} {st co : List Int} {va : List Nat} (h : SAt w b sd A n ca B m cb V p cv st co va) (hx : Ext w w') : SAt w' b sd A n ca B m cb V p cv st co va :=
  ⟨hx.cell h.c0, hx.cell h.c1, hx.cell h.c2, hx.cell h.c3, h.hr.below hx, h.hq.below hx, h.hv.below hx⟩
theorem SAt.of {w : World} {b : Nat} {T : TypeId} {sd : Int} {A : Option Addr} {n ca : Nat} {B : Option Addr} {m cb : Nat} {V : Option Addr} {p cv : Nat} {st co : List Int} {va : List Nat} (h : Blk w b #[.int .i64 sd, .slice A n ca, .slice B m cb, .slice V p cv] T) (hr : Rds w A n (ints st)) (hq : Rds w B m (ints co)) (hv : Rds w V p (flts va)) : SAt w b sd A n ca B m cb V p cv st co va :=
  ⟨h.cell 0 rfl, h.cell 1 rfl, h.cell 2 rfl, h.cell 3 rfl, hr, hq, hv⟩

/-- What is tested ahead of the rows. -/
def Frm (sd : Int) (n m p : Nat) (st : List Int) (va : List Nat) : Prop := (1 ≤ sd ∧ sd ≤ 32) ∧ (n : Int) = sd + 1 ∧ m ≤ 512 ∧ (p : Int) = m ∧ finL va = true ∧ rd st 0 = 0 ∧ rd st sd = m

set_option maxRecDepth 20000 in
set_option maxHeartbeats 8000000 in
theorem l05Is_bad (b : Nat) (sd : Int) (A : Option Addr) (n ca : Nat) (B : Option Addr) (m cb : Nat) (V : Option Addr) (p cv : Nat) (st co : List Int) (va : List Nat) (w : World) (hbad : ¬ Frm sd n m p st va) (ha : SAt w b sd A n ca B m cb V p cv st co va) :
    Calls Try.prog 71 #[.pointer (some ⟨b, 0, none⟩)] w fun e w' => e = .returned (.bool (isSp sd st co va)) ∧ Ext w w' := by
  obtain ⟨a0, a1, a2, a3, hr, hq, hv⟩ := ha
  have hs := hr.small
  have hs2 := hq.small
  have hs3 := hv.small
  have HA := Lib.hid hr.ilen
  have HB := Lib.hid hq.ilen
  have HV := Lib.hid hv.flen
  obtain ⟨res, hres⟩ : ∃ res, res = isSp sd st co va := ⟨_, rfl⟩
  rw [← hres]
  have Hres := Lib.hid hres
  clear hres
  by_cases h1b : 1 ≤ sd ∧ sd ≤ 32
  rotate_left
  · have h1 : inR 1 sd 32 = false := by cases h : inR 1 sd 32 with | false => rfl | true => exact absurd (inR_iff.1 h) h1b
    have hno : isSp sd st co va = false := isSp_not fun h => h1b h.s1
    go_enter Try.func71, Try.ntmps71
    go_upto_region 1 with (fail)
    go_upto_region 2 with (fail)
    refine wp_region_T (cs := []) [0, 1, 2, 3, 4, 5, 6, 7, 8, 9, 10, 11, 12, 13, 14, 15, 16, 17, 18, 19, 20, 21, 22, 23, 24, 25, 26, 27, 28, 29, 30, 31, 32, 33, 34, 35, 36, 37, 38, 39] [] [4] [] (fun i__ v => match i__ with | 4 => v = (.bool false) | _ => False) (fun _ _ _ => True) (by kernel_rfl) (by kernel_rfl) (fun _ _ _ _ _ _ => trivial) ?_
    refine' wpT_det (o := ⟨some 11, Op.move (Operand.tmp 0), 68, "l05_sparse.go:8", #[], none⟩) rfl (by rfl) (by rfl) (fun w' hw' => ?_) ?_; rotate_left
    · go_simp <;> first | rfl | exact ⟨rfl, rfl⟩
    simp only [Act.put, List.setIfInBounds_toArray, List.set_cons_zero, List.set_cons_succ]
    refine' wpT_det (o := ⟨some 12, Op.nilCheck (Operand.tmp 11), 0, "l05_sparse.go:8", #[{ on := 0, ground := Ground.data }], none⟩) rfl (by rfl) (by rfl) (fun w' hw' => ?_) ?_; rotate_left
    · go_simp <;> first | rfl | exact ⟨rfl, rfl⟩
    simp only [Act.put, List.setIfInBounds_toArray, List.set_cons_zero, List.set_cons_succ]
    refine' wpT_det (o := ⟨some 13, Op.fieldAddr 27 (Operand.tmp 12) 0, 0, "l05_sparse.go:8", #[{ on := 1, ground := Ground.data }], none⟩) rfl (by rfl) (by rfl) (fun w' hw' => ?_) ?_; rotate_left
    · go_simp <;> first | rfl | exact ⟨rfl, rfl⟩
    simp only [Act.put, List.setIfInBounds_toArray, List.set_cons_zero, List.set_cons_succ]
    refine' wpT_det (o := ⟨some 14, Op.load 2 (Operand.tmp 13), 2, "l05_sparse.go:8", #[{ on := 2, ground := Ground.data }], none⟩) rfl (by rfl) (by rfl) (fun w' hw' => ?_) ?_; rotate_left
    · have a0_ := Ext.cell hw' a0; have a1_ := Ext.cell hw' a1; have a2_ := Ext.cell hw' a2; have a3_ := Ext.cell hw' a3; go_simp <;> first | rfl | exact ⟨rfl, rfl⟩
    simp only [Act.put, List.setIfInBounds_toArray, List.set_cons_zero, List.set_cons_succ]
    refine wpT_nd (o := ⟨some 15, Op.call { callee := Callee.value (Operand.func 111), args := #[Operand.tmp 14, Operand.const (Value.int IntKind.i64 1), Operand.const (Value.int IntKind.i64 32)], argTypes := #[2, 2, 2] }, 4, "l05_sparse.go:8", #[{ on := 3, ground := Ground.data }], none⟩) rfl (by rfl) (by rfl) (fun w' hw' hF R__ hGo => ?_) ⟨_, rfl⟩ ?_
    · go_simp
      refine gives_enter rfl ?_
      refine (l00In_any _ _ _ _).mono ?_
      rintro e w2 ⟨rfl, rfl⟩
      exact ⟨_, rfl, hGo _ _ (Ext.refl _) (congrArg Value.bool h1) trivial⟩
    intro v hv
    obtain rfl : v = (.bool false) := hv
    simp only [Act.put, List.setIfInBounds_toArray, List.set_cons_zero, List.set_cons_succ]
    refine' wpT_det (o := ⟨some 16, Op.unOp UnOp.not 4 (Operand.tmp 15), 4, "l05_sparse.go:8", #[{ on := 4, ground := Ground.data }], none⟩) rfl (by rfl) (by rfl) (fun w' hw' => ?_) ?_; rotate_left
    · go_simp <;> first | rfl | exact ⟨rfl, rfl⟩
    simp only [Act.put, List.setIfInBounds_toArray, List.set_cons_zero, List.set_cons_succ]
    refine' wpT_det (o := ⟨some 17, Op.move (Operand.tmp 16), 4, "l05_sparse.go:8", #[{ on := 5, ground := Ground.data }, { on := 4, ground := Ground.chain }], none⟩) rfl (by rfl) (by rfl) (fun w' hw' => ?_) ?_; rotate_left
    · go_simp <;> first | rfl | exact ⟨rfl, rfl⟩
    simp only [Act.put, List.setIfInBounds_toArray, List.set_cons_zero, List.set_cons_succ]
    refine wpT_skip (o := ⟨some 18, Op.move (Operand.tmp 0), 68, "l05_sparse.go:8", #[{ on := 6, ground := Ground.guard }], some (6, false)⟩) rfl (by rfl) ?_
    simp only [Act.put, List.setIfInBounds_toArray, List.set_cons_zero, List.set_cons_succ]
    refine wpT_skip (o := ⟨some 19, Op.nilCheck (Operand.tmp 18), 0, "l05_sparse.go:8", #[{ on := 7, ground := Ground.data }, { on := 6, ground := Ground.guard }], some (6, false)⟩) rfl (by rfl) ?_
    simp only [Act.put, List.setIfInBounds_toArray, List.set_cons_zero, List.set_cons_succ]
    refine wpT_skip (o := ⟨some 20, Op.fieldAddr 27 (Operand.tmp 19) 1, 0, "l05_sparse.go:8", #[{ on := 8, ground := Ground.data }, { on := 6, ground := Ground.guard }], some (6, false)⟩) rfl (by rfl) ?_
    simp only [Act.put, List.setIfInBounds_toArray, List.set_cons_zero, List.set_cons_succ]
    refine wpT_skip (o := ⟨some 21, Op.load 22 (Operand.tmp 20), 22, "l05_sparse.go:8", #[{ on := 9, ground := Ground.data }, { on := 6, ground := Ground.guard }], some (6, false)⟩) rfl (by rfl) ?_
    simp only [Act.put, List.setIfInBounds_toArray, List.set_cons_zero, List.set_cons_succ]
    refine wpT_skip (o := ⟨some 22, Op.call { callee := Callee.builtin Builtin.len, args := #[Operand.tmp 21], argTypes := #[22] }, 3, "l05_sparse.go:8", #[{ on := 10, ground := Ground.data }, { on := 6, ground := Ground.guard }], some (6, false)⟩) rfl (by rfl) ?_
    simp only [Act.put, List.setIfInBounds_toArray, List.set_cons_zero, List.set_cons_succ]
    refine wpT_skip (o := ⟨some 23, Op.move (Operand.tmp 0), 68, "l05_sparse.go:8", #[{ on := 6, ground := Ground.guard }], some (6, false)⟩) rfl (by rfl) ?_
    simp only [Act.put, List.setIfInBounds_toArray, List.set_cons_zero, List.set_cons_succ]
    refine wpT_skip (o := ⟨some 24, Op.nilCheck (Operand.tmp 23), 0, "l05_sparse.go:8", #[{ on := 12, ground := Ground.data }, { on := 6, ground := Ground.guard }], some (6, false)⟩) rfl (by rfl) ?_
    simp only [Act.put, List.setIfInBounds_toArray, List.set_cons_zero, List.set_cons_succ]
    refine wpT_skip (o := ⟨some 25, Op.fieldAddr 27 (Operand.tmp 24) 0, 0, "l05_sparse.go:8", #[{ on := 13, ground := Ground.data }, { on := 6, ground := Ground.guard }], some (6, false)⟩) rfl (by rfl) ?_
    simp only [Act.put, List.setIfInBounds_toArray, List.set_cons_zero, List.set_cons_succ]
    refine wpT_skip (o := ⟨some 26, Op.load 2 (Operand.tmp 25), 2, "l05_sparse.go:8", #[{ on := 14, ground := Ground.data }, { on := 6, ground := Ground.guard }], some (6, false)⟩) rfl (by rfl) ?_
    simp only [Act.put, List.setIfInBounds_toArray, List.set_cons_zero, List.set_cons_succ]
    refine wpT_skip (o := ⟨some 27, Op.binOp BinOp.add 2 (Operand.tmp 26) (Operand.const (Value.int IntKind.i64 1)) 2, 2, "l05_sparse.go:8", #[{ on := 15, ground := Ground.data }, { on := 6, ground := Ground.guard }], some (6, false)⟩) rfl (by rfl) ?_
    simp only [Act.put, List.setIfInBounds_toArray, List.set_cons_zero, List.set_cons_succ]
    refine wpT_skip (o := ⟨some 28, Op.binOp BinOp.neq 2 (Operand.tmp 22) (Operand.tmp 27) 2, 4, "l05_sparse.go:8", #[{ on := 11, ground := Ground.data }, { on := 16, ground := Ground.data }, { on := 6, ground := Ground.guard }], some (6, false)⟩) rfl (by rfl) ?_
    simp only [Act.put, List.setIfInBounds_toArray, List.set_cons_zero, List.set_cons_succ]
    refine' wpT_det (o := ⟨some 29, Op.pick (Operand.tmp 17) (Operand.const (Value.bool true)) (Operand.tmp 28), 4, "l05_sparse.go:8", #[{ on := 6, ground := Ground.data }, { on := 17, ground := Ground.data }], none⟩) rfl (by rfl) (by rfl) (fun w' hw' => ?_) ?_; rotate_left
    · go_simp <;> first | rfl | exact ⟨rfl, rfl⟩
    simp only [Act.put, List.setIfInBounds_toArray, List.set_cons_zero, List.set_cons_succ]
    refine' wpT_det (o := ⟨some 30, Op.move (Operand.tmp 29), 4, "l05_sparse.go:8", #[{ on := 18, ground := Ground.data }, { on := 6, ground := Ground.chain }], none⟩) rfl (by rfl) (by rfl) (fun w' hw' => ?_) ?_; rotate_left
    · go_simp <;> first | rfl | exact ⟨rfl, rfl⟩
    simp only [Act.put, List.setIfInBounds_toArray, List.set_cons_zero, List.set_cons_succ]
    refine wpT_skip (o := ⟨some 31, Op.move (Operand.tmp 3), 3, "l05_sparse.go:8", #[{ on := 19, ground := Ground.guard }], some (19, false)⟩) rfl (by rfl) ?_
    simp only [Act.put, List.setIfInBounds_toArray, List.set_cons_zero, List.set_cons_succ]
    refine wpT_skip (o := ⟨some 32, Op.binOp BinOp.gtr 3 (Operand.tmp 31) (Operand.const (Value.int IntKind.i64 512)) 3, 4, "l05_sparse.go:8", #[{ on := 20, ground := Ground.data }, { on := 19, ground := Ground.guard }], some (19, false)⟩) rfl (by rfl) ?_
    simp only [Act.put, List.setIfInBounds_toArray, List.set_cons_zero, List.set_cons_succ]
    refine' wpT_det (o := ⟨some 33, Op.pick (Operand.tmp 30) (Operand.const (Value.bool true)) (Operand.tmp 32), 4, "l05_sparse.go:8", #[{ on := 19, ground := Ground.data }, { on := 21, ground := Ground.data }], none⟩) rfl (by rfl) (by rfl) (fun w' hw' => ?_) ?_; rotate_left
    · go_simp <;> first | rfl | exact ⟨rfl, rfl⟩
    simp only [Act.put, List.setIfInBounds_toArray, List.set_cons_zero, List.set_cons_succ]
    refine' wpT_det (o := ⟨some 34, Op.move (Operand.tmp 33), 4, "l05_sparse.go:8", #[{ on := 22, ground := Ground.data }, { on := 19, ground := Ground.chain }], none⟩) rfl (by rfl) (by rfl) (fun w' hw' => ?_) ?_; rotate_left
    · go_simp <;> first | rfl | exact ⟨rfl, rfl⟩
    simp only [Act.put, List.setIfInBounds_toArray, List.set_cons_zero, List.set_cons_succ]
    refine wpT_skip (o := ⟨some 35, Op.move (Operand.tmp 0), 68, "l05_sparse.go:8", #[{ on := 23, ground := Ground.guard }], some (23, false)⟩) rfl (by rfl) ?_
    simp only [Act.put, List.setIfInBounds_toArray, List.set_cons_zero, List.set_cons_succ]
    refine wpT_skip (o := ⟨some 36, Op.nilCheck (Operand.tmp 35), 0, "l05_sparse.go:8", #[{ on := 24, ground := Ground.data }, { on := 23, ground := Ground.guard }], some (23, false)⟩) rfl (by rfl) ?_
    simp only [Act.put, List.setIfInBounds_toArray, List.set_cons_zero, List.set_cons_succ]
    refine wpT_skip (o := ⟨some 37, Op.fieldAddr 27 (Operand.tmp 36) 3, 0, "l05_sparse.go:8", #[{ on := 25, ground := Ground.data }, { on := 23, ground := Ground.guard }], some (23, false)⟩) rfl (by rfl) ?_
    simp only [Act.put, List.setIfInBounds_toArray, List.set_cons_zero, List.set_cons_succ]
    refine wpT_skip (o := ⟨some 38, Op.load 23 (Operand.tmp 37), 23, "l05_sparse.go:8", #[{ on := 26, ground := Ground.data }, { on := 23, ground := Ground.guard }], some (23, false)⟩) rfl (by rfl) ?_
    simp only [Act.put, List.setIfInBounds_toArray, List.set_cons_zero, List.set_cons_succ]
    refine wpT_skip (o := ⟨some 39, Op.call { callee := Callee.builtin Builtin.len, args := #[Operand.tmp 38], argTypes := #[23] }, 3, "l05_sparse.go:8", #[{ on := 27, ground := Ground.data }, { on := 23, ground := Ground.guard }], some (23, false)⟩) rfl (by rfl) ?_
    simp only [Act.put, List.setIfInBounds_toArray, List.set_cons_zero, List.set_cons_succ]
    refine wpT_skip (o := ⟨some 40, Op.move (Operand.tmp 3), 3, "l05_sparse.go:8", #[{ on := 23, ground := Ground.guard }], some (23, false)⟩) rfl (by rfl) ?_
    simp only [Act.put, List.setIfInBounds_toArray, List.set_cons_zero, List.set_cons_succ]
    refine wpT_skip (o := ⟨some 41, Op.binOp BinOp.neq 3 (Operand.tmp 39) (Operand.tmp 40) 3, 4, "l05_sparse.go:8", #[{ on := 28, ground := Ground.data }, { on := 29, ground := Ground.data }, { on := 23, ground := Ground.guard }], some (23, false)⟩) rfl (by rfl) ?_
    simp only [Act.put, List.setIfInBounds_toArray, List.set_cons_zero, List.set_cons_succ]
    refine' wpT_det (o := ⟨some 42, Op.pick (Operand.tmp 34) (Operand.const (Value.bool true)) (Operand.tmp 41), 4, "l05_sparse.go:8", #[{ on := 23, ground := Ground.data }, { on := 30, ground := Ground.data }], none⟩) rfl (by rfl) (by rfl) (fun w' hw' => ?_) ?_; rotate_left
    · go_simp <;> first | rfl | exact ⟨rfl, rfl⟩
    simp only [Act.put, List.setIfInBounds_toArray, List.set_cons_zero, List.set_cons_succ]
    refine' wpT_det (o := ⟨some 43, Op.move (Operand.tmp 42), 4, "l05_sparse.go:8", #[{ on := 31, ground := Ground.data }, { on := 23, ground := Ground.chain }], none⟩) rfl (by rfl) (by rfl) (fun w' hw' => ?_) ?_; rotate_left
    · go_simp <;> first | rfl | exact ⟨rfl, rfl⟩
    simp only [Act.put, List.setIfInBounds_toArray, List.set_cons_zero, List.set_cons_succ]
    refine wpT_skip (o := ⟨some 44, Op.move (Operand.tmp 0), 68, "l05_sparse.go:8", #[{ on := 32, ground := Ground.guard }], some (32, false)⟩) rfl (by rfl) ?_
    simp only [Act.put, List.setIfInBounds_toArray, List.set_cons_zero, List.set_cons_succ]
    refine wpT_skip (o := ⟨some 45, Op.nilCheck (Operand.tmp 44), 0, "l05_sparse.go:8", #[{ on := 33, ground := Ground.data }, { on := 32, ground := Ground.guard }], some (32, false)⟩) rfl (by rfl) ?_
    simp only [Act.put, List.setIfInBounds_toArray, List.set_cons_zero, List.set_cons_succ]
    refine wpT_skip (o := ⟨some 46, Op.fieldAddr 27 (Operand.tmp 45) 3, 0, "l05_sparse.go:8", #[{ on := 34, ground := Ground.data }, { on := 32, ground := Ground.guard }], some (32, false)⟩) rfl (by rfl) ?_
    simp only [Act.put, List.setIfInBounds_toArray, List.set_cons_zero, List.set_cons_succ]
    refine wpT_skip (o := ⟨some 47, Op.load 23 (Operand.tmp 46), 23, "l05_sparse.go:8", #[{ on := 35, ground := Ground.data }, { on := 32, ground := Ground.guard }], some (32, false)⟩) rfl (by rfl) ?_
    simp only [Act.put, List.setIfInBounds_toArray, List.set_cons_zero, List.set_cons_succ]
    refine wpT_skip (o := ⟨some 48, Op.call { callee := Callee.value (Operand.func 127), args := #[Operand.tmp 47], argTypes := #[23] }, 4, "l05_sparse.go:8", #[{ on := 36, ground := Ground.data }, { on := 32, ground := Ground.chain }, { on := 32, ground := Ground.guard }], some (32, false)⟩) rfl (by rfl) ?_
    simp only [Act.put, List.setIfInBounds_toArray, List.set_cons_zero, List.set_cons_succ]
    refine wpT_skip (o := ⟨some 49, Op.unOp UnOp.not 4 (Operand.tmp 48), 4, "l05_sparse.go:8", #[{ on := 37, ground := Ground.data }, { on := 32, ground := Ground.guard }], some (32, false)⟩) rfl (by rfl) ?_
    simp only [Act.put, List.setIfInBounds_toArray, List.set_cons_zero, List.set_cons_succ]
    refine' wpT_det (o := ⟨some 50, Op.pick (Operand.tmp 43) (Operand.const (Value.bool true)) (Operand.tmp 49), 4, "l05_sparse.go:8", #[{ on := 32, ground := Ground.data }, { on := 38, ground := Ground.data }], none⟩) rfl (by rfl) (by rfl) (fun w' hw' => ?_) ?_; rotate_left
    · go_simp <;> first | rfl | exact ⟨rfl, rfl⟩
    simp only [Act.put, List.setIfInBounds_toArray, List.set_cons_zero, List.set_cons_succ]
    refine wpT_nil (fun w' hw' hF => ?_)
    refine wpList_nil ?_
    go_wp2_with fail
    go_ret
    exact ⟨ret_bool (by rw [Hres.out, hno]), hw'.undrew⟩
  have h1 : inR 1 sd 32 = true := inR_iff.2 h1b
  have hw1 : IntKind.i64.wrap (sd + 1) = sd + 1 := IntWalk.i64_in _ (by omega)
  by_cases h2 : (n : Int) = sd + 1
  rotate_left
  · have h2' : ((n : Int) != sd + 1) = true := by simpa using h2
    have hno : isSp sd st co va = false := isSp_not fun h => h2 (by have := h.s2; rw [HA.out] at this; exact this)
    clear h2
    go_enter Try.func71, Try.ntmps71
    go_upto_region 1 with (fail)
    go_upto_region 2 with (fail)
    refine wp_region_T (cs := []) [0, 1, 2, 3, 4, 5, 6, 7, 8, 9, 10, 11, 12, 13, 14, 15, 16, 17, 18, 19, 20, 21, 22, 23, 24, 25, 26, 27, 28, 29, 30, 31, 32, 33, 34, 35, 36, 37, 38, 39] [] [4] [] (fun i__ v => match i__ with | 4 => v = (.bool true) | _ => False) (fun _ _ _ => True) (by kernel_rfl) (by kernel_rfl) (fun _ _ _ _ _ _ => trivial) ?_
    refine' wpT_det (o := ⟨some 11, Op.move (Operand.tmp 0), 68, "l05_sparse.go:8", #[], none⟩) rfl (by rfl) (by rfl) (fun w' hw' => ?_) ?_; rotate_left
    · go_simp <;> first | rfl | exact ⟨rfl, rfl⟩
    simp only [Act.put, List.setIfInBounds_toArray, List.set_cons_zero, List.set_cons_succ]
    refine' wpT_det (o := ⟨some 12, Op.nilCheck (Operand.tmp 11), 0, "l05_sparse.go:8", #[{ on := 0, ground := Ground.data }], none⟩) rfl (by rfl) (by rfl) (fun w' hw' => ?_) ?_; rotate_left
    · go_simp <;> first | rfl | exact ⟨rfl, rfl⟩
    simp only [Act.put, List.setIfInBounds_toArray, List.set_cons_zero, List.set_cons_succ]
    refine' wpT_det (o := ⟨some 13, Op.fieldAddr 27 (Operand.tmp 12) 0, 0, "l05_sparse.go:8", #[{ on := 1, ground := Ground.data }], none⟩) rfl (by rfl) (by rfl) (fun w' hw' => ?_) ?_; rotate_left
    · go_simp <;> first | rfl | exact ⟨rfl, rfl⟩
    simp only [Act.put, List.setIfInBounds_toArray, List.set_cons_zero, List.set_cons_succ]
    refine' wpT_det (o := ⟨some 14, Op.load 2 (Operand.tmp 13), 2, "l05_sparse.go:8", #[{ on := 2, ground := Ground.data }], none⟩) rfl (by rfl) (by rfl) (fun w' hw' => ?_) ?_; rotate_left
    · have a0_ := Ext.cell hw' a0; have a1_ := Ext.cell hw' a1; have a2_ := Ext.cell hw' a2; have a3_ := Ext.cell hw' a3; go_simp <;> first | rfl | exact ⟨rfl, rfl⟩
    simp only [Act.put, List.setIfInBounds_toArray, List.set_cons_zero, List.set_cons_succ]
    refine wpT_nd (o := ⟨some 15, Op.call { callee := Callee.value (Operand.func 111), args := #[Operand.tmp 14, Operand.const (Value.int IntKind.i64 1), Operand.const (Value.int IntKind.i64 32)], argTypes := #[2, 2, 2] }, 4, "l05_sparse.go:8", #[{ on := 3, ground := Ground.data }], none⟩) rfl (by rfl) (by rfl) (fun w' hw' hF R__ hGo => ?_) ⟨_, rfl⟩ ?_
    · go_simp
      refine gives_enter rfl ?_
      refine (l00In_any _ _ _ _).mono ?_
      rintro e w2 ⟨rfl, rfl⟩
      exact ⟨_, rfl, hGo _ _ (Ext.refl _) (congrArg Value.bool h1) trivial⟩
    intro v hv
    obtain rfl : v = (.bool true) := hv
    simp only [Act.put, List.setIfInBounds_toArray, List.set_cons_zero, List.set_cons_succ]
    refine' wpT_det (o := ⟨some 16, Op.unOp UnOp.not 4 (Operand.tmp 15), 4, "l05_sparse.go:8", #[{ on := 4, ground := Ground.data }], none⟩) rfl (by rfl) (by rfl) (fun w' hw' => ?_) ?_; rotate_left
    · go_simp <;> first | rfl | exact ⟨rfl, rfl⟩
    simp only [Act.put, List.setIfInBounds_toArray, List.set_cons_zero, List.set_cons_succ]
    refine' wpT_det (o := ⟨some 17, Op.move (Operand.tmp 16), 4, "l05_sparse.go:8", #[{ on := 5, ground := Ground.data }, { on := 4, ground := Ground.chain }], none⟩) rfl (by rfl) (by rfl) (fun w' hw' => ?_) ?_; rotate_left
    · go_simp <;> first | rfl | exact ⟨rfl, rfl⟩
    simp only [Act.put, List.setIfInBounds_toArray, List.set_cons_zero, List.set_cons_succ]
    refine' wpT_det (o := ⟨some 18, Op.move (Operand.tmp 0), 68, "l05_sparse.go:8", #[{ on := 6, ground := Ground.guard }], some (6, false)⟩) rfl (by rfl) (by rfl) (fun w' hw' => ?_) ?_; rotate_left
    · go_simp <;> first | rfl | exact ⟨rfl, rfl⟩
    simp only [Act.put, List.setIfInBounds_toArray, List.set_cons_zero, List.set_cons_succ]
    refine' wpT_det (o := ⟨some 19, Op.nilCheck (Operand.tmp 18), 0, "l05_sparse.go:8", #[{ on := 7, ground := Ground.data }, { on := 6, ground := Ground.guard }], some (6, false)⟩) rfl (by rfl) (by rfl) (fun w' hw' => ?_) ?_; rotate_left
    · go_simp <;> first | rfl | exact ⟨rfl, rfl⟩
    simp only [Act.put, List.setIfInBounds_toArray, List.set_cons_zero, List.set_cons_succ]
    refine' wpT_det (o := ⟨some 20, Op.fieldAddr 27 (Operand.tmp 19) 1, 0, "l05_sparse.go:8", #[{ on := 8, ground := Ground.data }, { on := 6, ground := Ground.guard }], some (6, false)⟩) rfl (by rfl) (by rfl) (fun w' hw' => ?_) ?_; rotate_left
    · go_simp <;> first | rfl | exact ⟨rfl, rfl⟩
    simp only [Act.put, List.setIfInBounds_toArray, List.set_cons_zero, List.set_cons_succ]
    refine' wpT_det (o := ⟨some 21, Op.load 22 (Operand.tmp 20), 22, "l05_sparse.go:8", #[{ on := 9, ground := Ground.data }, { on := 6, ground := Ground.guard }], some (6, false)⟩) rfl (by rfl) (by rfl) (fun w' hw' => ?_) ?_; rotate_left
    · have a0_ := Ext.cell hw' a0; have a1_ := Ext.cell hw' a1; have a2_ := Ext.cell hw' a2; have a3_ := Ext.cell hw' a3; go_simp <;> first | rfl | exact ⟨rfl, rfl⟩
    simp only [Act.put, List.setIfInBounds_toArray, List.set_cons_zero, List.set_cons_succ]
    refine' wpT_det (o := ⟨some 22, Op.call { callee := Callee.builtin Builtin.len, args := #[Operand.tmp 21], argTypes := #[22] }, 3, "l05_sparse.go:8", #[{ on := 10, ground := Ground.data }, { on := 6, ground := Ground.guard }], some (6, false)⟩) rfl (by rfl) (by rfl) (fun w' hw' => ?_) ?_; rotate_left
    · go_simp <;> first | rfl | exact ⟨rfl, rfl⟩
    simp only [Act.put, List.setIfInBounds_toArray, List.set_cons_zero, List.set_cons_succ]
    refine' wpT_det (o := ⟨some 23, Op.move (Operand.tmp 0), 68, "l05_sparse.go:8", #[{ on := 6, ground := Ground.guard }], some (6, false)⟩) rfl (by rfl) (by rfl) (fun w' hw' => ?_) ?_; rotate_left
    · go_simp <;> first | rfl | exact ⟨rfl, rfl⟩
    simp only [Act.put, List.setIfInBounds_toArray, List.set_cons_zero, List.set_cons_succ]
    refine' wpT_det (o := ⟨some 24, Op.nilCheck (Operand.tmp 23), 0, "l05_sparse.go:8", #[{ on := 12, ground := Ground.data }, { on := 6, ground := Ground.guard }], some (6, false)⟩) rfl (by rfl) (by rfl) (fun w' hw' => ?_) ?_; rotate_left
    · go_simp <;> first | rfl | exact ⟨rfl, rfl⟩
    simp only [Act.put, List.setIfInBounds_toArray, List.set_cons_zero, List.set_cons_succ]
    refine' wpT_det (o := ⟨some 25, Op.fieldAddr 27 (Operand.tmp 24) 0, 0, "l05_sparse.go:8", #[{ on := 13, ground := Ground.data }, { on := 6, ground := Ground.guard }], some (6, false)⟩) rfl (by rfl) (by rfl) (fun w' hw' => ?_) ?_; rotate_left
    · go_simp <;> first | rfl | exact ⟨rfl, rfl⟩
    simp only [Act.put, List.setIfInBounds_toArray, List.set_cons_zero, List.set_cons_succ]
    refine' wpT_det (o := ⟨some 26, Op.load 2 (Operand.tmp 25), 2, "l05_sparse.go:8", #[{ on := 14, ground := Ground.data }, { on := 6, ground := Ground.guard }], some (6, false)⟩) rfl (by rfl) (by rfl) (fun w' hw' => ?_) ?_; rotate_left
    · have a0_ := Ext.cell hw' a0; have a1_ := Ext.cell hw' a1; have a2_ := Ext.cell hw' a2; have a3_ := Ext.cell hw' a3; go_simp <;> first | rfl | exact ⟨rfl, rfl⟩
    simp only [Act.put, List.setIfInBounds_toArray, List.set_cons_zero, List.set_cons_succ]
    refine' wpT_det (o := ⟨some 27, Op.binOp BinOp.add 2 (Operand.tmp 26) (Operand.const (Value.int IntKind.i64 1)) 2, 2, "l05_sparse.go:8", #[{ on := 15, ground := Ground.data }, { on := 6, ground := Ground.guard }], some (6, false)⟩) rfl (by rfl) (by rfl) (fun w' hw' => ?_) ?_; rotate_left
    · go_simp <;> first | rfl | exact ⟨rfl, rfl⟩
    simp only [Act.put, List.setIfInBounds_toArray, List.set_cons_zero, List.set_cons_succ]
    refine' wpT_det (o := ⟨some 28, Op.binOp BinOp.neq 2 (Operand.tmp 22) (Operand.tmp 27) 2, 4, "l05_sparse.go:8", #[{ on := 11, ground := Ground.data }, { on := 16, ground := Ground.data }, { on := 6, ground := Ground.guard }], some (6, false)⟩) rfl (by rfl) (by rfl) (fun w' hw' => ?_) ?_; rotate_left
    · go_simp <;> first | rfl | exact ⟨rfl, rfl⟩
    simp only [Act.put, List.setIfInBounds_toArray, List.set_cons_zero, List.set_cons_succ]
    refine' wpT_det (o := ⟨some 29, Op.pick (Operand.tmp 17) (Operand.const (Value.bool true)) (Operand.tmp 28), 4, "l05_sparse.go:8", #[{ on := 6, ground := Ground.data }, { on := 17, ground := Ground.data }], none⟩) rfl (by rfl) (by rfl) (fun w' hw' => ?_) ?_; rotate_left
    · go_simp <;> first | rfl | exact ⟨rfl, rfl⟩
    simp only [Act.put, List.setIfInBounds_toArray, List.set_cons_zero, List.set_cons_succ]
    refine' wpT_det (o := ⟨some 30, Op.move (Operand.tmp 29), 4, "l05_sparse.go:8", #[{ on := 18, ground := Ground.data }, { on := 6, ground := Ground.chain }], none⟩) rfl (by rfl) (by rfl) (fun w' hw' => ?_) ?_; rotate_left
    · go_simp <;> first | rfl | exact ⟨rfl, rfl⟩
    simp only [Act.put, List.setIfInBounds_toArray, List.set_cons_zero, List.set_cons_succ]
    refine wpT_skip (o := ⟨some 31, Op.move (Operand.tmp 3), 3, "l05_sparse.go:8", #[{ on := 19, ground := Ground.guard }], some (19, false)⟩) rfl (by rfl) ?_
    simp only [Act.put, List.setIfInBounds_toArray, List.set_cons_zero, List.set_cons_succ]
    refine wpT_skip (o := ⟨some 32, Op.binOp BinOp.gtr 3 (Operand.tmp 31) (Operand.const (Value.int IntKind.i64 512)) 3, 4, "l05_sparse.go:8", #[{ on := 20, ground := Ground.data }, { on := 19, ground := Ground.guard }], some (19, false)⟩) rfl (by rfl) ?_
    simp only [Act.put, List.setIfInBounds_toArray, List.set_cons_zero, List.set_cons_succ]
    refine' wpT_det (o := ⟨some 33, Op.pick (Operand.tmp 30) (Operand.const (Value.bool true)) (Operand.tmp 32), 4, "l05_sparse.go:8", #[{ on := 19, ground := Ground.data }, { on := 21, ground := Ground.data }], none⟩) rfl (by rfl) (by rfl) (fun w' hw' => ?_) ?_; rotate_left
    · go_simp <;> first | rfl | exact ⟨rfl, rfl⟩
    simp only [Act.put, List.setIfInBounds_toArray, List.set_cons_zero, List.set_cons_succ]
    refine' wpT_det (o := ⟨some 34, Op.move (Operand.tmp 33), 4, "l05_sparse.go:8", #[{ on := 22, ground := Ground.data }, { on := 19, ground := Ground.chain }], none⟩) rfl (by rfl) (by rfl) (fun w' hw' => ?_) ?_; rotate_left
    · go_simp <;> first | rfl | exact ⟨rfl, rfl⟩
    simp only [Act.put, List.setIfInBounds_toArray, List.set_cons_zero, List.set_cons_succ]
    refine wpT_skip (o := ⟨some 35, Op.move (Operand.tmp 0), 68, "l05_sparse.go:8", #[{ on := 23, ground := Ground.guard }], some (23, false)⟩) rfl (by rfl) ?_
    simp only [Act.put, List.setIfInBounds_toArray, List.set_cons_zero, List.set_cons_succ]
    refine wpT_skip (o := ⟨some 36, Op.nilCheck (Operand.tmp 35), 0, "l05_sparse.go:8", #[{ on := 24, ground := Ground.data }, { on := 23, ground := Ground.guard }], some (23, false)⟩) rfl (by rfl) ?_
    simp only [Act.put, List.setIfInBounds_toArray, List.set_cons_zero, List.set_cons_succ]
    refine wpT_skip (o := ⟨some 37, Op.fieldAddr 27 (Operand.tmp 36) 3, 0, "l05_sparse.go:8", #[{ on := 25, ground := Ground.data }, { on := 23, ground := Ground.guard }], some (23, false)⟩) rfl (by rfl) ?_
    simp only [Act.put, List.setIfInBounds_toArray, List.set_cons_zero, List.set_cons_succ]
    refine wpT_skip (o := ⟨some 38, Op.load 23 (Operand.tmp 37), 23, "l05_sparse.go:8", #[{ on := 26, ground := Ground.data }, { on := 23, ground := Ground.guard }], some (23, false)⟩) rfl (by rfl) ?_
    simp only [Act.put, List.setIfInBounds_toArray, List.set_cons_zero, List.set_cons_succ]
    refine wpT_skip (o := ⟨some 39, Op.call { callee := Callee.builtin Builtin.len, args := #[Operand.tmp 38], argTypes := #[23] }, 3, "l05_sparse.go:8", #[{ on := 27, ground := Ground.data }, { on := 23, ground := Ground.guard }], some (23, false)⟩) rfl (by rfl) ?_
    simp only [Act.put, List.setIfInBounds_toArray, List.set_cons_zero, List.set_cons_succ]
    refine wpT_skip (o := ⟨some 40, Op.move (Operand.tmp 3), 3, "l05_sparse.go:8", #[{ on := 23, ground := Ground.guard }], some (23, false)⟩) rfl (by rfl) ?_
    simp only [Act.put, List.setIfInBounds_toArray, List.set_cons_zero, List.set_cons_succ]
    refine wpT_skip (o := ⟨some 41, Op.binOp BinOp.neq 3 (Operand.tmp 39) (Operand.tmp 40) 3, 4, "l05_sparse.go:8", #[{ on := 28, ground := Ground.data }, { on := 29, ground := Ground.data }, { on := 23, ground := Ground.guard }], some (23, false)⟩) rfl (by rfl) ?_
    simp only [Act.put, List.setIfInBounds_toArray, List.set_cons_zero, List.set_cons_succ]
    refine' wpT_det (o := ⟨some 42, Op.pick (Operand.tmp 34) (Operand.const (Value.bool true)) (Operand.tmp 41), 4, "l05_sparse.go:8", #[{ on := 23, ground := Ground.data }, { on := 30, ground := Ground.data }], none⟩) rfl (by rfl) (by rfl) (fun w' hw' => ?_) ?_; rotate_left
    · go_simp <;> first | rfl | exact ⟨rfl, rfl⟩
    simp only [Act.put, List.setIfInBounds_toArray, List.set_cons_zero, List.set_cons_succ]
    refine' wpT_det (o := ⟨some 43, Op.move (Operand.tmp 42), 4, "l05_sparse.go:8", #[{ on := 31, ground := Ground.data }, { on := 23, ground := Ground.chain }], none⟩) rfl (by rfl) (by rfl) (fun w' hw' => ?_) ?_; rotate_left
    · go_simp <;> first | rfl | exact ⟨rfl, rfl⟩
    simp only [Act.put, List.setIfInBounds_toArray, List.set_cons_zero, List.set_cons_succ]
    refine wpT_skip (o := ⟨some 44, Op.move (Operand.tmp 0), 68, "l05_sparse.go:8", #[{ on := 32, ground := Ground.guard }], some (32, false)⟩) rfl (by rfl) ?_
    simp only [Act.put, List.setIfInBounds_toArray, List.set_cons_zero, List.set_cons_succ]
    refine wpT_skip (o := ⟨some 45, Op.nilCheck (Operand.tmp 44), 0, "l05_sparse.go:8", #[{ on := 33, ground := Ground.data }, { on := 32, ground := Ground.guard }], some (32, false)⟩) rfl (by rfl) ?_
    simp only [Act.put, List.setIfInBounds_toArray, List.set_cons_zero, List.set_cons_succ]
    refine wpT_skip (o := ⟨some 46, Op.fieldAddr 27 (Operand.tmp 45) 3, 0, "l05_sparse.go:8", #[{ on := 34, ground := Ground.data }, { on := 32, ground := Ground.guard }], some (32, false)⟩) rfl (by rfl) ?_
    simp only [Act.put, List.setIfInBounds_toArray, List.set_cons_zero, List.set_cons_succ]
    refine wpT_skip (o := ⟨some 47, Op.load 23 (Operand.tmp 46), 23, "l05_sparse.go:8", #[{ on := 35, ground := Ground.data }, { on := 32, ground := Ground.guard }], some (32, false)⟩) rfl (by rfl) ?_
    simp only [Act.put, List.setIfInBounds_toArray, List.set_cons_zero, List.set_cons_succ]
    refine wpT_skip (o := ⟨some 48, Op.call { callee := Callee.value (Operand.func 127), args := #[Operand.tmp 47], argTypes := #[23] }, 4, "l05_sparse.go:8", #[{ on := 36, ground := Ground.data }, { on := 32, ground := Ground.chain }, { on := 32, ground := Ground.guard }], some (32, false)⟩) rfl (by rfl) ?_
    simp only [Act.put, List.setIfInBounds_toArray, List.set_cons_zero, List.set_cons_succ]
    refine wpT_skip (o := ⟨some 49, Op.unOp UnOp.not 4 (Operand.tmp 48), 4, "l05_sparse.go:8", #[{ on := 37, ground := Ground.data }, { on := 32, ground := Ground.guard }], some (32, false)⟩) rfl (by rfl) ?_
    simp only [Act.put, List.setIfInBounds_toArray, List.set_cons_zero, List.set_cons_succ]
    refine' wpT_det (o := ⟨some 50, Op.pick (Operand.tmp 43) (Operand.const (Value.bool true)) (Operand.tmp 49), 4, "l05_sparse.go:8", #[{ on := 32, ground := Ground.data }, { on := 38, ground := Ground.data }], none⟩) rfl (by rfl) (by rfl) (fun w' hw' => ?_) ?_; rotate_left
    · go_simp <;> first | rfl | exact ⟨rfl, rfl⟩
    simp only [Act.put, List.setIfInBounds_toArray, List.set_cons_zero, List.set_cons_succ]
    refine wpT_nil (fun w' hw' hF => ?_)
    refine wpList_nil ?_
    go_wp2_with fail
    go_ret
    exact ⟨ret_bool (by rw [Hres.out, hno]), hw'.undrew⟩
  have h2' : ((n : Int) != sd + 1) = false := by simpa using h2
  have b1 : (0 : Int) < n := by omega
  have b2 : 0 < n := by omega
  have b3 : sd < (n : Int) := by omega
  have b4 : 0 ≤ sd := by omega
  have H2 := Lib.hid h2
  clear h2
  by_cases h3 : (m : Int) > 512
  · have hno : isSp sd st co va = false := isSp_not fun h => by have := h.s3; rw [HB.out] at this; omega
    have h3n : 512 < m := by omega
    have h3i : (512 : Int) < m := by omega
    have h3d : decide ((512 : Int) < m) = true := decide_eq_true h3i
    go_enter Try.func71, Try.ntmps71
    go_upto_region 1 with (fail)
    go_upto_region 2 with (fail)
    refine wp_region_T (cs := []) [0, 1, 2, 3, 4, 5, 6, 7, 8, 9, 10, 11, 12, 13, 14, 15, 16, 17, 18, 19, 20, 21, 22, 23, 24, 25, 26, 27, 28, 29, 30, 31, 32, 33, 34, 35, 36, 37, 38, 39] [] [4] [] (fun i__ v => match i__ with | 4 => v = (.bool true) | _ => False) (fun _ _ _ => True) (by kernel_rfl) (by kernel_rfl) (fun _ _ _ _ _ _ => trivial) ?_
    refine' wpT_det (o := ⟨some 11, Op.move (Operand.tmp 0), 68, "l05_sparse.go:8", #[], none⟩) rfl (by rfl) (by rfl) (fun w' hw' => ?_) ?_; rotate_left
    · go_simp <;> first | rfl | exact ⟨rfl, rfl⟩
    simp only [Act.put, List.setIfInBounds_toArray, List.set_cons_zero, List.set_cons_succ]
    refine' wpT_det (o := ⟨some 12, Op.nilCheck (Operand.tmp 11), 0, "l05_sparse.go:8", #[{ on := 0, ground := Ground.data }], none⟩) rfl (by rfl) (by rfl) (fun w' hw' => ?_) ?_; rotate_left
    · go_simp <;> first | rfl | exact ⟨rfl, rfl⟩
    simp only [Act.put, List.setIfInBounds_toArray, List.set_cons_zero, List.set_cons_succ]
    refine' wpT_det (o := ⟨some 13, Op.fieldAddr 27 (Operand.tmp 12) 0, 0, "l05_sparse.go:8", #[{ on := 1, ground := Ground.data }], none⟩) rfl (by rfl) (by rfl) (fun w' hw' => ?_) ?_; rotate_left
    · go_simp <;> first | rfl | exact ⟨rfl, rfl⟩
    simp only [Act.put, List.setIfInBounds_toArray, List.set_cons_zero, List.set_cons_succ]
    refine' wpT_det (o := ⟨some 14, Op.load 2 (Operand.tmp 13), 2, "l05_sparse.go:8", #[{ on := 2, ground := Ground.data }], none⟩) rfl (by rfl) (by rfl) (fun w' hw' => ?_) ?_; rotate_left
    · have a0_ := Ext.cell hw' a0; have a1_ := Ext.cell hw' a1; have a2_ := Ext.cell hw' a2; have a3_ := Ext.cell hw' a3; go_simp <;> first | rfl | exact ⟨rfl, rfl⟩
    simp only [Act.put, List.setIfInBounds_toArray, List.set_cons_zero, List.set_cons_succ]
    refine wpT_nd (o := ⟨some 15, Op.call { callee := Callee.value (Operand.func 111), args := #[Operand.tmp 14, Operand.const (Value.int IntKind.i64 1), Operand.const (Value.int IntKind.i64 32)], argTypes := #[2, 2, 2] }, 4, "l05_sparse.go:8", #[{ on := 3, ground := Ground.data }], none⟩) rfl (by rfl) (by rfl) (fun w' hw' hF R__ hGo => ?_) ⟨_, rfl⟩ ?_
    · go_simp
      refine gives_enter rfl ?_
      refine (l00In_any _ _ _ _).mono ?_
      rintro e w2 ⟨rfl, rfl⟩
      exact ⟨_, rfl, hGo _ _ (Ext.refl _) (congrArg Value.bool h1) trivial⟩
    intro v hv
    obtain rfl : v = (.bool true) := hv
    simp only [Act.put, List.setIfInBounds_toArray, List.set_cons_zero, List.set_cons_succ]
    refine' wpT_det (o := ⟨some 16, Op.unOp UnOp.not 4 (Operand.tmp 15), 4, "l05_sparse.go:8", #[{ on := 4, ground := Ground.data }], none⟩) rfl (by rfl) (by rfl) (fun w' hw' => ?_) ?_; rotate_left
    · go_simp <;> first | rfl | exact ⟨rfl, rfl⟩
    simp only [Act.put, List.setIfInBounds_toArray, List.set_cons_zero, List.set_cons_succ]
    refine' wpT_det (o := ⟨some 17, Op.move (Operand.tmp 16), 4, "l05_sparse.go:8", #[{ on := 5, ground := Ground.data }, { on := 4, ground := Ground.chain }], none⟩) rfl (by rfl) (by rfl) (fun w' hw' => ?_) ?_; rotate_left
    · go_simp <;> first | rfl | exact ⟨rfl, rfl⟩
    simp only [Act.put, List.setIfInBounds_toArray, List.set_cons_zero, List.set_cons_succ]
    refine' wpT_det (o := ⟨some 18, Op.move (Operand.tmp 0), 68, "l05_sparse.go:8", #[{ on := 6, ground := Ground.guard }], some (6, false)⟩) rfl (by rfl) (by rfl) (fun w' hw' => ?_) ?_; rotate_left
    · go_simp <;> first | rfl | exact ⟨rfl, rfl⟩
    simp only [Act.put, List.setIfInBounds_toArray, List.set_cons_zero, List.set_cons_succ]
    refine' wpT_det (o := ⟨some 19, Op.nilCheck (Operand.tmp 18), 0, "l05_sparse.go:8", #[{ on := 7, ground := Ground.data }, { on := 6, ground := Ground.guard }], some (6, false)⟩) rfl (by rfl) (by rfl) (fun w' hw' => ?_) ?_; rotate_left
    · go_simp <;> first | rfl | exact ⟨rfl, rfl⟩
    simp only [Act.put, List.setIfInBounds_toArray, List.set_cons_zero, List.set_cons_succ]
    refine' wpT_det (o := ⟨some 20, Op.fieldAddr 27 (Operand.tmp 19) 1, 0, "l05_sparse.go:8", #[{ on := 8, ground := Ground.data }, { on := 6, ground := Ground.guard }], some (6, false)⟩) rfl (by rfl) (by rfl) (fun w' hw' => ?_) ?_; rotate_left
    · go_simp <;> first | rfl | exact ⟨rfl, rfl⟩
    simp only [Act.put, List.setIfInBounds_toArray, List.set_cons_zero, List.set_cons_succ]
    refine' wpT_det (o := ⟨some 21, Op.load 22 (Operand.tmp 20), 22, "l05_sparse.go:8", #[{ on := 9, ground := Ground.data }, { on := 6, ground := Ground.guard }], some (6, false)⟩) rfl (by rfl) (by rfl) (fun w' hw' => ?_) ?_; rotate_left
    · have a0_ := Ext.cell hw' a0; have a1_ := Ext.cell hw' a1; have a2_ := Ext.cell hw' a2; have a3_ := Ext.cell hw' a3; go_simp <;> first | rfl | exact ⟨rfl, rfl⟩
    simp only [Act.put, List.setIfInBounds_toArray, List.set_cons_zero, List.set_cons_succ]
    refine' wpT_det (o := ⟨some 22, Op.call { callee := Callee.builtin Builtin.len, args := #[Operand.tmp 21], argTypes := #[22] }, 3, "l05_sparse.go:8", #[{ on := 10, ground := Ground.data }, { on := 6, ground := Ground.guard }], some (6, false)⟩) rfl (by rfl) (by rfl) (fun w' hw' => ?_) ?_; rotate_left
    · go_simp <;> first | rfl | exact ⟨rfl, rfl⟩
    simp only [Act.put, List.setIfInBounds_toArray, List.set_cons_zero, List.set_cons_succ]
    refine' wpT_det (o := ⟨some 23, Op.move (Operand.tmp 0), 68, "l05_sparse.go:8", #[{ on := 6, ground := Ground.guard }], some (6, false)⟩) rfl (by rfl) (by rfl) (fun w' hw' => ?_) ?_; rotate_left
    · go_simp <;> first | rfl | exact ⟨rfl, rfl⟩
    simp only [Act.put, List.setIfInBounds_toArray, List.set_cons_zero, List.set_cons_succ]
    refine' wpT_det (o := ⟨some 24, Op.nilCheck (Operand.tmp 23), 0, "l05_sparse.go:8", #[{ on := 12, ground := Ground.data }, { on := 6, ground := Ground.guard }], some (6, false)⟩) rfl (by rfl) (by rfl) (fun w' hw' => ?_) ?_; rotate_left
    · go_simp <;> first | rfl | exact ⟨rfl, rfl⟩
    simp only [Act.put, List.setIfInBounds_toArray, List.set_cons_zero, List.set_cons_succ]
    refine' wpT_det (o := ⟨some 25, Op.fieldAddr 27 (Operand.tmp 24) 0, 0, "l05_sparse.go:8", #[{ on := 13, ground := Ground.data }, { on := 6, ground := Ground.guard }], some (6, false)⟩) rfl (by rfl) (by rfl) (fun w' hw' => ?_) ?_; rotate_left
    · go_simp <;> first | rfl | exact ⟨rfl, rfl⟩
    simp only [Act.put, List.setIfInBounds_toArray, List.set_cons_zero, List.set_cons_succ]
    refine' wpT_det (o := ⟨some 26, Op.load 2 (Operand.tmp 25), 2, "l05_sparse.go:8", #[{ on := 14, ground := Ground.data }, { on := 6, ground := Ground.guard }], some (6, false)⟩) rfl (by rfl) (by rfl) (fun w' hw' => ?_) ?_; rotate_left
    · have a0_ := Ext.cell hw' a0; have a1_ := Ext.cell hw' a1; have a2_ := Ext.cell hw' a2; have a3_ := Ext.cell hw' a3; go_simp <;> first | rfl | exact ⟨rfl, rfl⟩
    simp only [Act.put, List.setIfInBounds_toArray, List.set_cons_zero, List.set_cons_succ]
    refine' wpT_det (o := ⟨some 27, Op.binOp BinOp.add 2 (Operand.tmp 26) (Operand.const (Value.int IntKind.i64 1)) 2, 2, "l05_sparse.go:8", #[{ on := 15, ground := Ground.data }, { on := 6, ground := Ground.guard }], some (6, false)⟩) rfl (by rfl) (by rfl) (fun w' hw' => ?_) ?_; rotate_left
    · go_simp <;> first | rfl | exact ⟨rfl, rfl⟩
    simp only [Act.put, List.setIfInBounds_toArray, List.set_cons_zero, List.set_cons_succ]
    refine' wpT_det (o := ⟨some 28, Op.binOp BinOp.neq 2 (Operand.tmp 22) (Operand.tmp 27) 2, 4, "l05_sparse.go:8", #[{ on := 11, ground := Ground.data }, { on := 16, ground := Ground.data }, { on := 6, ground := Ground.guard }], some (6, false)⟩) rfl (by rfl) (by rfl) (fun w' hw' => ?_) ?_; rotate_left
    · go_simp <;> first | rfl | exact ⟨rfl, rfl⟩
    simp only [Act.put, List.setIfInBounds_toArray, List.set_cons_zero, List.set_cons_succ]
    refine' wpT_det (o := ⟨some 29, Op.pick (Operand.tmp 17) (Operand.const (Value.bool true)) (Operand.tmp 28), 4, "l05_sparse.go:8", #[{ on := 6, ground := Ground.data }, { on := 17, ground := Ground.data }], none⟩) rfl (by rfl) (by rfl) (fun w' hw' => ?_) ?_; rotate_left
    · go_simp <;> first | rfl | exact ⟨rfl, rfl⟩
    simp only [Act.put, List.setIfInBounds_toArray, List.set_cons_zero, List.set_cons_succ]
    refine' wpT_det (o := ⟨some 30, Op.move (Operand.tmp 29), 4, "l05_sparse.go:8", #[{ on := 18, ground := Ground.data }, { on := 6, ground := Ground.chain }], none⟩) rfl (by rfl) (by rfl) (fun w' hw' => ?_) ?_; rotate_left
    · go_simp <;> first | rfl | exact ⟨rfl, rfl⟩
    simp only [Act.put, List.setIfInBounds_toArray, List.set_cons_zero, List.set_cons_succ]
    refine' wpT_det (o := ⟨some 31, Op.move (Operand.tmp 3), 3, "l05_sparse.go:8", #[{ on := 19, ground := Ground.guard }], some (19, false)⟩) rfl (by rfl) (by rfl) (fun w' hw' => ?_) ?_; rotate_left
    · go_simp <;> first | rfl | exact ⟨rfl, rfl⟩
    simp only [Act.put, List.setIfInBounds_toArray, List.set_cons_zero, List.set_cons_succ]
    refine' wpT_det (o := ⟨some 32, Op.binOp BinOp.gtr 3 (Operand.tmp 31) (Operand.const (Value.int IntKind.i64 512)) 3, 4, "l05_sparse.go:8", #[{ on := 20, ground := Ground.data }, { on := 19, ground := Ground.guard }], some (19, false)⟩) rfl (by rfl) (by rfl) (fun w' hw' => ?_) ?_; rotate_left
    · go_simp <;> first | rfl | exact ⟨rfl, rfl⟩
    simp only [Act.put, List.setIfInBounds_toArray, List.set_cons_zero, List.set_cons_succ]
    refine' wpT_det (o := ⟨some 33, Op.pick (Operand.tmp 30) (Operand.const (Value.bool true)) (Operand.tmp 32), 4, "l05_sparse.go:8", #[{ on := 19, ground := Ground.data }, { on := 21, ground := Ground.data }], none⟩) rfl (by rfl) (by rfl) (fun w' hw' => ?_) ?_; rotate_left
    · go_simp <;> first | rfl | exact ⟨rfl, rfl⟩
    simp only [Act.put, List.setIfInBounds_toArray, List.set_cons_zero, List.set_cons_succ]
    refine' wpT_det (o := ⟨some 34, Op.move (Operand.tmp 33), 4, "l05_sparse.go:8", #[{ on := 22, ground := Ground.data }, { on := 19, ground := Ground.chain }], none⟩) rfl (by rfl) (by rfl) (fun w' hw' => ?_) ?_; rotate_left
    · go_simp <;> first | rfl | exact ⟨rfl, rfl⟩
    simp only [Act.put, List.setIfInBounds_toArray, List.set_cons_zero, List.set_cons_succ]
    refine wpT_skip (o := ⟨some 35, Op.move (Operand.tmp 0), 68, "l05_sparse.go:8", #[{ on := 23, ground := Ground.guard }], some (23, false)⟩) rfl (by rfl) ?_
    simp only [Act.put, List.setIfInBounds_toArray, List.set_cons_zero, List.set_cons_succ]
    refine wpT_skip (o := ⟨some 36, Op.nilCheck (Operand.tmp 35), 0, "l05_sparse.go:8", #[{ on := 24, ground := Ground.data }, { on := 23, ground := Ground.guard }], some (23, false)⟩) rfl (by rfl) ?_
    simp only [Act.put, List.setIfInBounds_toArray, List.set_cons_zero, List.set_cons_succ]
    refine wpT_skip (o := ⟨some 37, Op.fieldAddr 27 (Operand.tmp 36) 3, 0, "l05_sparse.go:8", #[{ on := 25, ground := Ground.data }, { on := 23, ground := Ground.guard }], some (23, false)⟩) rfl (by rfl) ?_
    simp only [Act.put, List.setIfInBounds_toArray, List.set_cons_zero, List.set_cons_succ]
    refine wpT_skip (o := ⟨some 38, Op.load 23 (Operand.tmp 37), 23, "l05_sparse.go:8", #[{ on := 26, ground := Ground.data }, { on := 23, ground := Ground.guard }], some (23, false)⟩) rfl (by rfl) ?_
    simp only [Act.put, List.setIfInBounds_toArray, List.set_cons_zero, List.set_cons_succ]
    refine wpT_skip (o := ⟨some 39, Op.call { callee := Callee.builtin Builtin.len, args := #[Operand.tmp 38], argTypes := #[23] }, 3, "l05_sparse.go:8", #[{ on := 27, ground := Ground.data }, { on := 23, ground := Ground.guard }], some (23, false)⟩) rfl (by rfl) ?_
    simp only [Act.put, List.setIfInBounds_toArray, List.set_cons_zero, List.set_cons_succ]
    refine wpT_skip (o := ⟨some 40, Op.move (Operand.tmp 3), 3, "l05_sparse.go:8", #[{ on := 23, ground := Ground.guard }], some (23, false)⟩) rfl (by rfl) ?_
    simp only [Act.put, List.setIfInBounds_toArray, List.set_cons_zero, List.set_cons_succ]
    refine wpT_skip (o := ⟨some 41, Op.binOp BinOp.neq 3 (Operand.tmp 39) (Operand.tmp 40) 3, 4, "l05_sparse.go:8", #[{ on := 28, ground := Ground.data }, { on := 29, ground := Ground.data }, { on := 23, ground := Ground.guard }], some (23, false)⟩) rfl (by rfl) ?_
    simp only [Act.put, List.setIfInBounds_toArray, List.set_cons_zero, List.set_cons_succ]
    refine' wpT_det (o := ⟨some 42, Op.pick (Operand.tmp 34) (Operand.const (Value.bool true)) (Operand.tmp 41), 4, "l05_sparse.go:8", #[{ on := 23, ground := Ground.data }, { on := 30, ground := Ground.data }], none⟩) rfl (by rfl) (by rfl) (fun w' hw' => ?_) ?_; rotate_left
    · go_simp <;> first | rfl | exact ⟨rfl, rfl⟩
    simp only [Act.put, List.setIfInBounds_toArray, List.set_cons_zero, List.set_cons_succ]
    refine' wpT_det (o := ⟨some 43, Op.move (Operand.tmp 42), 4, "l05_sparse.go:8", #[{ on := 31, ground := Ground.data }, { on := 23, ground := Ground.chain }], none⟩) rfl (by rfl) (by rfl) (fun w' hw' => ?_) ?_; rotate_left
    · go_simp <;> first | rfl | exact ⟨rfl, rfl⟩
    simp only [Act.put, List.setIfInBounds_toArray, List.set_cons_zero, List.set_cons_succ]
    refine wpT_skip (o := ⟨some 44, Op.move (Operand.tmp 0), 68, "l05_sparse.go:8", #[{ on := 32, ground := Ground.guard }], some (32, false)⟩) rfl (by rfl) ?_
    simp only [Act.put, List.setIfInBounds_toArray, List.set_cons_zero, List.set_cons_succ]
    refine wpT_skip (o := ⟨some 45, Op.nilCheck (Operand.tmp 44), 0, "l05_sparse.go:8", #[{ on := 33, ground := Ground.data }, { on := 32, ground := Ground.guard }], some (32, false)⟩) rfl (by rfl) ?_
    simp only [Act.put, List.setIfInBounds_toArray, List.set_cons_zero, List.set_cons_succ]
    refine wpT_skip (o := ⟨some 46, Op.fieldAddr 27 (Operand.tmp 45) 3, 0, "l05_sparse.go:8", #[{ on := 34, ground := Ground.data }, { on := 32, ground := Ground.guard }], some (32, false)⟩) rfl (by rfl) ?_
    simp only [Act.put, List.setIfInBounds_toArray, List.set_cons_zero, List.set_cons_succ]
    refine wpT_skip (o := ⟨some 47, Op.load 23 (Operand.tmp 46), 23, "l05_sparse.go:8", #[{ on := 35, ground := Ground.data }, { on := 32, ground := Ground.guard }], some (32, false)⟩) rfl (by rfl) ?_
    simp only [Act.put, List.setIfInBounds_toArray, List.set_cons_zero, List.set_cons_succ]
    refine wpT_skip (o := ⟨some 48, Op.call { callee := Callee.value (Operand.func 127), args := #[Operand.tmp 47], argTypes := #[23] }, 4, "l05_sparse.go:8", #[{ on := 36, ground := Ground.data }, { on := 32, ground := Ground.chain }, { on := 32, ground := Ground.guard }], some (32, false)⟩) rfl (by rfl) ?_
    simp only [Act.put, List.setIfInBounds_toArray, List.set_cons_zero, List.set_cons_succ]
    refine wpT_skip (o := ⟨some 49, Op.unOp UnOp.not 4 (Operand.tmp 48), 4, "l05_sparse.go:8", #[{ on := 37, ground := Ground.data }, { on := 32, ground := Ground.guard }], some (32, false)⟩) rfl (by rfl) ?_
    simp only [Act.put, List.setIfInBounds_toArray, List.set_cons_zero, List.set_cons_succ]
    refine' wpT_det (o := ⟨some 50, Op.pick (Operand.tmp 43) (Operand.const (Value.bool true)) (Operand.tmp 49), 4, "l05_sparse.go:8", #[{ on := 32, ground := Ground.data }, { on := 38, ground := Ground.data }], none⟩) rfl (by rfl) (by rfl) (fun w' hw' => ?_) ?_; rotate_left
    · go_simp <;> first | rfl | exact ⟨rfl, rfl⟩
    simp only [Act.put, List.setIfInBounds_toArray, List.set_cons_zero, List.set_cons_succ]
    refine wpT_nil (fun w' hw' hF => ?_)
    refine wpList_nil ?_
    go_wp2_with fail
    go_ret
    exact ⟨ret_bool (by rw [Hres.out, hno]), hw'.undrew⟩
  have h3n : ¬ 512 < m := by omega
  have h3m : m ≤ 512 := by omega
  have h3i : ¬ (512 : Int) < m := by omega
  have h3d : decide ((512 : Int) < m) = false := decide_eq_false h3i
  clear h3
  by_cases h4 : (p : Int) = m
  rotate_left
  · have h4' : ((p : Int) != m) = true := by simpa using h4
    have hno : isSp sd st co va = false := isSp_not fun h => h4 (by have := h.s4; rw [HV.out, HB.out] at this; omega)
    clear h4
    go_enter Try.func71, Try.ntmps71
    go_upto_region 1 with (fail)
    go_upto_region 2 with (fail)
    refine wp_region_T (cs := []) [0, 1, 2, 3, 4, 5, 6, 7, 8, 9, 10, 11, 12, 13, 14, 15, 16, 17, 18, 19, 20, 21, 22, 23, 24, 25, 26, 27, 28, 29, 30, 31, 32, 33, 34, 35, 36, 37, 38, 39] [] [4] [] (fun i__ v => match i__ with | 4 => v = (.bool true) | _ => False) (fun _ _ _ => True) (by kernel_rfl) (by kernel_rfl) (fun _ _ _ _ _ _ => trivial) ?_
    refine' wpT_det (o := ⟨some 11, Op.move (Operand.tmp 0), 68, "l05_sparse.go:8", #[], none⟩) rfl (by rfl) (by rfl) (fun w' hw' => ?_) ?_; rotate_left
    · go_simp <;> first | rfl | exact ⟨rfl, rfl⟩
    simp only [Act.put, List.setIfInBounds_toArray, List.set_cons_zero, List.set_cons_succ]
    refine' wpT_det (o := ⟨some 12, Op.nilCheck (Operand.tmp 11), 0, "l05_sparse.go:8", #[{ on := 0, ground := Ground.data }], none⟩) rfl (by rfl) (by rfl) (fun w' hw' => ?_) ?_; rotate_left
    · go_simp <;> first | rfl | exact ⟨rfl, rfl⟩
    simp only [Act.put, List.setIfInBounds_toArray, List.set_cons_zero, List.set_cons_succ]
    refine' wpT_det (o := ⟨some 13, Op.fieldAddr 27 (Operand.tmp 12) 0, 0, "l05_sparse.go:8", #[{ on := 1, ground := Ground.data }], none⟩) rfl (by rfl) (by rfl) (fun w' hw' => ?_) ?_; rotate_left
    · go_simp <;> first | rfl | exact ⟨rfl, rfl⟩
    simp only [Act.put, List.setIfInBounds_toArray, List.set_cons_zero, List.set_cons_succ]
    refine' wpT_det (o := ⟨some 14, Op.load 2 (Operand.tmp 13), 2, "l05_sparse.go:8", #[{ on := 2, ground := Ground.data }], none⟩) rfl (by rfl) (by rfl) (fun w' hw' => ?_) ?_; rotate_left
    · have a0_ := Ext.cell hw' a0; have a1_ := Ext.cell hw' a1; have a2_ := Ext.cell hw' a2; have a3_ := Ext.cell hw' a3; go_simp <;> first | rfl | exact ⟨rfl, rfl⟩
    simp only [Act.put, List.setIfInBounds_toArray, List.set_cons_zero, List.set_cons_succ]
    refine wpT_nd (o := ⟨some 15, Op.call { callee := Callee.value (Operand.func 111), args := #[Operand.tmp 14, Operand.const (Value.int IntKind.i64 1), Operand.const (Value.int IntKind.i64 32)], argTypes := #[2, 2, 2] }, 4, "l05_sparse.go:8", #[{ on := 3, ground := Ground.data }], none⟩) rfl (by rfl) (by rfl) (fun w' hw' hF R__ hGo => ?_) ⟨_, rfl⟩ ?_
    · go_simp
      refine gives_enter rfl ?_
      refine (l00In_any _ _ _ _).mono ?_
      rintro e w2 ⟨rfl, rfl⟩
      exact ⟨_, rfl, hGo _ _ (Ext.refl _) (congrArg Value.bool h1) trivial⟩
    intro v hv
    obtain rfl : v = (.bool true) := hv
    simp only [Act.put, List.setIfInBounds_toArray, List.set_cons_zero, List.set_cons_succ]
    refine' wpT_det (o := ⟨some 16, Op.unOp UnOp.not 4 (Operand.tmp 15), 4, "l05_sparse.go:8", #[{ on := 4, ground := Ground.data }], none⟩) rfl (by rfl) (by rfl) (fun w' hw' => ?_) ?_; rotate_left
    · go_simp <;> first | rfl | exact ⟨rfl, rfl⟩
    simp only [Act.put, List.setIfInBounds_toArray, List.set_cons_zero, List.set_cons_succ]
    refine' wpT_det (o := ⟨some 17, Op.move (Operand.tmp 16), 4, "l05_sparse.go:8", #[{ on := 5, ground := Ground.data }, { on := 4, ground := Ground.chain }], none⟩) rfl (by rfl) (by rfl) (fun w' hw' => ?_) ?_; rotate_left
    · go_simp <;> first | rfl | exact ⟨rfl, rfl⟩
    simp only [Act.put, List.setIfInBounds_toArray, List.set_cons_zero, List.set_cons_succ]
    refine' wpT_det (o := ⟨some 18, Op.move (Operand.tmp 0), 68, "l05_sparse.go:8", #[{ on := 6, ground := Ground.guard }], some (6, false)⟩) rfl (by rfl) (by rfl) (fun w' hw' => ?_) ?_; rotate_left
    · go_simp <;> first | rfl | exact ⟨rfl, rfl⟩
    simp only [Act.put, List.setIfInBounds_toArray, List.set_cons_zero, List.set_cons_succ]
    refine' wpT_det (o := ⟨some 19, Op.nilCheck (Operand.tmp 18), 0, "l05_sparse.go:8", #[{ on := 7, ground := Ground.data }, { on := 6, ground := Ground.guard }], some (6, false)⟩) rfl (by rfl) (by rfl) (fun w' hw' => ?_) ?_; rotate_left
    · go_simp <;> first | rfl | exact ⟨rfl, rfl⟩
    simp only [Act.put, List.setIfInBounds_toArray, List.set_cons_zero, List.set_cons_succ]
    refine' wpT_det (o := ⟨some 20, Op.fieldAddr 27 (Operand.tmp 19) 1, 0, "l05_sparse.go:8", #[{ on := 8, ground := Ground.data }, { on := 6, ground := Ground.guard }], some (6, false)⟩) rfl (by rfl) (by rfl) (fun w' hw' => ?_) ?_; rotate_left
    · go_simp <;> first | rfl | exact ⟨rfl, rfl⟩
    simp only [Act.put, List.setIfInBounds_toArray, List.set_cons_zero, List.set_cons_succ]
    refine' wpT_det (o := ⟨some 21, Op.load 22 (Operand.tmp 20), 22, "l05_sparse.go:8", #[{ on := 9, ground := Ground.data }, { on := 6, ground := Ground.guard }], some (6, false)⟩) rfl (by rfl) (by rfl) (fun w' hw' => ?_) ?_; rotate_left
    · have a0_ := Ext.cell hw' a0; have a1_ := Ext.cell hw' a1; have a2_ := Ext.cell hw' a2; have a3_ := Ext.cell hw' a3; go_simp <;> first | rfl | exact ⟨rfl, rfl⟩
    simp only [Act.put, List.setIfInBounds_toArray, List.set_cons_zero, List.set_cons_succ]
    refine' wpT_det (o := ⟨some 22, Op.call { callee := Callee.builtin Builtin.len, args := #[Operand.tmp 21], argTypes := #[22] }, 3, "l05_sparse.go:8", #[{ on := 10, ground := Ground.data }, { on := 6, ground := Ground.guard }], some (6, false)⟩) rfl (by rfl) (by rfl) (fun w' hw' => ?_) ?_; rotate_left
    · go_simp <;> first | rfl | exact ⟨rfl, rfl⟩
    simp only [Act.put, List.setIfInBounds_toArray, List.set_cons_zero, List.set_cons_succ]
    refine' wpT_det (o := ⟨some 23, Op.move (Operand.tmp 0), 68, "l05_sparse.go:8", #[{ on := 6, ground := Ground.guard }], some (6, false)⟩) rfl (by rfl) (by rfl) (fun w' hw' => ?_) ?_; rotate_left
    · go_simp <;> first | rfl | exact ⟨rfl, rfl⟩
    simp only [Act.put, List.setIfInBounds_toArray, List.set_cons_zero, List.set_cons_succ]
    refine' wpT_det (o := ⟨some 24, Op.nilCheck (Operand.tmp 23), 0, "l05_sparse.go:8", #[{ on := 12, ground := Ground.data }, { on := 6, ground := Ground.guard }], some (6, false)⟩) rfl (by rfl) (by rfl) (fun w' hw' => ?_) ?_; rotate_left
    · go_simp <;> first | rfl | exact ⟨rfl, rfl⟩
    simp only [Act.put, List.setIfInBounds_toArray, List.set_cons_zero, List.set_cons_succ]
    refine' wpT_det (o := ⟨some 25, Op.fieldAddr 27 (Operand.tmp 24) 0, 0, "l05_sparse.go:8", #[{ on := 13, ground := Ground.data }, { on := 6, ground := Ground.guard }], some (6, false)⟩) rfl (by rfl) (by rfl) (fun w' hw' => ?_) ?_; rotate_left
    · go_simp <;> first | rfl | exact ⟨rfl, rfl⟩
    simp only [Act.put, List.setIfInBounds_toArray, List.set_cons_zero, List.set_cons_succ]
    refine' wpT_det (o := ⟨some 26, Op.load 2 (Operand.tmp 25), 2, "l05_sparse.go:8", #[{ on := 14, ground := Ground.data }, { on := 6, ground := Ground.guard }], some (6, false)⟩) rfl (by rfl) (by rfl) (fun w' hw' => ?_) ?_; rotate_left
    · have a0_ := Ext.cell hw' a0; have a1_ := Ext.cell hw' a1; have a2_ := Ext.cell hw' a2; have a3_ := Ext.cell hw' a3; go_simp <;> first | rfl | exact ⟨rfl, rfl⟩
    simp only [Act.put, List.setIfInBounds_toArray, List.set_cons_zero, List.set_cons_succ]
    refine' wpT_det (o := ⟨some 27, Op.binOp BinOp.add 2 (Operand.tmp 26) (Operand.const (Value.int IntKind.i64 1)) 2, 2, "l05_sparse.go:8", #[{ on := 15, ground := Ground.data }, { on := 6, ground := Ground.guard }], some (6, false)⟩) rfl (by rfl) (by rfl) (fun w' hw' => ?_) ?_; rotate_left
    · go_simp <;> first | rfl | exact ⟨rfl, rfl⟩
    simp only [Act.put, List.setIfInBounds_toArray, List.set_cons_zero, List.set_cons_succ]
    refine' wpT_det (o := ⟨some 28, Op.binOp BinOp.neq 2 (Operand.tmp 22) (Operand.tmp 27) 2, 4, "l05_sparse.go:8", #[{ on := 11, ground := Ground.data }, { on := 16, ground := Ground.data }, { on := 6, ground := Ground.guard }], some (6, false)⟩) rfl (by rfl) (by rfl) (fun w' hw' => ?_) ?_; rotate_left
    · go_simp <;> first | rfl | exact ⟨rfl, rfl⟩
    simp only [Act.put, List.setIfInBounds_toArray, List.set_cons_zero, List.set_cons_succ]
    refine' wpT_det (o := ⟨some 29, Op.pick (Operand.tmp 17) (Operand.const (Value.bool true)) (Operand.tmp 28), 4, "l05_sparse.go:8", #[{ on := 6, ground := Ground.data }, { on := 17, ground := Ground.data }], none⟩) rfl (by rfl) (by rfl) (fun w' hw' => ?_) ?_; rotate_left
    · go_simp <;> first | rfl | exact ⟨rfl, rfl⟩
    simp only [Act.put, List.setIfInBounds_toArray, List.set_cons_zero, List.set_cons_succ]
    refine' wpT_det (o := ⟨some 30, Op.move (Operand.tmp 29), 4, "l05_sparse.go:8", #[{ on := 18, ground := Ground.data }, { on := 6, ground := Ground.chain }], none⟩) rfl (by rfl) (by rfl) (fun w' hw' => ?_) ?_; rotate_left
    · go_simp <;> first | rfl | exact ⟨rfl, rfl⟩
    simp only [Act.put, List.setIfInBounds_toArray, List.set_cons_zero, List.set_cons_succ]
    refine' wpT_det (o := ⟨some 31, Op.move (Operand.tmp 3), 3, "l05_sparse.go:8", #[{ on := 19, ground := Ground.guard }], some (19, false)⟩) rfl (by rfl) (by rfl) (fun w' hw' => ?_) ?_; rotate_left
    · go_simp <;> first | rfl | exact ⟨rfl, rfl⟩
    simp only [Act.put, List.setIfInBounds_toArray, List.set_cons_zero, List.set_cons_succ]
    refine' wpT_det (o := ⟨some 32, Op.binOp BinOp.gtr 3 (Operand.tmp 31) (Operand.const (Value.int IntKind.i64 512)) 3, 4, "l05_sparse.go:8", #[{ on := 20, ground := Ground.data }, { on := 19, ground := Ground.guard }], some (19, false)⟩) rfl (by rfl) (by rfl) (fun w' hw' => ?_) ?_; rotate_left
    · go_simp <;> first | rfl | exact ⟨rfl, rfl⟩
    simp only [Act.put, List.setIfInBounds_toArray, List.set_cons_zero, List.set_cons_succ]
    refine' wpT_det (o := ⟨some 33, Op.pick (Operand.tmp 30) (Operand.const (Value.bool true)) (Operand.tmp 32), 4, "l05_sparse.go:8", #[{ on := 19, ground := Ground.data }, { on := 21, ground := Ground.data }], none⟩) rfl (by rfl) (by rfl) (fun w' hw' => ?_) ?_; rotate_left
    · go_simp <;> first | rfl | exact ⟨rfl, rfl⟩
    simp only [Act.put, List.setIfInBounds_toArray, List.set_cons_zero, List.set_cons_succ]
    refine' wpT_det (o := ⟨some 34, Op.move (Operand.tmp 33), 4, "l05_sparse.go:8", #[{ on := 22, ground := Ground.data }, { on := 19, ground := Ground.chain }], none⟩) rfl (by rfl) (by rfl) (fun w' hw' => ?_) ?_; rotate_left
    · go_simp <;> first | rfl | exact ⟨rfl, rfl⟩
    simp only [Act.put, List.setIfInBounds_toArray, List.set_cons_zero, List.set_cons_succ]
    refine' wpT_det (o := ⟨some 35, Op.move (Operand.tmp 0), 68, "l05_sparse.go:8", #[{ on := 23, ground := Ground.guard }], some (23, false)⟩) rfl (by rfl) (by rfl) (fun w' hw' => ?_) ?_; rotate_left
    · go_simp <;> first | rfl | exact ⟨rfl, rfl⟩
    simp only [Act.put, List.setIfInBounds_toArray, List.set_cons_zero, List.set_cons_succ]
    refine' wpT_det (o := ⟨some 36, Op.nilCheck (Operand.tmp 35), 0, "l05_sparse.go:8", #[{ on := 24, ground := Ground.data }, { on := 23, ground := Ground.guard }], some (23, false)⟩) rfl (by rfl) (by rfl) (fun w' hw' => ?_) ?_; rotate_left
    · go_simp <;> first | rfl | exact ⟨rfl, rfl⟩
    simp only [Act.put, List.setIfInBounds_toArray, List.set_cons_zero, List.set_cons_succ]
    refine' wpT_det (o := ⟨some 37, Op.fieldAddr 27 (Operand.tmp 36) 3, 0, "l05_sparse.go:8", #[{ on := 25, ground := Ground.data }, { on := 23, ground := Ground.guard }], some (23, false)⟩) rfl (by rfl) (by rfl) (fun w' hw' => ?_) ?_; rotate_left
    · go_simp <;> first | rfl | exact ⟨rfl, rfl⟩
    simp only [Act.put, List.setIfInBounds_toArray, List.set_cons_zero, List.set_cons_succ]
    refine' wpT_det (o := ⟨some 38, Op.load 23 (Operand.tmp 37), 23, "l05_sparse.go:8", #[{ on := 26, ground := Ground.data }, { on := 23, ground := Ground.guard }], some (23, false)⟩) rfl (by rfl) (by rfl) (fun w' hw' => ?_) ?_; rotate_left
    · have a0_ := Ext.cell hw' a0; have a1_ := Ext.cell hw' a1; have a2_ := Ext.cell hw' a2; have a3_ := Ext.cell hw' a3; go_simp <;> first | rfl | exact ⟨rfl, rfl⟩
    simp only [Act.put, List.setIfInBounds_toArray, List.set_cons_zero, List.set_cons_succ]
    refine' wpT_det (o := ⟨some 39, Op.call { callee := Callee.builtin Builtin.len, args := #[Operand.tmp 38], argTypes := #[23] }, 3, "l05_sparse.go:8", #[{ on := 27, ground := Ground.data }, { on := 23, ground := Ground.guard }], some (23, false)⟩) rfl (by rfl) (by rfl) (fun w' hw' => ?_) ?_; rotate_left
    · go_simp <;> first | rfl | exact ⟨rfl, rfl⟩
    simp only [Act.put, List.setIfInBounds_toArray, List.set_cons_zero, List.set_cons_succ]
    refine' wpT_det (o := ⟨some 40, Op.move (Operand.tmp 3), 3, "l05_sparse.go:8", #[{ on := 23, ground := Ground.guard }], some (23, false)⟩) rfl (by rfl) (by rfl) (fun w' hw' => ?_) ?_; rotate_left
    · go_simp <;> first | rfl | exact ⟨rfl, rfl⟩
    simp only [Act.put, List.setIfInBounds_toArray, List.set_cons_zero, List.set_cons_succ]
    refine' wpT_det (o := ⟨some 41, Op.binOp BinOp.neq 3 (Operand.tmp 39) (Operand.tmp 40) 3, 4, "l05_sparse.go:8", #[{ on := 28, ground := Ground.data }, { on := 29, ground := Ground.data }, { on := 23, ground := Ground.guard }], some (23, false)⟩) rfl (by rfl) (by rfl) (fun w' hw' => ?_) ?_; rotate_left
    · go_simp <;> first | rfl | exact ⟨rfl, rfl⟩
    simp only [Act.put, List.setIfInBounds_toArray, List.set_cons_zero, List.set_cons_succ]
    refine' wpT_det (o := ⟨some 42, Op.pick (Operand.tmp 34) (Operand.const (Value.bool true)) (Operand.tmp 41), 4, "l05_sparse.go:8", #[{ on := 23, ground := Ground.data }, { on := 30, ground := Ground.data }], none⟩) rfl (by rfl) (by rfl) (fun w' hw' => ?_) ?_; rotate_left
    · go_simp <;> first | rfl | exact ⟨rfl, rfl⟩
    simp only [Act.put, List.setIfInBounds_toArray, List.set_cons_zero, List.set_cons_succ]
    refine' wpT_det (o := ⟨some 43, Op.move (Operand.tmp 42), 4, "l05_sparse.go:8", #[{ on := 31, ground := Ground.data }, { on := 23, ground := Ground.chain }], none⟩) rfl (by rfl) (by rfl) (fun w' hw' => ?_) ?_; rotate_left
    · go_simp <;> first | rfl | exact ⟨rfl, rfl⟩
    simp only [Act.put, List.setIfInBounds_toArray, List.set_cons_zero, List.set_cons_succ]
    refine wpT_skip (o := ⟨some 44, Op.move (Operand.tmp 0), 68, "l05_sparse.go:8", #[{ on := 32, ground := Ground.guard }], some (32, false)⟩) rfl (by rfl) ?_
    simp only [Act.put, List.setIfInBounds_toArray, List.set_cons_zero, List.set_cons_succ]
    refine wpT_skip (o := ⟨some 45, Op.nilCheck (Operand.tmp 44), 0, "l05_sparse.go:8", #[{ on := 33, ground := Ground.data }, { on := 32, ground := Ground.guard }], some (32, false)⟩) rfl (by rfl) ?_
    simp only [Act.put, List.setIfInBounds_toArray, List.set_cons_zero, List.set_cons_succ]
    refine wpT_skip (o := ⟨some 46, Op.fieldAddr 27 (Operand.tmp 45) 3, 0, "l05_sparse.go:8", #[{ on := 34, ground := Ground.data }, { on := 32, ground := Ground.guard }], some (32, false)⟩) rfl (by rfl) ?_
    simp only [Act.put, List.setIfInBounds_toArray, List.set_cons_zero, List.set_cons_succ]
    refine wpT_skip (o := ⟨some 47, Op.load 23 (Operand.tmp 46), 23, "l05_sparse.go:8", #[{ on := 35, ground := Ground.data }, { on := 32, ground := Ground.guard }], some (32, false)⟩) rfl (by rfl) ?_
    simp only [Act.put, List.setIfInBounds_toArray, List.set_cons_zero, List.set_cons_succ]
    refine wpT_skip (o := ⟨some 48, Op.call { callee := Callee.value (Operand.func 127), args := #[Operand.tmp 47], argTypes := #[23] }, 4, "l05_sparse.go:8", #[{ on := 36, ground := Ground.data }, { on := 32, ground := Ground.chain }, { on := 32, ground := Ground.guard }], some (32, false)⟩) rfl (by rfl) ?_
    simp only [Act.put, List.setIfInBounds_toArray, List.set_cons_zero, List.set_cons_succ]
    refine wpT_skip (o := ⟨some 49, Op.unOp UnOp.not 4 (Operand.tmp 48), 4, "l05_sparse.go:8", #[{ on := 37, ground := Ground.data }, { on := 32, ground := Ground.guard }], some (32, false)⟩) rfl (by rfl) ?_
    simp only [Act.put, List.setIfInBounds_toArray, List.set_cons_zero, List.set_cons_succ]
    refine' wpT_det (o := ⟨some 50, Op.pick (Operand.tmp 43) (Operand.const (Value.bool true)) (Operand.tmp 49), 4, "l05_sparse.go:8", #[{ on := 32, ground := Ground.data }, { on := 38, ground := Ground.data }], none⟩) rfl (by rfl) (by rfl) (fun w' hw' => ?_) ?_; rotate_left
    · go_simp <;> first | rfl | exact ⟨rfl, rfl⟩
    simp only [Act.put, List.setIfInBounds_toArray, List.set_cons_zero, List.set_cons_succ]
    refine wpT_nil (fun w' hw' hF => ?_)
    refine wpList_nil ?_
    go_wp2_with fail
    go_ret
    exact ⟨ret_bool (by rw [Hres.out, hno]), hw'.undrew⟩
  have h4' : ((p : Int) != m) = false := by simpa using h4
  have H4 := Lib.hid h4
  clear h4
  cases h9 : finL va with
  | false =>
    have hno : isSp sd st co va = false := isSp_not fun h => by have hc := h.s5; rw [h9] at hc; cases hc
    go_enter Try.func71, Try.ntmps71
    go_upto_region 1 with (fail)
    go_upto_region 2 with (fail)
    refine wp_region_T (cs := []) [0, 1, 2, 3, 4, 5, 6, 7, 8, 9, 10, 11, 12, 13, 14, 15, 16, 17, 18, 19, 20, 21, 22, 23, 24, 25, 26, 27, 28, 29, 30, 31, 32, 33, 34, 35, 36, 37, 38, 39] [] [4, 37] [] (fun i__ v => match i__ with | 4 => v = (.bool true) | 37 => v = (.bool false) | _ => False) (fun _ _ _ => True) (by kernel_rfl) (by kernel_rfl) (fun _ _ _ _ _ _ => trivial) ?_
    refine' wpT_det (o := ⟨some 11, Op.move (Operand.tmp 0), 68, "l05_sparse.go:8", #[], none⟩) rfl (by rfl) (by rfl) (fun w' hw' => ?_) ?_; rotate_left
    · go_simp <;> first | rfl | exact ⟨rfl, rfl⟩
    simp only [Act.put, List.setIfInBounds_toArray, List.set_cons_zero, List.set_cons_succ]
    refine' wpT_det (o := ⟨some 12, Op.nilCheck (Operand.tmp 11), 0, "l05_sparse.go:8", #[{ on := 0, ground := Ground.data }], none⟩) rfl (by rfl) (by rfl) (fun w' hw' => ?_) ?_; rotate_left
    · go_simp <;> first | rfl | exact ⟨rfl, rfl⟩
    simp only [Act.put, List.setIfInBounds_toArray, List.set_cons_zero, List.set_cons_succ]
    refine' wpT_det (o := ⟨some 13, Op.fieldAddr 27 (Operand.tmp 12) 0, 0, "l05_sparse.go:8", #[{ on := 1, ground := Ground.data }], none⟩) rfl (by rfl) (by rfl) (fun w' hw' => ?_) ?_; rotate_left
    · go_simp <;> first | rfl | exact ⟨rfl, rfl⟩
    simp only [Act.put, List.setIfInBounds_toArray, List.set_cons_zero, List.set_cons_succ]
    refine' wpT_det (o := ⟨some 14, Op.load 2 (Operand.tmp 13), 2, "l05_sparse.go:8", #[{ on := 2, ground := Ground.data }], none⟩) rfl (by rfl) (by rfl) (fun w' hw' => ?_) ?_; rotate_left
    · have a0_ := Ext.cell hw' a0; have a1_ := Ext.cell hw' a1; have a2_ := Ext.cell hw' a2; have a3_ := Ext.cell hw' a3; go_simp <;> first | rfl | exact ⟨rfl, rfl⟩
    simp only [Act.put, List.setIfInBounds_toArray, List.set_cons_zero, List.set_cons_succ]
    refine wpT_nd (o := ⟨some 15, Op.call { callee := Callee.value (Operand.func 111), args := #[Operand.tmp 14, Operand.const (Value.int IntKind.i64 1), Operand.const (Value.int IntKind.i64 32)], argTypes := #[2, 2, 2] }, 4, "l05_sparse.go:8", #[{ on := 3, ground := Ground.data }], none⟩) rfl (by rfl) (by rfl) (fun w' hw' hF R__ hGo => ?_) ⟨_, rfl⟩ ?_
    · go_simp
      refine gives_enter rfl ?_
      refine (l00In_any _ _ _ _).mono ?_
      rintro e w2 ⟨rfl, rfl⟩
      exact ⟨_, rfl, hGo _ _ (Ext.refl _) (congrArg Value.bool h1) trivial⟩
    intro v hv
    obtain rfl : v = (.bool true) := hv
    simp only [Act.put, List.setIfInBounds_toArray, List.set_cons_zero, List.set_cons_succ]
    refine' wpT_det (o := ⟨some 16, Op.unOp UnOp.not 4 (Operand.tmp 15), 4, "l05_sparse.go:8", #[{ on := 4, ground := Ground.data }], none⟩) rfl (by rfl) (by rfl) (fun w' hw' => ?_) ?_; rotate_left
    · go_simp <;> first | rfl | exact ⟨rfl, rfl⟩
    simp only [Act.put, List.setIfInBounds_toArray, List.set_cons_zero, List.set_cons_succ]
    refine' wpT_det (o := ⟨some 17, Op.move (Operand.tmp 16), 4, "l05_sparse.go:8", #[{ on := 5, ground := Ground.data }, { on := 4, ground := Ground.chain }], none⟩) rfl (by rfl) (by rfl) (fun w' hw' => ?_) ?_; rotate_left
    · go_simp <;> first | rfl | exact ⟨rfl, rfl⟩
    simp only [Act.put, List.setIfInBounds_toArray, List.set_cons_zero, List.set_cons_succ]
    refine' wpT_det (o := ⟨some 18, Op.move (Operand.tmp 0), 68, "l05_sparse.go:8", #[{ on := 6, ground := Ground.guard }], some (6, false)⟩) rfl (by rfl) (by rfl) (fun w' hw' => ?_) ?_; rotate_left
    · go_simp <;> first | rfl | exact ⟨rfl, rfl⟩
    simp only [Act.put, List.setIfInBounds_toArray, List.set_cons_zero, List.set_cons_succ]
    refine' wpT_det (o := ⟨some 19, Op.nilCheck (Operand.tmp 18), 0, "l05_sparse.go:8", #[{ on := 7, ground := Ground.data }, { on := 6, ground := Ground.guard }], some (6, false)⟩) rfl (by rfl) (by rfl) (fun w' hw' => ?_) ?_; rotate_left
    · go_simp <;> first | rfl | exact ⟨rfl, rfl⟩
    simp only [Act.put, List.setIfInBounds_toArray, List.set_cons_zero, List.set_cons_succ]
    refine' wpT_det (o := ⟨some 20, Op.fieldAddr 27 (Operand.tmp 19) 1, 0, "l05_sparse.go:8", #[{ on := 8, ground := Ground.data }, { on := 6, ground := Ground.guard }], some (6, false)⟩) rfl (by rfl) (by rfl) (fun w' hw' => ?_) ?_; rotate_left
    · go_simp <;> first | rfl | exact ⟨rfl, rfl⟩
    simp only [Act.put, List.setIfInBounds_toArray, List.set_cons_zero, List.set_cons_succ]
    refine' wpT_det (o := ⟨some 21, Op.load 22 (Operand.tmp 20), 22, "l05_sparse.go:8", #[{ on := 9, ground := Ground.data }, { on := 6, ground := Ground.guard }], some (6, false)⟩) rfl (by rfl) (by rfl) (fun w' hw' => ?_) ?_; rotate_left
    · have a0_ := Ext.cell hw' a0; have a1_ := Ext.cell hw' a1; have a2_ := Ext.cell hw' a2; have a3_ := Ext.cell hw' a3; go_simp <;> first | rfl | exact ⟨rfl, rfl⟩
    simp only [Act.put, List.setIfInBounds_toArray, List.set_cons_zero, List.set_cons_succ]
    refine' wpT_det (o := ⟨some 22, Op.call { callee := Callee.builtin Builtin.len, args := #[Operand.tmp 21], argTypes := #[22] }, 3, "l05_sparse.go:8", #[{ on := 10, ground := Ground.data }, { on := 6, ground := Ground.guard }], some (6, false)⟩) rfl (by rfl) (by rfl) (fun w' hw' => ?_) ?_; rotate_left
    · go_simp <;> first | rfl | exact ⟨rfl, rfl⟩
    simp only [Act.put, List.setIfInBounds_toArray, List.set_cons_zero, List.set_cons_succ]
    refine' wpT_det (o := ⟨some 23, Op.move (Operand.tmp 0), 68, "l05_sparse.go:8", #[{ on := 6, ground := Ground.guard }], some (6, false)⟩) rfl (by rfl) (by rfl) (fun w' hw' => ?_) ?_; rotate_left
    · go_simp <;> first | rfl | exact ⟨rfl, rfl⟩
    simp only [Act.put, List.setIfInBounds_toArray, List.set_cons_zero, List.set_cons_succ]
    refine' wpT_det (o := ⟨some 24, Op.nilCheck (Operand.tmp 23), 0, "l05_sparse.go:8", #[{ on := 12, ground := Ground.data }, { on := 6, ground := Ground.guard }], some (6, false)⟩) rfl (by rfl) (by rfl) (fun w' hw' => ?_) ?_; rotate_left
    · go_simp <;> first | rfl | exact ⟨rfl, rfl⟩
    simp only [Act.put, List.setIfInBounds_toArray, List.set_cons_zero, List.set_cons_succ]
    refine' wpT_det (o := ⟨some 25, Op.fieldAddr 27 (Operand.tmp 24) 0, 0, "l05_sparse.go:8", #[{ on := 13, ground := Ground.data }, { on := 6, ground := Ground.guard }], some (6, false)⟩) rfl (by rfl) (by rfl) (fun w' hw' => ?_) ?_; rotate_left
    · go_simp <;> first | rfl | exact ⟨rfl, rfl⟩
    simp only [Act.put, List.setIfInBounds_toArray, List.set_cons_zero, List.set_cons_succ]
    refine' wpT_det (o := ⟨some 26, Op.load 2 (Operand.tmp 25), 2, "l05_sparse.go:8", #[{ on := 14, ground := Ground.data }, { on := 6, ground := Ground.guard }], some (6, false)⟩) rfl (by rfl) (by rfl) (fun w' hw' => ?_) ?_; rotate_left
    · have a0_ := Ext.cell hw' a0; have a1_ := Ext.cell hw' a1; have a2_ := Ext.cell hw' a2; have a3_ := Ext.cell hw' a3; go_simp <;> first | rfl | exact ⟨rfl, rfl⟩
    simp only [Act.put, List.setIfInBounds_toArray, List.set_cons_zero, List.set_cons_succ]
    refine' wpT_det (o := ⟨some 27, Op.binOp BinOp.add 2 (Operand.tmp 26) (Operand.const (Value.int IntKind.i64 1)) 2, 2, "l05_sparse.go:8", #[{ on := 15, ground := Ground.data }, { on := 6, ground := Ground.guard }], some (6, false)⟩) rfl (by rfl) (by rfl) (fun w' hw' => ?_) ?_; rotate_left
    · go_simp <;> first | rfl | exact ⟨rfl, rfl⟩
    simp only [Act.put, List.setIfInBounds_toArray, List.set_cons_zero, List.set_cons_succ]
    refine' wpT_det (o := ⟨some 28, Op.binOp BinOp.neq 2 (Operand.tmp 22) (Operand.tmp 27) 2, 4, "l05_sparse.go:8", #[{ on := 11, ground := Ground.data }, { on := 16, ground := Ground.data }, { on := 6, ground := Ground.guard }], some (6, false)⟩) rfl (by rfl) (by rfl) (fun w' hw' => ?_) ?_; rotate_left
    · go_simp <;> first | rfl | exact ⟨rfl, rfl⟩
    simp only [Act.put, List.setIfInBounds_toArray, List.set_cons_zero, List.set_cons_succ]
    refine' wpT_det (o := ⟨some 29, Op.pick (Operand.tmp 17) (Operand.const (Value.bool true)) (Operand.tmp 28), 4, "l05_sparse.go:8", #[{ on := 6, ground := Ground.data }, { on := 17, ground := Ground.data }], none⟩) rfl (by rfl) (by rfl) (fun w' hw' => ?_) ?_; rotate_left
    · go_simp <;> first | rfl | exact ⟨rfl, rfl⟩
    simp only [Act.put, List.setIfInBounds_toArray, List.set_cons_zero, List.set_cons_succ]
    refine' wpT_det (o := ⟨some 30, Op.move (Operand.tmp 29), 4, "l05_sparse.go:8", #[{ on := 18, ground := Ground.data }, { on := 6, ground := Ground.chain }], none⟩) rfl (by rfl) (by rfl) (fun w' hw' => ?_) ?_; rotate_left
    · go_simp <;> first | rfl | exact ⟨rfl, rfl⟩
    simp only [Act.put, List.setIfInBounds_toArray, List.set_cons_zero, List.set_cons_succ]
    refine' wpT_det (o := ⟨some 31, Op.move (Operand.tmp 3), 3, "l05_sparse.go:8", #[{ on := 19, ground := Ground.guard }], some (19, false)⟩) rfl (by rfl) (by rfl) (fun w' hw' => ?_) ?_; rotate_left
    · go_simp <;> first | rfl | exact ⟨rfl, rfl⟩
    simp only [Act.put, List.setIfInBounds_toArray, List.set_cons_zero, List.set_cons_succ]
    refine' wpT_det (o := ⟨some 32, Op.binOp BinOp.gtr 3 (Operand.tmp 31) (Operand.const (Value.int IntKind.i64 512)) 3, 4, "l05_sparse.go:8", #[{ on := 20, ground := Ground.data }, { on := 19, ground := Ground.guard }], some (19, false)⟩) rfl (by rfl) (by rfl) (fun w' hw' => ?_) ?_; rotate_left
    · go_simp <;> first | rfl | exact ⟨rfl, rfl⟩
    simp only [Act.put, List.setIfInBounds_toArray, List.set_cons_zero, List.set_cons_succ]
    refine' wpT_det (o := ⟨some 33, Op.pick (Operand.tmp 30) (Operand.const (Value.bool true)) (Operand.tmp 32), 4, "l05_sparse.go:8", #[{ on := 19, ground := Ground.data }, { on := 21, ground := Ground.data }], none⟩) rfl (by rfl) (by rfl) (fun w' hw' => ?_) ?_; rotate_left
    · go_simp <;> first | rfl | exact ⟨rfl, rfl⟩
    simp only [Act.put, List.setIfInBounds_toArray, List.set_cons_zero, List.set_cons_succ]
    refine' wpT_det (o := ⟨some 34, Op.move (Operand.tmp 33), 4, "l05_sparse.go:8", #[{ on := 22, ground := Ground.data }, { on := 19, ground := Ground.chain }], none⟩) rfl (by rfl) (by rfl) (fun w' hw' => ?_) ?_; rotate_left
    · go_simp <;> first | rfl | exact ⟨rfl, rfl⟩
    simp only [Act.put, List.setIfInBounds_toArray, List.set_cons_zero, List.set_cons_succ]
    refine' wpT_det (o := ⟨some 35, Op.move (Operand.tmp 0), 68, "l05_sparse.go:8", #[{ on := 23, ground := Ground.guard }], some (23, false)⟩) rfl (by rfl) (by rfl) (fun w' hw' => ?_) ?_; rotate_left
    · go_simp <;> first | rfl | exact ⟨rfl, rfl⟩
    simp only [Act.put, List.setIfInBounds_toArray, List.set_cons_zero, List.set_cons_succ]
    refine' wpT_det (o := ⟨some 36, Op.nilCheck (Operand.tmp 35), 0, "l05_sparse.go:8", #[{ on := 24, ground := Ground.data }, { on := 23, ground := Ground.guard }], some (23, false)⟩) rfl (by rfl) (by rfl) (fun w' hw' => ?_) ?_; rotate_left
    · go_simp <;> first | rfl | exact ⟨rfl, rfl⟩
    simp only [Act.put, List.setIfInBounds_toArray, List.set_cons_zero, List.set_cons_succ]
    refine' wpT_det (o := ⟨some 37, Op.fieldAddr 27 (Operand.tmp 36) 3, 0, "l05_sparse.go:8", #[{ on := 25, ground := Ground.data }, { on := 23, ground := Ground.guard }], some (23, false)⟩) rfl (by rfl) (by rfl) (fun w' hw' => ?_) ?_; rotate_left
    · go_simp <;> first | rfl | exact ⟨rfl, rfl⟩
    simp only [Act.put, List.setIfInBounds_toArray, List.set_cons_zero, List.set_cons_succ]
    refine' wpT_det (o := ⟨some 38, Op.load 23 (Operand.tmp 37), 23, "l05_sparse.go:8", #[{ on := 26, ground := Ground.data }, { on := 23, ground := Ground.guard }], some (23, false)⟩) rfl (by rfl) (by rfl) (fun w' hw' => ?_) ?_; rotate_left
    · have a0_ := Ext.cell hw' a0; have a1_ := Ext.cell hw' a1; have a2_ := Ext.cell hw' a2; have a3_ := Ext.cell hw' a3; go_simp <;> first | rfl | exact ⟨rfl, rfl⟩
    simp only [Act.put, List.setIfInBounds_toArray, List.set_cons_zero, List.set_cons_succ]
    refine' wpT_det (o := ⟨some 39, Op.call { callee := Callee.builtin Builtin.len, args := #[Operand.tmp 38], argTypes := #[23] }, 3, "l05_sparse.go:8", #[{ on := 27, ground := Ground.data }, { on := 23, ground := Ground.guard }], some (23, false)⟩) rfl (by rfl) (by rfl) (fun w' hw' => ?_) ?_; rotate_left
    · go_simp <;> first | rfl | exact ⟨rfl, rfl⟩
    simp only [Act.put, List.setIfInBounds_toArray, List.set_cons_zero, List.set_cons_succ]
    refine' wpT_det (o := ⟨some 40, Op.move (Operand.tmp 3), 3, "l05_sparse.go:8", #[{ on := 23, ground := Ground.guard }], some (23, false)⟩) rfl (by rfl) (by rfl) (fun w' hw' => ?_) ?_; rotate_left
    · go_simp <;> first | rfl | exact ⟨rfl, rfl⟩
    simp only [Act.put, List.setIfInBounds_toArray, List.set_cons_zero, List.set_cons_succ]
    refine' wpT_det (o := ⟨some 41, Op.binOp BinOp.neq 3 (Operand.tmp 39) (Operand.tmp 40) 3, 4, "l05_sparse.go:8", #[{ on := 28, ground := Ground.data }, { on := 29, ground := Ground.data }, { on := 23, ground := Ground.guard }], some (23, false)⟩) rfl (by rfl) (by rfl) (fun w' hw' => ?_) ?_; rotate_left
    · go_simp <;> first | rfl | exact ⟨rfl, rfl⟩
    simp only [Act.put, List.setIfInBounds_toArray, List.set_cons_zero, List.set_cons_succ]
    refine' wpT_det (o := ⟨some 42, Op.pick (Operand.tmp 34) (Operand.const (Value.bool true)) (Operand.tmp 41), 4, "l05_sparse.go:8", #[{ on := 23, ground := Ground.data }, { on := 30, ground := Ground.data }], none⟩) rfl (by rfl) (by rfl) (fun w' hw' => ?_) ?_; rotate_left
    · go_simp <;> first | rfl | exact ⟨rfl, rfl⟩
    simp only [Act.put, List.setIfInBounds_toArray, List.set_cons_zero, List.set_cons_succ]
    refine' wpT_det (o := ⟨some 43, Op.move (Operand.tmp 42), 4, "l05_sparse.go:8", #[{ on := 31, ground := Ground.data }, { on := 23, ground := Ground.chain }], none⟩) rfl (by rfl) (by rfl) (fun w' hw' => ?_) ?_; rotate_left
    · go_simp <;> first | rfl | exact ⟨rfl, rfl⟩
    simp only [Act.put, List.setIfInBounds_toArray, List.set_cons_zero, List.set_cons_succ]
    refine' wpT_det (o := ⟨some 44, Op.move (Operand.tmp 0), 68, "l05_sparse.go:8", #[{ on := 32, ground := Ground.guard }], some (32, false)⟩) rfl (by rfl) (by rfl) (fun w' hw' => ?_) ?_; rotate_left
    · go_simp <;> first | rfl | exact ⟨rfl, rfl⟩
    simp only [Act.put, List.setIfInBounds_toArray, List.set_cons_zero, List.set_cons_succ]
    refine' wpT_det (o := ⟨some 45, Op.nilCheck (Operand.tmp 44), 0, "l05_sparse.go:8", #[{ on := 33, ground := Ground.data }, { on := 32, ground := Ground.guard }], some (32, false)⟩) rfl (by rfl) (by rfl) (fun w' hw' => ?_) ?_; rotate_left
    · go_simp <;> first | rfl | exact ⟨rfl, rfl⟩
    simp only [Act.put, List.setIfInBounds_toArray, List.set_cons_zero, List.set_cons_succ]
    refine' wpT_det (o := ⟨some 46, Op.fieldAddr 27 (Operand.tmp 45) 3, 0, "l05_sparse.go:8", #[{ on := 34, ground := Ground.data }, { on := 32, ground := Ground.guard }], some (32, false)⟩) rfl (by rfl) (by rfl) (fun w' hw' => ?_) ?_; rotate_left
    · go_simp <;> first | rfl | exact ⟨rfl, rfl⟩
    simp only [Act.put, List.setIfInBounds_toArray, List.set_cons_zero, List.set_cons_succ]
    refine' wpT_det (o := ⟨some 47, Op.load 23 (Operand.tmp 46), 23, "l05_sparse.go:8", #[{ on := 35, ground := Ground.data }, { on := 32, ground := Ground.guard }], some (32, false)⟩) rfl (by rfl) (by rfl) (fun w' hw' => ?_) ?_; rotate_left
    · have a0_ := Ext.cell hw' a0; have a1_ := Ext.cell hw' a1; have a2_ := Ext.cell hw' a2; have a3_ := Ext.cell hw' a3; go_simp <;> first | rfl | exact ⟨rfl, rfl⟩
    simp only [Act.put, List.setIfInBounds_toArray, List.set_cons_zero, List.set_cons_succ]
    refine wpT_nd (o := ⟨some 48, Op.call { callee := Callee.value (Operand.func 127), args := #[Operand.tmp 47], argTypes := #[23] }, 4, "l05_sparse.go:8", #[{ on := 36, ground := Ground.data }, { on := 32, ground := Ground.chain }, { on := 32, ground := Ground.guard }], some (32, false)⟩) rfl (by rfl) (by rfl) (fun w' hw' hF R__ hGo => ?_) ⟨_, rfl⟩ ?_
    · go_simp
      refine gives_enter rfl ?_
      refine (l02Finite_any _ _ _ _ _ (hv.below hw'.undrew)).mono ?_
      rintro e w2 ⟨rfl, hx⟩
      exact ⟨_, rfl, hGo _ _ hx (congrArg Value.bool h9) trivial⟩
    intro v hv
    obtain rfl : v = (.bool false) := hv
    simp only [Act.put, List.setIfInBounds_toArray, List.set_cons_zero, List.set_cons_succ]
    refine' wpT_det (o := ⟨some 49, Op.unOp UnOp.not 4 (Operand.tmp 48), 4, "l05_sparse.go:8", #[{ on := 37, ground := Ground.data }, { on := 32, ground := Ground.guard }], some (32, false)⟩) rfl (by rfl) (by rfl) (fun w' hw' => ?_) ?_; rotate_left
    · go_simp <;> first | rfl | exact ⟨rfl, rfl⟩
    simp only [Act.put, List.setIfInBounds_toArray, List.set_cons_zero, List.set_cons_succ]
    refine' wpT_det (o := ⟨some 50, Op.pick (Operand.tmp 43) (Operand.const (Value.bool true)) (Operand.tmp 49), 4, "l05_sparse.go:8", #[{ on := 32, ground := Ground.data }, { on := 38, ground := Ground.data }], none⟩) rfl (by rfl) (by rfl) (fun w' hw' => ?_) ?_; rotate_left
    · go_simp <;> first | rfl | exact ⟨rfl, rfl⟩
    simp only [Act.put, List.setIfInBounds_toArray, List.set_cons_zero, List.set_cons_succ]
    refine wpT_nil (fun w' hw' hF => ?_)
    refine wpList_nil ?_
    go_wp2_with fail
    go_ret
    exact ⟨ret_bool (by rw [Hres.out, hno]), hw'.undrew⟩
  | true =>
  by_cases h5 : rd st 0 = 0
  rotate_left
  · have h5' : (rd st 0 != 0) = true := by simpa using h5
    have hno : isSp sd st co va = false := isSp_not fun h => h5 h.s6
    clear h5
    go_enter Try.func71, Try.ntmps71
    go_upto_region 1 with (fail)
    go_upto_region 2 with (fail)
    refine wp_region_T (cs := []) [0, 1, 2, 3, 4, 5, 6, 7, 8, 9, 10, 11, 12, 13, 14, 15, 16, 17, 18, 19, 20, 21, 22, 23, 24, 25, 26, 27, 28, 29, 30, 31, 32, 33, 34, 35, 36, 37, 38, 39] [] [4, 37] [] (fun i__ v => match i__ with | 4 => v = (.bool true) | 37 => v = (.bool true) | _ => False) (fun _ _ _ => True) (by kernel_rfl) (by kernel_rfl) (fun _ _ _ _ _ _ => trivial) ?_
    refine' wpT_det (o := ⟨some 11, Op.move (Operand.tmp 0), 68, "l05_sparse.go:8", #[], none⟩) rfl (by rfl) (by rfl) (fun w' hw' => ?_) ?_; rotate_left
    · go_simp <;> first | rfl | exact ⟨rfl, rfl⟩
    simp only [Act.put, List.setIfInBounds_toArray, List.set_cons_zero, List.set_cons_succ]
    refine' wpT_det (o := ⟨some 12, Op.nilCheck (Operand.tmp 11), 0, "l05_sparse.go:8", #[{ on := 0, ground := Ground.data }], none⟩) rfl (by rfl) (by rfl) (fun w' hw' => ?_) ?_; rotate_left
    · go_simp <;> first | rfl | exact ⟨rfl, rfl⟩
    simp only [Act.put, List.setIfInBounds_toArray, List.set_cons_zero, List.set_cons_succ]
    refine' wpT_det (o := ⟨some 13, Op.fieldAddr 27 (Operand.tmp 12) 0, 0, "l05_sparse.go:8", #[{ on := 1, ground := Ground.data }], none⟩) rfl (by rfl) (by rfl) (fun w' hw' => ?_) ?_; rotate_left
    · go_simp <;> first | rfl | exact ⟨rfl, rfl⟩
    simp only [Act.put, List.setIfInBounds_toArray, List.set_cons_zero, List.set_cons_succ]
    refine' wpT_det (o := ⟨some 14, Op.load 2 (Operand.tmp 13), 2, "l05_sparse.go:8", #[{ on := 2, ground := Ground.data }], none⟩) rfl (by rfl) (by rfl) (fun w' hw' => ?_) ?_; rotate_left
    · have a0_ := Ext.cell hw' a0; have a1_ := Ext.cell hw' a1; have a2_ := Ext.cell hw' a2; have a3_ := Ext.cell hw' a3; go_simp <;> first | rfl | exact ⟨rfl, rfl⟩
    simp only [Act.put, List.setIfInBounds_toArray, List.set_cons_zero, List.set_cons_succ]
    refine wpT_nd (o := ⟨some 15, Op.call { callee := Callee.value (Operand.func 111), args := #[Operand.tmp 14, Operand.const (Value.int IntKind.i64 1), Operand.const (Value.int IntKind.i64 32)], argTypes := #[2, 2, 2] }, 4, "l05_sparse.go:8", #[{ on := 3, ground := Ground.data }], none⟩) rfl (by rfl) (by rfl) (fun w' hw' hF R__ hGo => ?_) ⟨_, rfl⟩ ?_
    · go_simp
      refine gives_enter rfl ?_
      refine (l00In_any _ _ _ _).mono ?_
      rintro e w2 ⟨rfl, rfl⟩
      exact ⟨_, rfl, hGo _ _ (Ext.refl _) (congrArg Value.bool h1) trivial⟩
    intro v hv
    obtain rfl : v = (.bool true) := hv
    simp only [Act.put, List.setIfInBounds_toArray, List.set_cons_zero, List.set_cons_succ]
    refine' wpT_det (o := ⟨some 16, Op.unOp UnOp.not 4 (Operand.tmp 15), 4, "l05_sparse.go:8", #[{ on := 4, ground := Ground.data }], none⟩) rfl (by rfl) (by rfl) (fun w' hw' => ?_) ?_; rotate_left
    · go_simp <;> first | rfl | exact ⟨rfl, rfl⟩
    simp only [Act.put, List.setIfInBounds_toArray, List.set_cons_zero, List.set_cons_succ]
    refine' wpT_det (o := ⟨some 17, Op.move (Operand.tmp 16), 4, "l05_sparse.go:8", #[{ on := 5, ground := Ground.data }, { on := 4, ground := Ground.chain }], none⟩) rfl (by rfl) (by rfl) (fun w' hw' => ?_) ?_; rotate_left
    · go_simp <;> first | rfl | exact ⟨rfl, rfl⟩
    simp only [Act.put, List.setIfInBounds_toArray, List.set_cons_zero, List.set_cons_succ]
    refine' wpT_det (o := ⟨some 18, Op.move (Operand.tmp 0), 68, "l05_sparse.go:8", #[{ on := 6, ground := Ground.guard }], some (6, false)⟩) rfl (by rfl) (by rfl) (fun w' hw' => ?_) ?_; rotate_left
    · go_simp <;> first | rfl | exact ⟨rfl, rfl⟩
    simp only [Act.put, List.setIfInBounds_toArray, List.set_cons_zero, List.set_cons_succ]
    refine' wpT_det (o := ⟨some 19, Op.nilCheck (Operand.tmp 18), 0, "l05_sparse.go:8", #[{ on := 7, ground := Ground.data }, { on := 6, ground := Ground.guard }], some (6, false)⟩) rfl (by rfl) (by rfl) (fun w' hw' => ?_) ?_; rotate_left
    · go_simp <;> first | rfl | exact ⟨rfl, rfl⟩
    simp only [Act.put, List.setIfInBounds_toArray, List.set_cons_zero, List.set_cons_succ]
    refine' wpT_det (o := ⟨some 20, Op.fieldAddr 27 (Operand.tmp 19) 1, 0, "l05_sparse.go:8", #[{ on := 8, ground := Ground.data }, { on := 6, ground := Ground.guard }], some (6, false)⟩) rfl (by rfl) (by rfl) (fun w' hw' => ?_) ?_; rotate_left
    · go_simp <;> first | rfl | exact ⟨rfl, rfl⟩
    simp only [Act.put, List.setIfInBounds_toArray, List.set_cons_zero, List.set_cons_succ]
    refine' wpT_det (o := ⟨some 21, Op.load 22 (Operand.tmp 20), 22, "l05_sparse.go:8", #[{ on := 9, ground := Ground.data }, { on := 6, ground := Ground.guard }], some (6, false)⟩) rfl (by rfl) (by rfl) (fun w' hw' => ?_) ?_; rotate_left
    · have a0_ := Ext.cell hw' a0; have a1_ := Ext.cell hw' a1; have a2_ := Ext.cell hw' a2; have a3_ := Ext.cell hw' a3; go_simp <;> first | rfl | exact ⟨rfl, rfl⟩
    simp only [Act.put, List.setIfInBounds_toArray, List.set_cons_zero, List.set_cons_succ]
    refine' wpT_det (o := ⟨some 22, Op.call { callee := Callee.builtin Builtin.len, args := #[Operand.tmp 21], argTypes := #[22] }, 3, "l05_sparse.go:8", #[{ on := 10, ground := Ground.data }, { on := 6, ground := Ground.guard }], some (6, false)⟩) rfl (by rfl) (by rfl) (fun w' hw' => ?_) ?_; rotate_left
    · go_simp <;> first | rfl | exact ⟨rfl, rfl⟩
    simp only [Act.put, List.setIfInBounds_toArray, List.set_cons_zero, List.set_cons_succ]
    refine' wpT_det (o := ⟨some 23, Op.move (Operand.tmp 0), 68, "l05_sparse.go:8", #[{ on := 6, ground := Ground.guard }], some (6, false)⟩) rfl (by rfl) (by rfl) (fun w' hw' => ?_) ?_; rotate_left
    · go_simp <;> first | rfl | exact ⟨rfl, rfl⟩
    simp only [Act.put, List.setIfInBounds_toArray, List.set_cons_zero, List.set_cons_succ]
    refine' wpT_det (o := ⟨some 24, Op.nilCheck (Operand.tmp 23), 0, "l05_sparse.go:8", #[{ on := 12, ground := Ground.data }, { on := 6, ground := Ground.guard }], some (6, false)⟩) rfl (by rfl) (by rfl) (fun w' hw' => ?_) ?_; rotate_left
    · go_simp <;> first | rfl | exact ⟨rfl, rfl⟩
    simp only [Act.put, List.setIfInBounds_toArray, List.set_cons_zero, List.set_cons_succ]
    refine' wpT_det (o := ⟨some 25, Op.fieldAddr 27 (Operand.tmp 24) 0, 0, "l05_sparse.go:8", #[{ on := 13, ground := Ground.data }, { on := 6, ground := Ground.guard }], some (6, false)⟩) rfl (by rfl) (by rfl) (fun w' hw' => ?_) ?_; rotate_left
    · go_simp <;> first | rfl | exact ⟨rfl, rfl⟩
    simp only [Act.put, List.setIfInBounds_toArray, List.set_cons_zero, List.set_cons_succ]
    refine' wpT_det (o := ⟨some 26, Op.load 2 (Operand.tmp 25), 2, "l05_sparse.go:8", #[{ on := 14, ground := Ground.data }, { on := 6, ground := Ground.guard }], some (6, false)⟩) rfl (by rfl) (by rfl) (fun w' hw' => ?_) ?_; rotate_left
    · have a0_ := Ext.cell hw' a0; have a1_ := Ext.cell hw' a1; have a2_ := Ext.cell hw' a2; have a3_ := Ext.cell hw' a3; go_simp <;> first | rfl | exact ⟨rfl, rfl⟩
    simp only [Act.put, List.setIfInBounds_toArray, List.set_cons_zero, List.set_cons_succ]
    refine' wpT_det (o := ⟨some 27, Op.binOp BinOp.add 2 (Operand.tmp 26) (Operand.const (Value.int IntKind.i64 1)) 2, 2, "l05_sparse.go:8", #[{ on := 15, ground := Ground.data }, { on := 6, ground := Ground.guard }], some (6, false)⟩) rfl (by rfl) (by rfl) (fun w' hw' => ?_) ?_; rotate_left
    · go_simp <;> first | rfl | exact ⟨rfl, rfl⟩
    simp only [Act.put, List.setIfInBounds_toArray, List.set_cons_zero, List.set_cons_succ]
    refine' wpT_det (o := ⟨some 28, Op.binOp BinOp.neq 2 (Operand.tmp 22) (Operand.tmp 27) 2, 4, "l05_sparse.go:8", #[{ on := 11, ground := Ground.data }, { on := 16, ground := Ground.data }, { on := 6, ground := Ground.guard }], some (6, false)⟩) rfl (by rfl) (by rfl) (fun w' hw' => ?_) ?_; rotate_left
    · go_simp <;> first | rfl | exact ⟨rfl, rfl⟩
    simp only [Act.put, List.setIfInBounds_toArray, List.set_cons_zero, List.set_cons_succ]
    refine' wpT_det (o := ⟨some 29, Op.pick (Operand.tmp 17) (Operand.const (Value.bool true)) (Operand.tmp 28), 4, "l05_sparse.go:8", #[{ on := 6, ground := Ground.data }, { on := 17, ground := Ground.data }], none⟩) rfl (by rfl) (by rfl) (fun w' hw' => ?_) ?_; rotate_left
    · go_simp <;> first | rfl | exact ⟨rfl, rfl⟩
    simp only [Act.put, List.setIfInBounds_toArray, List.set_cons_zero, List.set_cons_succ]
    refine' wpT_det (o := ⟨some 30, Op.move (Operand.tmp 29), 4, "l05_sparse.go:8", #[{ on := 18, ground := Ground.data }, { on := 6, ground := Ground.chain }], none⟩) rfl (by rfl) (by rfl) (fun w' hw' => ?_) ?_; rotate_left
    · go_simp <;> first | rfl | exact ⟨rfl, rfl⟩
    simp only [Act.put, List.setIfInBounds_toArray, List.set_cons_zero, List.set_cons_succ]
    refine' wpT_det (o := ⟨some 31, Op.move (Operand.tmp 3), 3, "l05_sparse.go:8", #[{ on := 19, ground := Ground.guard }], some (19, false)⟩) rfl (by rfl) (by rfl) (fun w' hw' => ?_) ?_; rotate_left
    · go_simp <;> first | rfl | exact ⟨rfl, rfl⟩
    simp only [Act.put, List.setIfInBounds_toArray, List.set_cons_zero, List.set_cons_succ]
    refine' wpT_det (o := ⟨some 32, Op.binOp BinOp.gtr 3 (Operand.tmp 31) (Operand.const (Value.int IntKind.i64 512)) 3, 4, "l05_sparse.go:8", #[{ on := 20, ground := Ground.data }, { on := 19, ground := Ground.guard }], some (19, false)⟩) rfl (by rfl) (by rfl) (fun w' hw' => ?_) ?_; rotate_left
    · go_simp <;> first | rfl | exact ⟨rfl, rfl⟩
    simp only [Act.put, List.setIfInBounds_toArray, List.set_cons_zero, List.set_cons_succ]
    refine' wpT_det (o := ⟨some 33, Op.pick (Operand.tmp 30) (Operand.const (Value.bool true)) (Operand.tmp 32), 4, "l05_sparse.go:8", #[{ on := 19, ground := Ground.data }, { on := 21, ground := Ground.data }], none⟩) rfl (by rfl) (by rfl) (fun w' hw' => ?_) ?_; rotate_left
    · go_simp <;> first | rfl | exact ⟨rfl, rfl⟩
    simp only [Act.put, List.setIfInBounds_toArray, List.set_cons_zero, List.set_cons_succ]
    refine' wpT_det (o := ⟨some 34, Op.move (Operand.tmp 33), 4, "l05_sparse.go:8", #[{ on := 22, ground := Ground.data }, { on := 19, ground := Ground.chain }], none⟩) rfl (by rfl) (by rfl) (fun w' hw' => ?_) ?_; rotate_left
    · go_simp <;> first | rfl | exact ⟨rfl, rfl⟩
    simp only [Act.put, List.setIfInBounds_toArray, List.set_cons_zero, List.set_cons_succ]
    refine' wpT_det (o := ⟨some 35, Op.move (Operand.tmp 0), 68, "l05_sparse.go:8", #[{ on := 23, ground := Ground.guard }], some (23, false)⟩) rfl (by rfl) (by rfl) (fun w' hw' => ?_) ?_; rotate_left
    · go_simp <;> first | rfl | exact ⟨rfl, rfl⟩
    simp only [Act.put, List.setIfInBounds_toArray, List.set_cons_zero, List.set_cons_succ]
    refine' wpT_det (o := ⟨some 36, Op.nilCheck (Operand.tmp 35), 0, "l05_sparse.go:8", #[{ on := 24, ground := Ground.data }, { on := 23, ground := Ground.guard }], some (23, false)⟩) rfl (by rfl) (by rfl) (fun w' hw' => ?_) ?_; rotate_left
    · go_simp <;> first | rfl | exact ⟨rfl, rfl⟩
    simp only [Act.put, List.setIfInBounds_toArray, List.set_cons_zero, List.set_cons_succ]
    refine' wpT_det (o := ⟨some 37, Op.fieldAddr 27 (Operand.tmp 36) 3, 0, "l05_sparse.go:8", #[{ on := 25, ground := Ground.data }, { on := 23, ground := Ground.guard }], some (23, false)⟩) rfl (by rfl) (by rfl) (fun w' hw' => ?_) ?_; rotate_left
    · go_simp <;> first | rfl | exact ⟨rfl, rfl⟩
    simp only [Act.put, List.setIfInBounds_toArray, List.set_cons_zero, List.set_cons_succ]
    refine' wpT_det (o := ⟨some 38, Op.load 23 (Operand.tmp 37), 23, "l05_sparse.go:8", #[{ on := 26, ground := Ground.data }, { on := 23, ground := Ground.guard }], some (23, false)⟩) rfl (by rfl) (by rfl) (fun w' hw' => ?_) ?_; rotate_left
    · have a0_ := Ext.cell hw' a0; have a1_ := Ext.cell hw' a1; have a2_ := Ext.cell hw' a2; have a3_ := Ext.cell hw' a3; go_simp <;> first | rfl | exact ⟨rfl, rfl⟩
    simp only [Act.put, List.setIfInBounds_toArray, List.set_cons_zero, List.set_cons_succ]
    refine' wpT_det (o := ⟨some 39, Op.call { callee := Callee.builtin Builtin.len, args := #[Operand.tmp 38], argTypes := #[23] }, 3, "l05_sparse.go:8", #[{ on := 27, ground := Ground.data }, { on := 23, ground := Ground.guard }], some (23, false)⟩) rfl (by rfl) (by rfl) (fun w' hw' => ?_) ?_; rotate_left
    · go_simp <;> first | rfl | exact ⟨rfl, rfl⟩
    simp only [Act.put, List.setIfInBounds_toArray, List.set_cons_zero, List.set_cons_succ]
    refine' wpT_det (o := ⟨some 40, Op.move (Operand.tmp 3), 3, "l05_sparse.go:8", #[{ on := 23, ground := Ground.guard }], some (23, false)⟩) rfl (by rfl) (by rfl) (fun w' hw' => ?_) ?_; rotate_left
    · go_simp <;> first | rfl | exact ⟨rfl, rfl⟩
    simp only [Act.put, List.setIfInBounds_toArray, List.set_cons_zero, List.set_cons_succ]
    refine' wpT_det (o := ⟨some 41, Op.binOp BinOp.neq 3 (Operand.tmp 39) (Operand.tmp 40) 3, 4, "l05_sparse.go:8", #[{ on := 28, ground := Ground.data }, { on := 29, ground := Ground.data }, { on := 23, ground := Ground.guard }], some (23, false)⟩) rfl (by rfl) (by rfl) (fun w' hw' => ?_) ?_; rotate_left
    · go_simp <;> first | rfl | exact ⟨rfl, rfl⟩
    simp only [Act.put, List.setIfInBounds_toArray, List.set_cons_zero, List.set_cons_succ]
    refine' wpT_det (o := ⟨some 42, Op.pick (Operand.tmp 34) (Operand.const (Value.bool true)) (Operand.tmp 41), 4, "l05_sparse.go:8", #[{ on := 23, ground := Ground.data }, { on := 30, ground := Ground.data }], none⟩) rfl (by rfl) (by rfl) (fun w' hw' => ?_) ?_; rotate_left
    · go_simp <;> first | rfl | exact ⟨rfl, rfl⟩
    simp only [Act.put, List.setIfInBounds_toArray, List.set_cons_zero, List.set_cons_succ]
    refine' wpT_det (o := ⟨some 43, Op.move (Operand.tmp 42), 4, "l05_sparse.go:8", #[{ on := 31, ground := Ground.data }, { on := 23, ground := Ground.chain }], none⟩) rfl (by rfl) (by rfl) (fun w' hw' => ?_) ?_; rotate_left
    · go_simp <;> first | rfl | exact ⟨rfl, rfl⟩
    simp only [Act.put, List.setIfInBounds_toArray, List.set_cons_zero, List.set_cons_succ]
    refine' wpT_det (o := ⟨some 44, Op.move (Operand.tmp 0), 68, "l05_sparse.go:8", #[{ on := 32, ground := Ground.guard }], some (32, false)⟩) rfl (by rfl) (by rfl) (fun w' hw' => ?_) ?_; rotate_left
    · go_simp <;> first | rfl | exact ⟨rfl, rfl⟩
    simp only [Act.put, List.setIfInBounds_toArray, List.set_cons_zero, List.set_cons_succ]
    refine' wpT_det (o := ⟨some 45, Op.nilCheck (Operand.tmp 44), 0, "l05_sparse.go:8", #[{ on := 33, ground := Ground.data }, { on := 32, ground := Ground.guard }], some (32, false)⟩) rfl (by rfl) (by rfl) (fun w' hw' => ?_) ?_; rotate_left
    · go_simp <;> first | rfl | exact ⟨rfl, rfl⟩
    simp only [Act.put, List.setIfInBounds_toArray, List.set_cons_zero, List.set_cons_succ]
    refine' wpT_det (o := ⟨some 46, Op.fieldAddr 27 (Operand.tmp 45) 3, 0, "l05_sparse.go:8", #[{ on := 34, ground := Ground.data }, { on := 32, ground := Ground.guard }], some (32, false)⟩) rfl (by rfl) (by rfl) (fun w' hw' => ?_) ?_; rotate_left
    · go_simp <;> first | rfl | exact ⟨rfl, rfl⟩
    simp only [Act.put, List.setIfInBounds_toArray, List.set_cons_zero, List.set_cons_succ]
    refine' wpT_det (o := ⟨some 47, Op.load 23 (Operand.tmp 46), 23, "l05_sparse.go:8", #[{ on := 35, ground := Ground.data }, { on := 32, ground := Ground.guard }], some (32, false)⟩) rfl (by rfl) (by rfl) (fun w' hw' => ?_) ?_; rotate_left
    · have a0_ := Ext.cell hw' a0; have a1_ := Ext.cell hw' a1; have a2_ := Ext.cell hw' a2; have a3_ := Ext.cell hw' a3; go_simp <;> first | rfl | exact ⟨rfl, rfl⟩
    simp only [Act.put, List.setIfInBounds_toArray, List.set_cons_zero, List.set_cons_succ]
    refine wpT_nd (o := ⟨some 48, Op.call { callee := Callee.value (Operand.func 127), args := #[Operand.tmp 47], argTypes := #[23] }, 4, "l05_sparse.go:8", #[{ on := 36, ground := Ground.data }, { on := 32, ground := Ground.chain }, { on := 32, ground := Ground.guard }], some (32, false)⟩) rfl (by rfl) (by rfl) (fun w' hw' hF R__ hGo => ?_) ⟨_, rfl⟩ ?_
    · go_simp
      refine gives_enter rfl ?_
      refine (l02Finite_any _ _ _ _ _ (hv.below hw'.undrew)).mono ?_
      rintro e w2 ⟨rfl, hx⟩
      exact ⟨_, rfl, hGo _ _ hx (congrArg Value.bool h9) trivial⟩
    intro v hv
    obtain rfl : v = (.bool true) := hv
    simp only [Act.put, List.setIfInBounds_toArray, List.set_cons_zero, List.set_cons_succ]
    refine' wpT_det (o := ⟨some 49, Op.unOp UnOp.not 4 (Operand.tmp 48), 4, "l05_sparse.go:8", #[{ on := 37, ground := Ground.data }, { on := 32, ground := Ground.guard }], some (32, false)⟩) rfl (by rfl) (by rfl) (fun w' hw' => ?_) ?_; rotate_left
    · go_simp <;> first | rfl | exact ⟨rfl, rfl⟩
    simp only [Act.put, List.setIfInBounds_toArray, List.set_cons_zero, List.set_cons_succ]
    refine' wpT_det (o := ⟨some 50, Op.pick (Operand.tmp 43) (Operand.const (Value.bool true)) (Operand.tmp 49), 4, "l05_sparse.go:8", #[{ on := 32, ground := Ground.data }, { on := 38, ground := Ground.data }], none⟩) rfl (by rfl) (by rfl) (fun w' hw' => ?_) ?_; rotate_left
    · go_simp <;> first | rfl | exact ⟨rfl, rfl⟩
    simp only [Act.put, List.setIfInBounds_toArray, List.set_cons_zero, List.set_cons_succ]
    refine wpT_nil (fun w' hw' hF => ?_)
    refine wpList_nil ?_
    have hx0 := hw'.undrew
    clear hF hw'
    replace a0 := hx0.cell a0
    replace a1 := hx0.cell a1
    replace a2 := hx0.cell a2
    replace a3 := hx0.cell a3
    rename World => wY
    have ec0 := (hr.below hx0).int 0 (by omega) (by omega)
    have ec1 := (hr.below hx0).int sd (by omega) (by omega)
    obtain ⟨ad, rfl, hc⟩ := ec0
    obtain ⟨ad', had, hc'⟩ := ec1
    obtain rfl := Option.some.inj had
    clear had
    replace hc : wY.cell? ad = some (.int .i64 (rd st 0)) := by rwa [show ad.add (0 : Int).toNat = ad by cases ad; simp [Addr.add]] at hc
    go_upto_region 4 with (fail)
    refine wp_region_T (cs := []) [0, 1, 2, 3, 4, 5, 6, 7, 8, 9, 10, 11, 12, 13, 14, 15, 16, 17, 18, 19, 20] [] [] [] (fun _ _ => False) (fun _ _ _ => True) (by kernel_rfl) (by kernel_rfl) (fun _ _ _ _ _ _ => trivial) ?_
    refine' wpT_det (o := ⟨some 51, Op.move (Operand.tmp 0), 68, "l05_sparse.go:11", #[], none⟩) rfl (by rfl) (by rfl) (fun w' hw' => ?_) ?_; rotate_left
    · go_simp <;> first | rfl | exact ⟨rfl, rfl⟩
    simp only [Act.put, List.setIfInBounds_toArray, List.set_cons_zero, List.set_cons_succ]
    refine' wpT_det (o := ⟨some 52, Op.nilCheck (Operand.tmp 51), 0, "l05_sparse.go:11", #[{ on := 0, ground := Ground.data }], none⟩) rfl (by rfl) (by rfl) (fun w' hw' => ?_) ?_; rotate_left
    · go_simp <;> first | rfl | exact ⟨rfl, rfl⟩
    simp only [Act.put, List.setIfInBounds_toArray, List.set_cons_zero, List.set_cons_succ]
    refine' wpT_det (o := ⟨some 53, Op.fieldAddr 27 (Operand.tmp 52) 1, 0, "l05_sparse.go:11", #[{ on := 1, ground := Ground.data }], none⟩) rfl (by rfl) (by rfl) (fun w' hw' => ?_) ?_; rotate_left
    · go_simp <;> first | rfl | exact ⟨rfl, rfl⟩
    simp only [Act.put, List.setIfInBounds_toArray, List.set_cons_zero, List.set_cons_succ]
    refine' wpT_det (o := ⟨some 54, Op.load 22 (Operand.tmp 53), 22, "l05_sparse.go:11", #[{ on := 2, ground := Ground.data }], none⟩) rfl (by rfl) (by rfl) (fun w' hw' => ?_) ?_; rotate_left
    · have a0_ := Ext.cell hw' a0; have a1_ := Ext.cell hw' a1; have hc_ := Ext.cell hw' hc; have hc'_ := Ext.cell hw' hc'; go_simp <;> first | rfl | exact ⟨rfl, rfl⟩
    simp only [Act.put, List.setIfInBounds_toArray, List.set_cons_zero, List.set_cons_succ]
    refine' wpT_det (o := ⟨some 55, Op.indexAddr 22 (Operand.tmp 54) (Operand.const (Value.int IntKind.i64 0)), 0, "l05_sparse.go:11", #[{ on := 3, ground := Ground.data }], none⟩) rfl (by rfl) (by rfl) (fun w' hw' => ?_) ?_; rotate_left
    · go_simp <;> first | rfl | exact ⟨rfl, rfl⟩
    simp only [Act.put, List.setIfInBounds_toArray, List.set_cons_zero, List.set_cons_succ]
    refine' wpT_det (o := ⟨some 56, Op.load 2 (Operand.tmp 55), 2, "l05_sparse.go:11", #[{ on := 4, ground := Ground.data }], none⟩) rfl (by rfl) (by rfl) (fun w' hw' => ?_) ?_; rotate_left
    · have a0_ := Ext.cell hw' a0; have a1_ := Ext.cell hw' a1; have hc_ := Ext.cell hw' hc; have hc'_ := Ext.cell hw' hc'; go_simp <;> first | rfl | exact ⟨rfl, rfl⟩
    simp only [Act.put, List.setIfInBounds_toArray, List.set_cons_zero, List.set_cons_succ]
    refine' wpT_det (o := ⟨some 57, Op.binOp BinOp.neq 2 (Operand.tmp 56) (Operand.const (Value.int IntKind.i64 0)) 2, 4, "l05_sparse.go:11", #[{ on := 5, ground := Ground.data }], none⟩) rfl (by rfl) (by rfl) (fun w' hw' => ?_) ?_; rotate_left
    · go_simp <;> first | rfl | exact ⟨rfl, rfl⟩
    simp only [Act.put, List.setIfInBounds_toArray, List.set_cons_zero, List.set_cons_succ]
    refine' wpT_det (o := ⟨some 58, Op.move (Operand.tmp 57), 4, "l05_sparse.go:11", #[{ on := 6, ground := Ground.data }], none⟩) rfl (by rfl) (by rfl) (fun w' hw' => ?_) ?_; rotate_left
    · go_simp <;> first | rfl | exact ⟨rfl, rfl⟩
    simp only [Act.put, List.setIfInBounds_toArray, List.set_cons_zero, List.set_cons_succ]
    refine wpT_skip (o := ⟨some 59, Op.move (Operand.tmp 0), 68, "l05_sparse.go:11", #[{ on := 7, ground := Ground.guard }], some (7, false)⟩) rfl (by rfl) ?_
    simp only [Act.put, List.setIfInBounds_toArray, List.set_cons_zero, List.set_cons_succ]
    refine wpT_skip (o := ⟨some 60, Op.nilCheck (Operand.tmp 59), 0, "l05_sparse.go:11", #[{ on := 8, ground := Ground.data }, { on := 7, ground := Ground.guard }], some (7, false)⟩) rfl (by rfl) ?_
    simp only [Act.put, List.setIfInBounds_toArray, List.set_cons_zero, List.set_cons_succ]
    refine wpT_skip (o := ⟨some 61, Op.fieldAddr 27 (Operand.tmp 60) 1, 0, "l05_sparse.go:11", #[{ on := 9, ground := Ground.data }, { on := 7, ground := Ground.guard }], some (7, false)⟩) rfl (by rfl) ?_
    simp only [Act.put, List.setIfInBounds_toArray, List.set_cons_zero, List.set_cons_succ]
    refine wpT_skip (o := ⟨some 62, Op.load 22 (Operand.tmp 61), 22, "l05_sparse.go:11", #[{ on := 10, ground := Ground.data }, { on := 7, ground := Ground.guard }], some (7, false)⟩) rfl (by rfl) ?_
    simp only [Act.put, List.setIfInBounds_toArray, List.set_cons_zero, List.set_cons_succ]
    refine wpT_skip (o := ⟨some 63, Op.move (Operand.tmp 0), 68, "l05_sparse.go:11", #[{ on := 7, ground := Ground.guard }], some (7, false)⟩) rfl (by rfl) ?_
    simp only [Act.put, List.setIfInBounds_toArray, List.set_cons_zero, List.set_cons_succ]
    refine wpT_skip (o := ⟨some 64, Op.nilCheck (Operand.tmp 63), 0, "l05_sparse.go:11", #[{ on := 12, ground := Ground.data }, { on := 7, ground := Ground.guard }], some (7, false)⟩) rfl (by rfl) ?_
    simp only [Act.put, List.setIfInBounds_toArray, List.set_cons_zero, List.set_cons_succ]
    refine wpT_skip (o := ⟨some 65, Op.fieldAddr 27 (Operand.tmp 64) 0, 0, "l05_sparse.go:11", #[{ on := 13, ground := Ground.data }, { on := 7, ground := Ground.guard }], some (7, false)⟩) rfl (by rfl) ?_
    simp only [Act.put, List.setIfInBounds_toArray, List.set_cons_zero, List.set_cons_succ]
    refine wpT_skip (o := ⟨some 66, Op.load 2 (Operand.tmp 65), 2, "l05_sparse.go:11", #[{ on := 14, ground := Ground.data }, { on := 7, ground := Ground.guard }], some (7, false)⟩) rfl (by rfl) ?_
    simp only [Act.put, List.setIfInBounds_toArray, List.set_cons_zero, List.set_cons_succ]
    refine wpT_skip (o := ⟨some 67, Op.indexAddr 22 (Operand.tmp 62) (Operand.tmp 66), 0, "l05_sparse.go:11", #[{ on := 11, ground := Ground.data }, { on := 15, ground := Ground.data }, { on := 7, ground := Ground.guard }], some (7, false)⟩) rfl (by rfl) ?_
    simp only [Act.put, List.setIfInBounds_toArray, List.set_cons_zero, List.set_cons_succ]
    refine wpT_skip (o := ⟨some 68, Op.load 2 (Operand.tmp 67), 2, "l05_sparse.go:11", #[{ on := 16, ground := Ground.data }, { on := 7, ground := Ground.guard }], some (7, false)⟩) rfl (by rfl) ?_
    simp only [Act.put, List.setIfInBounds_toArray, List.set_cons_zero, List.set_cons_succ]
    refine wpT_skip (o := ⟨some 69, Op.move (Operand.tmp 3), 3, "l05_sparse.go:11", #[{ on := 7, ground := Ground.guard }], some (7, false)⟩) rfl (by rfl) ?_
    simp only [Act.put, List.setIfInBounds_toArray, List.set_cons_zero, List.set_cons_succ]
    refine wpT_skip (o := ⟨some 70, Op.binOp BinOp.neq 2 (Operand.tmp 68) (Operand.tmp 69) 2, 4, "l05_sparse.go:11", #[{ on := 17, ground := Ground.data }, { on := 18, ground := Ground.data }, { on := 7, ground := Ground.guard }], some (7, false)⟩) rfl (by rfl) ?_
    simp only [Act.put, List.setIfInBounds_toArray, List.set_cons_zero, List.set_cons_succ]
    refine' wpT_det (o := ⟨some 71, Op.pick (Operand.tmp 58) (Operand.const (Value.bool true)) (Operand.tmp 70), 4, "l05_sparse.go:11", #[{ on := 7, ground := Ground.data }, { on := 19, ground := Ground.data }], none⟩) rfl (by rfl) (by rfl) (fun w' hw' => ?_) ?_; rotate_left
    · go_simp <;> first | rfl | exact ⟨rfl, rfl⟩
    simp only [Act.put, List.setIfInBounds_toArray, List.set_cons_zero, List.set_cons_succ]
    refine wpT_nil (fun w' hw' hF => ?_)
    refine wpList_nil ?_
    go_wp2_with fail
    go_ret
    exact ⟨ret_bool (by rw [Hres.out, hno]), hx0.trans hw'.undrew⟩
  have h5' : (rd st 0 != 0) = false := by simpa using h5
  have H5 := Lib.hid h5
  clear h5
  by_cases h6 : rd st sd = m
  rotate_left
  · have h6' : (rd st sd != m) = true := by simpa using h6
    have hno : isSp sd st co va = false := isSp_not fun h => h6 (by have := h.s7; rw [HB.out] at this; exact this)
    clear h6
    go_enter Try.func71, Try.ntmps71
    go_upto_region 1 with (fail)
    go_upto_region 2 with (fail)
    refine wp_region_T (cs := []) [0, 1, 2, 3, 4, 5, 6, 7, 8, 9, 10, 11, 12, 13, 14, 15, 16, 17, 18, 19, 20, 21, 22, 23, 24, 25, 26, 27, 28, 29, 30, 31, 32, 33, 34, 35, 36, 37, 38, 39] [] [4, 37] [] (fun i__ v => match i__ with | 4 => v = (.bool true) | 37 => v = (.bool true) | _ => False) (fun _ _ _ => True) (by kernel_rfl) (by kernel_rfl) (fun _ _ _ _ _ _ => trivial) ?_
    refine' wpT_det (o := ⟨some 11, Op.move (Operand.tmp 0), 68, "l05_sparse.go:8", #[], none⟩) rfl (by rfl) (by rfl) (fun w' hw' => ?_) ?_; rotate_left
    · go_simp <;> first | rfl | exact ⟨rfl, rfl⟩
    simp only [Act.put, List.setIfInBounds_toArray, List.set_cons_zero, List.set_cons_succ]
    refine' wpT_det (o := ⟨some 12, Op.nilCheck (Operand.tmp 11), 0, "l05_sparse.go:8", #[{ on := 0, ground := Ground.data }], none⟩) rfl (by rfl) (by rfl) (fun w' hw' => ?_) ?_; rotate_left
    · go_simp <;> first | rfl | exact ⟨rfl, rfl⟩
    simp only [Act.put, List.setIfInBounds_toArray, List.set_cons_zero, List.set_cons_succ]
    refine' wpT_det (o := ⟨some 13, Op.fieldAddr 27 (Operand.tmp 12) 0, 0, "l05_sparse.go:8", #[{ on := 1, ground := Ground.data }], none⟩) rfl (by rfl) (by rfl) (fun w' hw' => ?_) ?_; rotate_left
    · go_simp <;> first | rfl | exact ⟨rfl, rfl⟩
    simp only [Act.put, List.setIfInBounds_toArray, List.set_cons_zero, List.set_cons_succ]
    refine' wpT_det (o := ⟨some 14, Op.load 2 (Operand.tmp 13), 2, "l05_sparse.go:8", #[{ on := 2, ground := Ground.data }], none⟩) rfl (by rfl) (by rfl) (fun w' hw' => ?_) ?_; rotate_left
    · have a0_ := Ext.cell hw' a0; have a1_ := Ext.cell hw' a1; have a2_ := Ext.cell hw' a2; have a3_ := Ext.cell hw' a3; go_simp <;> first | rfl | exact ⟨rfl, rfl⟩
    simp only [Act.put, List.setIfInBounds_toArray, List.set_cons_zero, List.set_cons_succ]
    refine wpT_nd (o := ⟨some 15, Op.call { callee := Callee.value (Operand.func 111), args := #[Operand.tmp 14, Operand.const (Value.int IntKind.i64 1), Operand.const (Value.int IntKind.i64 32)], argTypes := #[2, 2, 2] }, 4, "l05_sparse.go:8", #[{ on := 3, ground := Ground.data }], none⟩) rfl (by rfl) (by rfl) (fun w' hw' hF R__ hGo => ?_) ⟨_, rfl⟩ ?_
    · go_simp
      refine gives_enter rfl ?_
      refine (l00In_any _ _ _ _).mono ?_
      rintro e w2 ⟨rfl, rfl⟩
      exact ⟨_, rfl, hGo _ _ (Ext.refl _) (congrArg Value.bool h1) trivial⟩
    intro v hv
    obtain rfl : v = (.bool true) := hv
    simp only [Act.put, List.setIfInBounds_toArray, List.set_cons_zero, List.set_cons_succ]
    refine' wpT_det (o := ⟨some 16, Op.unOp UnOp.not 4 (Operand.tmp 15), 4, "l05_sparse.go:8", #[{ on := 4, ground := Ground.data }], none⟩) rfl (by rfl) (by rfl) (fun w' hw' => ?_) ?_; rotate_left
    · go_simp <;> first | rfl | exact ⟨rfl, rfl⟩
    simp only [Act.put, List.setIfInBounds_toArray, List.set_cons_zero, List.set_cons_succ]
    refine' wpT_det (o := ⟨some 17, Op.move (Operand.tmp 16), 4, "l05_sparse.go:8", #[{ on := 5, ground := Ground.data }, { on := 4, ground := Ground.chain }], none⟩) rfl (by rfl) (by rfl) (fun w' hw' => ?_) ?_; rotate_left
    · go_simp <;> first | rfl | exact ⟨rfl, rfl⟩
    simp only [Act.put, List.setIfInBounds_toArray, List.set_cons_zero, List.set_cons_succ]
    refine' wpT_det (o := ⟨some 18, Op.move (Operand.tmp 0), 68, "l05_sparse.go:8", #[{ on := 6, ground := Ground.guard }], some (6, false)⟩) rfl (by rfl) (by rfl) (fun w' hw' => ?_) ?_; rotate_left
    · go_simp <;> first | rfl | exact ⟨rfl, rfl⟩
    simp only [Act.put, List.setIfInBounds_toArray, List.set_cons_zero, List.set_cons_succ]
    refine' wpT_det (o := ⟨some 19, Op.nilCheck (Operand.tmp 18), 0, "l05_sparse.go:8", #[{ on := 7, ground := Ground.data }, { on := 6, ground := Ground.guard }], some (6, false)⟩) rfl (by rfl) (by rfl) (fun w' hw' => ?_) ?_; rotate_left
    · go_simp <;> first | rfl | exact ⟨rfl, rfl⟩
    simp only [Act.put, List.setIfInBounds_toArray, List.set_cons_zero, List.set_cons_succ]
    refine' wpT_det (o := ⟨some 20, Op.fieldAddr 27 (Operand.tmp 19) 1, 0, "l05_sparse.go:8", #[{ on := 8, ground := Ground.data }, { on := 6, ground := Ground.guard }], some (6, false)⟩) rfl (by rfl) (by rfl) (fun w' hw' => ?_) ?_; rotate_left
    · go_simp <;> first | rfl | exact ⟨rfl, rfl⟩
    simp only [Act.put, List.setIfInBounds_toArray, List.set_cons_zero, List.set_cons_succ]
    refine' wpT_det (o := ⟨some 21, Op.load 22 (Operand.tmp 20), 22, "l05_sparse.go:8", #[{ on := 9, ground := Ground.data }, { on := 6, ground := Ground.guard }], some (6, false)⟩) rfl (by rfl) (by rfl) (fun w' hw' => ?_) ?_; rotate_left
    · have a0_ := Ext.cell hw' a0; have a1_ := Ext.cell hw' a1; have a2_ := Ext.cell hw' a2; have a3_ := Ext.cell hw' a3; go_simp <;> first | rfl | exact ⟨rfl, rfl⟩
    simp only [Act.put, List.setIfInBounds_toArray, List.set_cons_zero, List.set_cons_succ]
    refine' wpT_det (o := ⟨some 22, Op.call { callee := Callee.builtin Builtin.len, args := #[Operand.tmp 21], argTypes := #[22] }, 3, "l05_sparse.go:8", #[{ on := 10, ground := Ground.data }, { on := 6, ground := Ground.guard }], some (6, false)⟩) rfl (by rfl) (by rfl) (fun w' hw' => ?_) ?_; rotate_left
    · go_simp <;> first | rfl | exact ⟨rfl, rfl⟩
    simp only [Act.put, List.setIfInBounds_toArray, List.set_cons_zero, List.set_cons_succ]
    refine' wpT_det (o := ⟨some 23, Op.move (Operand.tmp 0), 68, "l05_sparse.go:8", #[{ on := 6, ground := Ground.guard }], some (6, false)⟩) rfl (by rfl) (by rfl) (fun w' hw' => ?_) ?_; rotate_left
    · go_simp <;> first | rfl | exact ⟨rfl, rfl⟩
    simp only [Act.put, List.setIfInBounds_toArray, List.set_cons_zero, List.set_cons_succ]
    refine' wpT_det (o := ⟨some 24, Op.nilCheck (Operand.tmp 23), 0, "l05_sparse.go:8", #[{ on := 12, ground := Ground.data }, { on := 6, ground := Ground.guard }], some (6, false)⟩) rfl (by rfl) (by rfl) (fun w' hw' => ?_) ?_; rotate_left
    · go_simp <;> first | rfl | exact ⟨rfl, rfl⟩
    simp only [Act.put, List.setIfInBounds_toArray, List.set_cons_zero, List.set_cons_succ]
    refine' wpT_det (o := ⟨some 25, Op.fieldAddr 27 (Operand.tmp 24) 0, 0, "l05_sparse.go:8", #[{ on := 13, ground := Ground.data }, { on := 6, ground := Ground.guard }], some (6, false)⟩) rfl (by rfl) (by rfl) (fun w' hw' => ?_) ?_; rotate_left
    · go_simp <;> first | rfl | exact ⟨rfl, rfl⟩
    simp only [Act.put, List.setIfInBounds_toArray, List.set_cons_zero, List.set_cons_succ]
    refine' wpT_det (o := ⟨some 26, Op.load 2 (Operand.tmp 25), 2, "l05_sparse.go:8", #[{ on := 14, ground := Ground.data }, { on := 6, ground := Ground.guard }], some (6, false)⟩) rfl (by rfl) (by rfl) (fun w' hw' => ?_) ?_; rotate_left
    · have a0_ := Ext.cell hw' a0; have a1_ := Ext.cell hw' a1; have a2_ := Ext.cell hw' a2; have a3_ := Ext.cell hw' a3; go_simp <;> first | rfl | exact ⟨rfl, rfl⟩
    simp only [Act.put, List.setIfInBounds_toArray, List.set_cons_zero, List.set_cons_succ]
    refine' wpT_det (o := ⟨some 27, Op.binOp BinOp.add 2 (Operand.tmp 26) (Operand.const (Value.int IntKind.i64 1)) 2, 2, "l05_sparse.go:8", #[{ on := 15, ground := Ground.data }, { on := 6, ground := Ground.guard }], some (6, false)⟩) rfl (by rfl) (by rfl) (fun w' hw' => ?_) ?_; rotate_left
    · go_simp <;> first | rfl | exact ⟨rfl, rfl⟩
    simp only [Act.put, List.setIfInBounds_toArray, List.set_cons_zero, List.set_cons_succ]
    refine' wpT_det (o := ⟨some 28, Op.binOp BinOp.neq 2 (Operand.tmp 22) (Operand.tmp 27) 2, 4, "l05_sparse.go:8", #[{ on := 11, ground := Ground.data }, { on := 16, ground := Ground.data }, { on := 6, ground := Ground.guard }], some (6, false)⟩) rfl (by rfl) (by rfl) (fun w' hw' => ?_) ?_; rotate_left
    · go_simp <;> first | rfl | exact ⟨rfl, rfl⟩
    simp only [Act.put, List.setIfInBounds_toArray, List.set_cons_zero, List.set_cons_succ]
    refine' wpT_det (o := ⟨some 29, Op.pick (Operand.tmp 17) (Operand.const (Value.bool true)) (Operand.tmp 28), 4, "l05_sparse.go:8", #[{ on := 6, ground := Ground.data }, { on := 17, ground := Ground.data }], none⟩) rfl (by rfl) (by rfl) (fun w' hw' => ?_) ?_; rotate_left
    · go_simp <;> first | rfl | exact ⟨rfl, rfl⟩
    simp only [Act.put, List.setIfInBounds_toArray, List.set_cons_zero, List.set_cons_succ]
    refine' wpT_det (o := ⟨some 30, Op.move (Operand.tmp 29), 4, "l05_sparse.go:8", #[{ on := 18, ground := Ground.data }, { on := 6, ground := Ground.chain }], none⟩) rfl (by rfl) (by rfl) (fun w' hw' => ?_) ?_; rotate_left
    · go_simp <;> first | rfl | exact ⟨rfl, rfl⟩
    simp only [Act.put, List.setIfInBounds_toArray, List.set_cons_zero, List.set_cons_succ]
    refine' wpT_det (o := ⟨some 31, Op.move (Operand.tmp 3), 3, "l05_sparse.go:8", #[{ on := 19, ground := Ground.guard }], some (19, false)⟩) rfl (by rfl) (by rfl) (fun w' hw' => ?_) ?_; rotate_left
    · go_simp <;> first | rfl | exact ⟨rfl, rfl⟩
    simp only [Act.put, List.setIfInBounds_toArray, List.set_cons_zero, List.set_cons_succ]
    refine' wpT_det (o := ⟨some 32, Op.binOp BinOp.gtr 3 (Operand.tmp 31) (Operand.const (Value.int IntKind.i64 512)) 3, 4, "l05_sparse.go:8", #[{ on := 20, ground := Ground.data }, { on := 19, ground := Ground.guard }], some (19, false)⟩) rfl (by rfl) (by rfl) (fun w' hw' => ?_) ?_; rotate_left
    · go_simp <;> first | rfl | exact ⟨rfl, rfl⟩
    simp only [Act.put, List.setIfInBounds_toArray, List.set_cons_zero, List.set_cons_succ]
    refine' wpT_det (o := ⟨some 33, Op.pick (Operand.tmp 30) (Operand.const (Value.bool true)) (Operand.tmp 32), 4, "l05_sparse.go:8", #[{ on := 19, ground := Ground.data }, { on := 21, ground := Ground.data }], none⟩) rfl (by rfl) (by rfl) (fun w' hw' => ?_) ?_; rotate_left
    · go_simp <;> first | rfl | exact ⟨rfl, rfl⟩
    simp only [Act.put, List.setIfInBounds_toArray, List.set_cons_zero, List.set_cons_succ]
    refine' wpT_det (o := ⟨some 34, Op.move (Operand.tmp 33), 4, "l05_sparse.go:8", #[{ on := 22, ground := Ground.data }, { on := 19, ground := Ground.chain }], none⟩) rfl (by rfl) (by rfl) (fun w' hw' => ?_) ?_; rotate_left
    · go_simp <;> first | rfl | exact ⟨rfl, rfl⟩
    simp only [Act.put, List.setIfInBounds_toArray, List.set_cons_zero, List.set_cons_succ]
    refine' wpT_det (o := ⟨some 35, Op.move (Operand.tmp 0), 68, "l05_sparse.go:8", #[{ on := 23, ground := Ground.guard }], some (23, false)⟩) rfl (by rfl) (by rfl) (fun w' hw' => ?_) ?_; rotate_left
    · go_simp <;> first | rfl | exact ⟨rfl, rfl⟩
    simp only [Act.put, List.setIfInBounds_toArray, List.set_cons_zero, List.set_cons_succ]
    refine' wpT_det (o := ⟨some 36, Op.nilCheck (Operand.tmp 35), 0, "l05_sparse.go:8", #[{ on := 24, ground := Ground.data }, { on := 23, ground := Ground.guard }], some (23, false)⟩) rfl (by rfl) (by rfl) (fun w' hw' => ?_) ?_; rotate_left
    · go_simp <;> first | rfl | exact ⟨rfl, rfl⟩
    simp only [Act.put, List.setIfInBounds_toArray, List.set_cons_zero, List.set_cons_succ]
    refine' wpT_det (o := ⟨some 37, Op.fieldAddr 27 (Operand.tmp 36) 3, 0, "l05_sparse.go:8", #[{ on := 25, ground := Ground.data }, { on := 23, ground := Ground.guard }], some (23, false)⟩) rfl (by rfl) (by rfl) (fun w' hw' => ?_) ?_; rotate_left
    · go_simp <;> first | rfl | exact ⟨rfl, rfl⟩
    simp only [Act.put, List.setIfInBounds_toArray, List.set_cons_zero, List.set_cons_succ]
    refine' wpT_det (o := ⟨some 38, Op.load 23 (Operand.tmp 37), 23, "l05_sparse.go:8", #[{ on := 26, ground := Ground.data }, { on := 23, ground := Ground.guard }], some (23, false)⟩) rfl (by rfl) (by rfl) (fun w' hw' => ?_) ?_; rotate_left
    · have a0_ := Ext.cell hw' a0; have a1_ := Ext.cell hw' a1; have a2_ := Ext.cell hw' a2; have a3_ := Ext.cell hw' a3; go_simp <;> first | rfl | exact ⟨rfl, rfl⟩
    simp only [Act.put, List.setIfInBounds_toArray, List.set_cons_zero, List.set_cons_succ]
    refine' wpT_det (o := ⟨some 39, Op.call { callee := Callee.builtin Builtin.len, args := #[Operand.tmp 38], argTypes := #[23] }, 3, "l05_sparse.go:8", #[{ on := 27, ground := Ground.data }, { on := 23, ground := Ground.guard }], some (23, false)⟩) rfl (by rfl) (by rfl) (fun w' hw' => ?_) ?_; rotate_left
    · go_simp <;> first | rfl | exact ⟨rfl, rfl⟩
    simp only [Act.put, List.setIfInBounds_toArray, List.set_cons_zero, List.set_cons_succ]
    refine' wpT_det (o := ⟨some 40, Op.move (Operand.tmp 3), 3, "l05_sparse.go:8", #[{ on := 23, ground := Ground.guard }], some (23, false)⟩) rfl (by rfl) (by rfl) (fun w' hw' => ?_) ?_; rotate_left
    · go_simp <;> first | rfl | exact ⟨rfl, rfl⟩
    simp only [Act.put, List.setIfInBounds_toArray, List.set_cons_zero, List.set_cons_succ]
    refine' wpT_det (o := ⟨some 41, Op.binOp BinOp.neq 3 (Operand.tmp 39) (Operand.tmp 40) 3, 4, "l05_sparse.go:8", #[{ on := 28, ground := Ground.data }, { on := 29, ground := Ground.data }, { on := 23, ground := Ground.guard }], some (23, false)⟩) rfl (by rfl) (by rfl) (fun w' hw' => ?_) ?_; rotate_left
    · go_simp <;> first | rfl | exact ⟨rfl, rfl⟩
    simp only [Act.put, List.setIfInBounds_toArray, List.set_cons_zero, List.set_cons_succ]
    refine' wpT_det (o := ⟨some 42, Op.pick (Operand.tmp 34) (Operand.const (Value.bool true)) (Operand.tmp 41), 4, "l05_sparse.go:8", #[{ on := 23, ground := Ground.data }, { on := 30, ground := Ground.data }], none⟩) rfl (by rfl) (by rfl) (fun w' hw' => ?_) ?_; rotate_left
    · go_simp <;> first | rfl | exact ⟨rfl, rfl⟩
    simp only [Act.put, List.setIfInBounds_toArray, List.set_cons_zero, List.set_cons_succ]
    refine' wpT_det (o := ⟨some 43, Op.move (Operand.tmp 42), 4, "l05_sparse.go:8", #[{ on := 31, ground := Ground.data }, { on := 23, ground := Ground.chain }], none⟩) rfl (by rfl) (by rfl) (fun w' hw' => ?_) ?_; rotate_left
    · go_simp <;> first | rfl | exact ⟨rfl, rfl⟩
    simp only [Act.put, List.setIfInBounds_toArray, List.set_cons_zero, List.set_cons_succ]
    refine' wpT_det (o := ⟨some 44, Op.move (Operand.tmp 0), 68, "l05_sparse.go:8", #[{ on := 32, ground := Ground.guard }], some (32, false)⟩) rfl (by rfl) (by rfl) (fun w' hw' => ?_) ?_; rotate_left
    · go_simp <;> first | rfl | exact ⟨rfl, rfl⟩
    simp only [Act.put, List.setIfInBounds_toArray, List.set_cons_zero, List.set_cons_succ]
    refine' wpT_det (o := ⟨some 45, Op.nilCheck (Operand.tmp 44), 0, "l05_sparse.go:8", #[{ on := 33, ground := Ground.data }, { on := 32, ground := Ground.guard }], some (32, false)⟩) rfl (by rfl) (by rfl) (fun w' hw' => ?_) ?_; rotate_left
    · go_simp <;> first | rfl | exact ⟨rfl, rfl⟩
    simp only [Act.put, List.setIfInBounds_toArray, List.set_cons_zero, List.set_cons_succ]
    refine' wpT_det (o := ⟨some 46, Op.fieldAddr 27 (Operand.tmp 45) 3, 0, "l05_sparse.go:8", #[{ on := 34, ground := Ground.data }, { on := 32, ground := Ground.guard }], some (32, false)⟩) rfl (by rfl) (by rfl) (fun w' hw' => ?_) ?_; rotate_left
    · go_simp <;> first | rfl | exact ⟨rfl, rfl⟩
    simp only [Act.put, List.setIfInBounds_toArray, List.set_cons_zero, List.set_cons_succ]
    refine' wpT_det (o := ⟨some 47, Op.load 23 (Operand.tmp 46), 23, "l05_sparse.go:8", #[{ on := 35, ground := Ground.data }, { on := 32, ground := Ground.guard }], some (32, false)⟩) rfl (by rfl) (by rfl) (fun w' hw' => ?_) ?_; rotate_left
    · have a0_ := Ext.cell hw' a0; have a1_ := Ext.cell hw' a1; have a2_ := Ext.cell hw' a2; have a3_ := Ext.cell hw' a3; go_simp <;> first | rfl | exact ⟨rfl, rfl⟩
    simp only [Act.put, List.setIfInBounds_toArray, List.set_cons_zero, List.set_cons_succ]
    refine wpT_nd (o := ⟨some 48, Op.call { callee := Callee.value (Operand.func 127), args := #[Operand.tmp 47], argTypes := #[23] }, 4, "l05_sparse.go:8", #[{ on := 36, ground := Ground.data }, { on := 32, ground := Ground.chain }, { on := 32, ground := Ground.guard }], some (32, false)⟩) rfl (by rfl) (by rfl) (fun w' hw' hF R__ hGo => ?_) ⟨_, rfl⟩ ?_
    · go_simp
      refine gives_enter rfl ?_
      refine (l02Finite_any _ _ _ _ _ (hv.below hw'.undrew)).mono ?_
      rintro e w2 ⟨rfl, hx⟩
      exact ⟨_, rfl, hGo _ _ hx (congrArg Value.bool h9) trivial⟩
    intro v hv
    obtain rfl : v = (.bool true) := hv
    simp only [Act.put, List.setIfInBounds_toArray, List.set_cons_zero, List.set_cons_succ]
    refine' wpT_det (o := ⟨some 49, Op.unOp UnOp.not 4 (Operand.tmp 48), 4, "l05_sparse.go:8", #[{ on := 37, ground := Ground.data }, { on := 32, ground := Ground.guard }], some (32, false)⟩) rfl (by rfl) (by rfl) (fun w' hw' => ?_) ?_; rotate_left
    · go_simp <;> first | rfl | exact ⟨rfl, rfl⟩
    simp only [Act.put, List.setIfInBounds_toArray, List.set_cons_zero, List.set_cons_succ]
    refine' wpT_det (o := ⟨some 50, Op.pick (Operand.tmp 43) (Operand.const (Value.bool true)) (Operand.tmp 49), 4, "l05_sparse.go:8", #[{ on := 32, ground := Ground.data }, { on := 38, ground := Ground.data }], none⟩) rfl (by rfl) (by rfl) (fun w' hw' => ?_) ?_; rotate_left
    · go_simp <;> first | rfl | exact ⟨rfl, rfl⟩
    simp only [Act.put, List.setIfInBounds_toArray, List.set_cons_zero, List.set_cons_succ]
    refine wpT_nil (fun w' hw' hF => ?_)
    refine wpList_nil ?_
    have hx0 := hw'.undrew
    clear hF hw'
    replace a0 := hx0.cell a0
    replace a1 := hx0.cell a1
    replace a2 := hx0.cell a2
    replace a3 := hx0.cell a3
    rename World => wY
    have ec0 := (hr.below hx0).int 0 (by omega) (by omega)
    have ec1 := (hr.below hx0).int sd (by omega) (by omega)
    obtain ⟨ad, rfl, hc⟩ := ec0
    obtain ⟨ad', had, hc'⟩ := ec1
    obtain rfl := Option.some.inj had
    clear had
    replace hc : wY.cell? ad = some (.int .i64 (rd st 0)) := by rwa [show ad.add (0 : Int).toNat = ad by cases ad; simp [Addr.add]] at hc
    go_upto_region 4 with (fail)
    refine wp_region_T (cs := []) [0, 1, 2, 3, 4, 5, 6, 7, 8, 9, 10, 11, 12, 13, 14, 15, 16, 17, 18, 19, 20] [] [] [] (fun _ _ => False) (fun _ _ _ => True) (by kernel_rfl) (by kernel_rfl) (fun _ _ _ _ _ _ => trivial) ?_
    refine' wpT_det (o := ⟨some 51, Op.move (Operand.tmp 0), 68, "l05_sparse.go:11", #[], none⟩) rfl (by rfl) (by rfl) (fun w' hw' => ?_) ?_; rotate_left
    · go_simp <;> first | rfl | exact ⟨rfl, rfl⟩
    simp only [Act.put, List.setIfInBounds_toArray, List.set_cons_zero, List.set_cons_succ]
    refine' wpT_det (o := ⟨some 52, Op.nilCheck (Operand.tmp 51), 0, "l05_sparse.go:11", #[{ on := 0, ground := Ground.data }], none⟩) rfl (by rfl) (by rfl) (fun w' hw' => ?_) ?_; rotate_left
    · go_simp <;> first | rfl | exact ⟨rfl, rfl⟩
    simp only [Act.put, List.setIfInBounds_toArray, List.set_cons_zero, List.set_cons_succ]
    refine' wpT_det (o := ⟨some 53, Op.fieldAddr 27 (Operand.tmp 52) 1, 0, "l05_sparse.go:11", #[{ on := 1, ground := Ground.data }], none⟩) rfl (by rfl) (by rfl) (fun w' hw' => ?_) ?_; rotate_left
    · go_simp <;> first | rfl | exact ⟨rfl, rfl⟩
    simp only [Act.put, List.setIfInBounds_toArray, List.set_cons_zero, List.set_cons_succ]
    refine' wpT_det (o := ⟨some 54, Op.load 22 (Operand.tmp 53), 22, "l05_sparse.go:11", #[{ on := 2, ground := Ground.data }], none⟩) rfl (by rfl) (by rfl) (fun w' hw' => ?_) ?_; rotate_left
    · have a0_ := Ext.cell hw' a0; have a1_ := Ext.cell hw' a1; have hc_ := Ext.cell hw' hc; have hc'_ := Ext.cell hw' hc'; go_simp <;> first | rfl | exact ⟨rfl, rfl⟩
    simp only [Act.put, List.setIfInBounds_toArray, List.set_cons_zero, List.set_cons_succ]
    refine' wpT_det (o := ⟨some 55, Op.indexAddr 22 (Operand.tmp 54) (Operand.const (Value.int IntKind.i64 0)), 0, "l05_sparse.go:11", #[{ on := 3, ground := Ground.data }], none⟩) rfl (by rfl) (by rfl) (fun w' hw' => ?_) ?_; rotate_left
    · go_simp <;> first | rfl | exact ⟨rfl, rfl⟩
    simp only [Act.put, List.setIfInBounds_toArray, List.set_cons_zero, List.set_cons_succ]
    refine' wpT_det (o := ⟨some 56, Op.load 2 (Operand.tmp 55), 2, "l05_sparse.go:11", #[{ on := 4, ground := Ground.data }], none⟩) rfl (by rfl) (by rfl) (fun w' hw' => ?_) ?_; rotate_left
    · have a0_ := Ext.cell hw' a0; have a1_ := Ext.cell hw' a1; have hc_ := Ext.cell hw' hc; have hc'_ := Ext.cell hw' hc'; go_simp <;> first | rfl | exact ⟨rfl, rfl⟩
    simp only [Act.put, List.setIfInBounds_toArray, List.set_cons_zero, List.set_cons_succ]
    refine' wpT_det (o := ⟨some 57, Op.binOp BinOp.neq 2 (Operand.tmp 56) (Operand.const (Value.int IntKind.i64 0)) 2, 4, "l05_sparse.go:11", #[{ on := 5, ground := Ground.data }], none⟩) rfl (by rfl) (by rfl) (fun w' hw' => ?_) ?_; rotate_left
    · go_simp <;> first | rfl | exact ⟨rfl, rfl⟩
    simp only [Act.put, List.setIfInBounds_toArray, List.set_cons_zero, List.set_cons_succ]
    refine' wpT_det (o := ⟨some 58, Op.move (Operand.tmp 57), 4, "l05_sparse.go:11", #[{ on := 6, ground := Ground.data }], none⟩) rfl (by rfl) (by rfl) (fun w' hw' => ?_) ?_; rotate_left
    · go_simp <;> first | rfl | exact ⟨rfl, rfl⟩
    simp only [Act.put, List.setIfInBounds_toArray, List.set_cons_zero, List.set_cons_succ]
    refine' wpT_det (o := ⟨some 59, Op.move (Operand.tmp 0), 68, "l05_sparse.go:11", #[{ on := 7, ground := Ground.guard }], some (7, false)⟩) rfl (by rfl) (by rfl) (fun w' hw' => ?_) ?_; rotate_left
    · go_simp <;> first | rfl | exact ⟨rfl, rfl⟩
    simp only [Act.put, List.setIfInBounds_toArray, List.set_cons_zero, List.set_cons_succ]
    refine' wpT_det (o := ⟨some 60, Op.nilCheck (Operand.tmp 59), 0, "l05_sparse.go:11", #[{ on := 8, ground := Ground.data }, { on := 7, ground := Ground.guard }], some (7, false)⟩) rfl (by rfl) (by rfl) (fun w' hw' => ?_) ?_; rotate_left
    · go_simp <;> first | rfl | exact ⟨rfl, rfl⟩
    simp only [Act.put, List.setIfInBounds_toArray, List.set_cons_zero, List.set_cons_succ]
    refine' wpT_det (o := ⟨some 61, Op.fieldAddr 27 (Operand.tmp 60) 1, 0, "l05_sparse.go:11", #[{ on := 9, ground := Ground.data }, { on := 7, ground := Ground.guard }], some (7, false)⟩) rfl (by rfl) (by rfl) (fun w' hw' => ?_) ?_; rotate_left
    · go_simp <;> first | rfl | exact ⟨rfl, rfl⟩
    simp only [Act.put, List.setIfInBounds_toArray, List.set_cons_zero, List.set_cons_succ]
    refine' wpT_det (o := ⟨some 62, Op.load 22 (Operand.tmp 61), 22, "l05_sparse.go:11", #[{ on := 10, ground := Ground.data }, { on := 7, ground := Ground.guard }], some (7, false)⟩) rfl (by rfl) (by rfl) (fun w' hw' => ?_) ?_; rotate_left
    · have a0_ := Ext.cell hw' a0; have a1_ := Ext.cell hw' a1; have hc_ := Ext.cell hw' hc; have hc'_ := Ext.cell hw' hc'; go_simp <;> first | rfl | exact ⟨rfl, rfl⟩
    simp only [Act.put, List.setIfInBounds_toArray, List.set_cons_zero, List.set_cons_succ]
    refine' wpT_det (o := ⟨some 63, Op.move (Operand.tmp 0), 68, "l05_sparse.go:11", #[{ on := 7, ground := Ground.guard }], some (7, false)⟩) rfl (by rfl) (by rfl) (fun w' hw' => ?_) ?_; rotate_left
    · go_simp <;> first | rfl | exact ⟨rfl, rfl⟩
    simp only [Act.put, List.setIfInBounds_toArray, List.set_cons_zero, List.set_cons_succ]
    refine' wpT_det (o := ⟨some 64, Op.nilCheck (Operand.tmp 63), 0, "l05_sparse.go:11", #[{ on := 12, ground := Ground.data }, { on := 7, ground := Ground.guard }], some (7, false)⟩) rfl (by rfl) (by rfl) (fun w' hw' => ?_) ?_; rotate_left
    · go_simp <;> first | rfl | exact ⟨rfl, rfl⟩
    simp only [Act.put, List.setIfInBounds_toArray, List.set_cons_zero, List.set_cons_succ]
    refine' wpT_det (o := ⟨some 65, Op.fieldAddr 27 (Operand.tmp 64) 0, 0, "l05_sparse.go:11", #[{ on := 13, ground := Ground.data }, { on := 7, ground := Ground.guard }], some (7, false)⟩) rfl (by rfl) (by rfl) (fun w' hw' => ?_) ?_; rotate_left
    · go_simp <;> first | rfl | exact ⟨rfl, rfl⟩
    simp only [Act.put, List.setIfInBounds_toArray, List.set_cons_zero, List.set_cons_succ]
    refine' wpT_det (o := ⟨some 66, Op.load 2 (Operand.tmp 65), 2, "l05_sparse.go:11", #[{ on := 14, ground := Ground.data }, { on := 7, ground := Ground.guard }], some (7, false)⟩) rfl (by rfl) (by rfl) (fun w' hw' => ?_) ?_; rotate_left
    · have a0_ := Ext.cell hw' a0; have a1_ := Ext.cell hw' a1; have hc_ := Ext.cell hw' hc; have hc'_ := Ext.cell hw' hc'; go_simp <;> first | rfl | exact ⟨rfl, rfl⟩
    simp only [Act.put, List.setIfInBounds_toArray, List.set_cons_zero, List.set_cons_succ]
    refine' wpT_det (o := ⟨some 67, Op.indexAddr 22 (Operand.tmp 62) (Operand.tmp 66), 0, "l05_sparse.go:11", #[{ on := 11, ground := Ground.data }, { on := 15, ground := Ground.data }, { on := 7, ground := Ground.guard }], some (7, false)⟩) rfl (by rfl) (by rfl) (fun w' hw' => ?_) ?_; rotate_left
    · go_simp <;> first | rfl | exact ⟨rfl, rfl⟩
    simp only [Act.put, List.setIfInBounds_toArray, List.set_cons_zero, List.set_cons_succ]
    refine' wpT_det (o := ⟨some 68, Op.load 2 (Operand.tmp 67), 2, "l05_sparse.go:11", #[{ on := 16, ground := Ground.data }, { on := 7, ground := Ground.guard }], some (7, false)⟩) rfl (by rfl) (by rfl) (fun w' hw' => ?_) ?_; rotate_left
    · have a0_ := Ext.cell hw' a0; have a1_ := Ext.cell hw' a1; have hc_ := Ext.cell hw' hc; have hc'_ := Ext.cell hw' hc'; go_simp <;> first | rfl | exact ⟨rfl, rfl⟩
    simp only [Act.put, List.setIfInBounds_toArray, List.set_cons_zero, List.set_cons_succ]
    refine' wpT_det (o := ⟨some 69, Op.move (Operand.tmp 3), 3, "l05_sparse.go:11", #[{ on := 7, ground := Ground.guard }], some (7, false)⟩) rfl (by rfl) (by rfl) (fun w' hw' => ?_) ?_; rotate_left
    · go_simp <;> first | rfl | exact ⟨rfl, rfl⟩
    simp only [Act.put, List.setIfInBounds_toArray, List.set_cons_zero, List.set_cons_succ]
    refine' wpT_det (o := ⟨some 70, Op.binOp BinOp.neq 2 (Operand.tmp 68) (Operand.tmp 69) 2, 4, "l05_sparse.go:11", #[{ on := 17, ground := Ground.data }, { on := 18, ground := Ground.data }, { on := 7, ground := Ground.guard }], some (7, false)⟩) rfl (by rfl) (by rfl) (fun w' hw' => ?_) ?_; rotate_left
    · go_simp <;> first | rfl | exact ⟨rfl, rfl⟩
    simp only [Act.put, List.setIfInBounds_toArray, List.set_cons_zero, List.set_cons_succ]
    refine' wpT_det (o := ⟨some 71, Op.pick (Operand.tmp 58) (Operand.const (Value.bool true)) (Operand.tmp 70), 4, "l05_sparse.go:11", #[{ on := 7, ground := Ground.data }, { on := 19, ground := Ground.data }], none⟩) rfl (by rfl) (by rfl) (fun w' hw' => ?_) ?_; rotate_left
    · go_simp <;> first | rfl | exact ⟨rfl, rfl⟩
    simp only [Act.put, List.setIfInBounds_toArray, List.set_cons_zero, List.set_cons_succ]
    refine wpT_nil (fun w' hw' hF => ?_)
    refine wpList_nil ?_
    go_wp2_with fail
    go_ret
    exact ⟨ret_bool (by rw [Hres.out, hno]), hx0.trans hw'.undrew⟩
  have h6' : (rd st sd != m) = false := by simpa using h6
  have H6 := Lib.hid h6
  clear h6
  exact absurd ⟨h1b, H2.out, h3m, H4.out, h9, H5.out, H6.out⟩ hbad

end Go.Proofs.Ytkifpligpobiaaa
