import Derived.Test.YtgjfdfmbknmpaaaM25
set_option linter.unusedVariables false
set_option linter.unusedSimpArgs false
namespace Go.Proofs.Ytgjfdfmbknmpaaa
open Go.RowKit

def outF (vs ws : List Nat) (i k : Nat) : Option Nat := fmul (c32 (rdf vs i)) (c32 (rdf ws k))
def outB (vs ws : List Nat) : Bool := isVec vs && isVec ws && inR 1 vs.length 12 && inR 1 ws.length 12
def outD (vs ws : List Nat) : MD := if outB vs ws then giveM vs.length ws.length (tab ws.length (outF vs ws) (vs.length * ws.length)) else MD.bad
theorem oD_bad {vs ws : List Nat} (h : outB vs ws = false) : outD vs ws = MD.bad := by unfold outD; rw [h]; rfl

set_option maxRecDepth 20000 in
set_option maxHeartbeats 2000000 in
theorem outer1_any (b b' i k n m cap cap' : Nat) (A B : Option Addr) (vs ws : List Nat) (w : World) (hi : i < n) (hk : k < m) (hn : n ≤ 12) (hm : m ≤ 12) (c0 : w.cell? ⟨b, 0, none⟩ = some (.slice A n cap)) (d0 : w.cell? ⟨b', 0, none⟩ = some (.slice B m cap')) (hr : Rds w A n (flts vs)) (hq : Rds w B m (flts ws)) :
    Calls Try.prog 130 #[.int .i64 i, .int .i64 k, .pointer (some ⟨b, 0, none⟩), .pointer (some ⟨b', 0, none⟩)] w (RetF w (outF vs ws i k)) := by
  obtain ⟨ad, rfl, hca⟩ := hr.fltN i hi
  obtain ⟨ad', rfl, hcb⟩ := hq.fltN k hk
  have hi' : (i : Int) < n := by omega
  have hk' : (k : Int) < m := by omega
  go_enter Try.func130, Try.ntmps130
  go_upto_region 1 with (fail)
  refine wp_region_T (cs := []) [0, 1, 2, 3, 4, 5, 6, 7, 8, 9] [] [8] [] (fun i__ v => match i__ with | 8 => ∃ r, v = .float .f32 r ∧ c32 r = (outF vs ws i k) | _ => False) (fun _ _ _ => True) (by kernel_rfl) (by kernel_rfl) (fun _ _ _ _ _ _ => trivial) ?_
  refine' wpT_det (o := ⟨some 7, Op.load 22 (Operand.tmp 2), 22, "l02_matrices.go:266", #[], none⟩) rfl (by rfl) (by rfl) (fun w' hw' => ?_) ?_; rotate_left
  · have c0_ := Ext.cell hw' c0; have d0_ := Ext.cell hw' d0; have hca_ := Ext.cell hw' hca; have hcb_ := Ext.cell hw' hcb; go_simp <;> first | rfl | exact ⟨rfl, rfl⟩
  simp only [Act.put, List.setIfInBounds_toArray, List.set_cons_zero, List.set_cons_succ]
  refine' wpT_det (o := ⟨some 8, Op.move (Operand.tmp 0), 2, "l02_matrices.go:266", #[], none⟩) rfl (by rfl) (by rfl) (fun w' hw' => ?_) ?_; rotate_left
  · go_simp <;> first | rfl | exact ⟨rfl, rfl⟩
  simp only [Act.put, List.setIfInBounds_toArray, List.set_cons_zero, List.set_cons_succ]
  refine' wpT_det (o := ⟨some 9, Op.indexAddr 22 (Operand.tmp 7) (Operand.tmp 8), 0, "l02_matrices.go:266", #[{ on := 0, ground := Ground.data }, { on := 1, ground := Ground.data }], none⟩) rfl (by rfl) (by rfl) (fun w' hw' => ?_) ?_; rotate_left
  · go_simp <;> first | rfl | exact ⟨rfl, rfl⟩
  simp only [Act.put, List.setIfInBounds_toArray, List.set_cons_zero, List.set_cons_succ]
  refine' wpT_det (o := ⟨some 10, Op.load 39 (Operand.tmp 9), 39, "l02_matrices.go:266", #[{ on := 2, ground := Ground.data }], none⟩) rfl (by rfl) (by rfl) (fun w' hw' => ?_) ?_; rotate_left
  · have c0_ := Ext.cell hw' c0; have d0_ := Ext.cell hw' d0; have hca_ := Ext.cell hw' hca; have hcb_ := Ext.cell hw' hcb; go_simp <;> first | rfl | exact ⟨rfl, rfl⟩
  simp only [Act.put, List.setIfInBounds_toArray, List.set_cons_zero, List.set_cons_succ]
  refine' wpT_det (o := ⟨some 11, Op.load 22 (Operand.tmp 3), 22, "l02_matrices.go:266", #[], none⟩) rfl (by rfl) (by rfl) (fun w' hw' => ?_) ?_; rotate_left
  · have c0_ := Ext.cell hw' c0; have d0_ := Ext.cell hw' d0; have hca_ := Ext.cell hw' hca; have hcb_ := Ext.cell hw' hcb; go_simp <;> first | rfl | exact ⟨rfl, rfl⟩
  simp only [Act.put, List.setIfInBounds_toArray, List.set_cons_zero, List.set_cons_succ]
  refine' wpT_det (o := ⟨some 12, Op.move (Operand.tmp 1), 2, "l02_matrices.go:266", #[], none⟩) rfl (by rfl) (by rfl) (fun w' hw' => ?_) ?_; rotate_left
  · go_simp <;> first | rfl | exact ⟨rfl, rfl⟩
  simp only [Act.put, List.setIfInBounds_toArray, List.set_cons_zero, List.set_cons_succ]
  refine' wpT_det (o := ⟨some 13, Op.indexAddr 22 (Operand.tmp 11) (Operand.tmp 12), 0, "l02_matrices.go:266", #[{ on := 4, ground := Ground.data }, { on := 5, ground := Ground.data }], none⟩) rfl (by rfl) (by rfl) (fun w' hw' => ?_) ?_; rotate_left
  · go_simp <;> first | rfl | exact ⟨rfl, rfl⟩
  simp only [Act.put, List.setIfInBounds_toArray, List.set_cons_zero, List.set_cons_succ]
  refine' wpT_det (o := ⟨some 14, Op.load 39 (Operand.tmp 13), 39, "l02_matrices.go:266", #[{ on := 6, ground := Ground.data }], none⟩) rfl (by rfl) (by rfl) (fun w' hw' => ?_) ?_; rotate_left
  · have c0_ := Ext.cell hw' c0; have d0_ := Ext.cell hw' d0; have hca_ := Ext.cell hw' hca; have hcb_ := Ext.cell hw' hcb; go_simp <;> first | rfl | exact ⟨rfl, rfl⟩
  simp only [Act.put, List.setIfInBounds_toArray, List.set_cons_zero, List.set_cons_succ]
  refine wpT_nd (o := ⟨some 15, Op.call { callee := Callee.value (Operand.func 119), args := #[Operand.tmp 10, Operand.tmp 14], argTypes := #[39, 39] }, 39, "l02_matrices.go:266", #[{ on := 3, ground := Ground.data }, { on := 7, ground := Ground.data }], none⟩) rfl (by rfl) (by rfl) (fun w' hw' hF R__ hGo => ?_) (by obtain ⟨r, hr⟩ : ∃ r, c32 r = (outF vs ws i k) := ex_fop _ _ _; exact ⟨_, r, rfl, hr⟩) ?_
  · go_simp
    refine gives_enter rfl ?_
    refine (mul_any (rdf vs i) (rdf ws k) _).mono ?_
    rintro e w2 ⟨r, rfl, hr, hx⟩
    exact ⟨_, rfl, hGo _ _ hx ⟨r, rfl, hr⟩ trivial⟩
  rintro _ ⟨f8, rfl, hf8⟩
  simp only [Act.put, List.setIfInBounds_toArray, List.set_cons_zero, List.set_cons_succ]
  refine' wpT_det (o := ⟨some 6, Op.assign (Operand.tmp 15), 39, "l02_matrices.go:266", #[{ on := 8, ground := Ground.data }, { on := 8, ground := Ground.chain }, { on := 0, ground := Ground.phase }, { on := 1, ground := Ground.phase }, { on := 2, ground := Ground.phase }, { on := 3, ground := Ground.phase }, { on := 4, ground := Ground.phase }, { on := 5, ground := Ground.phase }, { on := 6, ground := Ground.phase }, { on := 7, ground := Ground.phase }, { on := 8, ground := Ground.phase }], none⟩) rfl (by rfl) (by rfl) (fun w' hw' => ?_) ?_; rotate_left
  · go_simp <;> first | rfl | exact ⟨rfl, rfl⟩
  simp only [Act.put, List.setIfInBounds_toArray, List.set_cons_zero, List.set_cons_succ]
  refine wpT_nil (fun w' hw' hF => ?_)
  refine wpList_nil ?_
  go_wp2_with fail
  go_ret
  exact ⟨_, rfl, hf8, hw'.undrew⟩

/-- A table's result, as a fact on a value. -/
def RowC (w : World) (base : Nat) (v : Value) (p : List Nat) (L : List (Option Nat)) : Prop := ∃ ys, cfs ys = L ∧ OwnF w base 39 v p (flts ys)
theorem RowC.ext {w w' : World} {base : Nat} {v : Value} {p : List Nat} {L : List (Option Nat)} (h : RowC w base v p L) (hx : Ext w w') : RowC w' base v p L := let ⟨ys, h1, h2⟩ := h; ⟨ys, h1, h2.ext hx⟩

set_option maxRecDepth 20000 in
set_option maxHeartbeats 8000000 in
theorem implOuterMatrix_any (A : Option Addr) (n cap : Nat) (B : Option Addr) (m cap' : Nat) (vs ws : List Nat) (w : World) (hr : Rds w A n (flts vs)) (hq : Rds w B m (flts ws)) :
    Calls Try.prog 55 #[.slice A n cap, .slice B m cap'] w (RetMD w (outD vs ws)) := by
  have HL := Lib.hid hr.flen
  have HL' := Lib.hid hq.flen
  have hs1 := hr.small
  have hs2 := hq.small
  cases hv : isVec vs with
  | false =>
    have hd := oD_bad (vs := vs) (ws := ws) (by unfold outB; rw [hv]; rfl)
    go_enter Try.func55, Try.ntmps55
    go_upto_region 1 with (fail)
    obtain ⟨w0, hw0⟩ : ∃ w0, w0 = (((w.alloc (.cells #[.slice A n cap] 22)).alloc (.cells #[.slice B m cap'] 22)).alloc (.cells #[.int .i64 0, .int .i64 0, .slice none 0 0] 35)) := ⟨_, rfl⟩
    have hx0 : Ext w w0 := by subst hw0; exact (((Ext.refl _).alloc _).alloc _).alloc _
    have ba : Blk w0 (w.heap.size) #[.slice A n cap] 22 := by subst hw0; exact (Blk.new w _ _).ext (((Ext.refl _).alloc _).alloc _)
    have bb : Blk w0 (w.heap.size + 1) #[.slice B m cap'] 22 := by subst hw0; simpa using (Blk.new (w.alloc (.cells #[.slice A n cap] 22)) _ _).ext ((Ext.refl _).alloc _)
    have b0 : Blk w0 (w.heap.size + 1 + 1) #[.int .i64 0, .int .i64 0, .slice none 0 0] 35 := by subst hw0; simpa using (Blk.new ((w.alloc (.cells #[.slice A n cap] 22)).alloc (.cells #[.slice B m cap'] 22)) _ _)
    rw [← hw0]
    clear hw0
    have c0 := ba.cell 0 rfl
    go_wp2_with fail
    refine (IsVector_any A n cap vs _ (hr.below hx0)).mono ?_
    rintro e w1 ⟨rfl, hx⟩
    rw [hv]
    replace b0 := b0.ext hx
    replace hx0 := hx0.trans hx
    clear c0 hx
    have y0 : w1.cell? ⟨w.heap.size + 1 + 1, 0, none⟩ = some (.int .i64 0) := b0.cell 0 rfl
    have y1 : w1.cell? ⟨w.heap.size + 1 + 1, 1, none⟩ = some (.int .i64 0) := b0.cell 1 rfl
    have y2 : w1.cell? ⟨w.heap.size + 1 + 1, 2, none⟩ = some (.slice none 0 0) := b0.cell 2 rfl
    have q0 := b0.free 0
    have q1 := b0.free 1
    have q2 := b0.free 2
    have hq := b0.lt
    go_wp2_with fail
    obtain ⟨k1, k2, k3⟩ := Own.resM (w := w) (u := .int .i64 0) (v := .int .i64 0) (x := .slice none 0 0) b0 (own_nil _ w.heap.size _) hx0 (by omega)
    exact bodyPost_ret (resMB (x := .bool false) rfl rfl rfl k3) rfl (RetMD.bad hd k2)
  | true =>
    cases hv' : isVec ws with
    | false =>
      have hd := oD_bad (vs := vs) (ws := ws) (by unfold outB; rw [hv, hv']; rfl)
      go_enter Try.func55, Try.ntmps55
      go_upto_region 1 with (fail)
      obtain ⟨w0, hw0⟩ : ∃ w0, w0 = (((w.alloc (.cells #[.slice A n cap] 22)).alloc (.cells #[.slice B m cap'] 22)).alloc (.cells #[.int .i64 0, .int .i64 0, .slice none 0 0] 35)) := ⟨_, rfl⟩
      have hx0 : Ext w w0 := by subst hw0; exact (((Ext.refl _).alloc _).alloc _).alloc _
      have ba : Blk w0 (w.heap.size) #[.slice A n cap] 22 := by subst hw0; exact (Blk.new w _ _).ext (((Ext.refl _).alloc _).alloc _)
      have bb : Blk w0 (w.heap.size + 1) #[.slice B m cap'] 22 := by subst hw0; simpa using (Blk.new (w.alloc (.cells #[.slice A n cap] 22)) _ _).ext ((Ext.refl _).alloc _)
      have b0 : Blk w0 (w.heap.size + 1 + 1) #[.int .i64 0, .int .i64 0, .slice none 0 0] 35 := by subst hw0; simpa using (Blk.new ((w.alloc (.cells #[.slice A n cap] 22)).alloc (.cells #[.slice B m cap'] 22)) _ _)
      rw [← hw0]
      clear hw0
      have c0 := ba.cell 0 rfl
      go_wp2_with fail
      refine (IsVector_any A n cap vs _ (hr.below hx0)).mono ?_
      rintro e w1 ⟨rfl, hx⟩
      rw [hv]
      replace b0 := b0.ext hx
      replace bb := bb.ext hx
      replace hx0 := hx0.trans hx
      clear c0 hx
      have d0 := bb.cell 0 rfl
      go_wp2_with fail
      refine (IsVector_any B m cap' ws _ (hq.below hx0)).mono ?_
      rintro e w2 ⟨rfl, hx⟩
      rw [hv']
      replace b0 := b0.ext hx
      replace hx0 := hx0.trans hx
      clear d0 hx
      have y0 : w2.cell? ⟨w.heap.size + 1 + 1, 0, none⟩ = some (.int .i64 0) := b0.cell 0 rfl
      have y1 : w2.cell? ⟨w.heap.size + 1 + 1, 1, none⟩ = some (.int .i64 0) := b0.cell 1 rfl
      have y2 : w2.cell? ⟨w.heap.size + 1 + 1, 2, none⟩ = some (.slice none 0 0) := b0.cell 2 rfl
      have q0 := b0.free 0
      have q1 := b0.free 1
      have q2 := b0.free 2
      have hq := b0.lt
      go_wp2_with fail
      obtain ⟨k1, k2, k3⟩ := Own.resM (w := w) (u := .int .i64 0) (v := .int .i64 0) (x := .slice none 0 0) b0 (own_nil _ w.heap.size _) hx0 (by omega)
      exact bodyPost_ret (resMB (x := .bool false) rfl rfl rfl k3) rfl (RetMD.bad hd k2)
    | true =>
      cases ht1 : inR 1 n 12 with
      | false =>
        have hd := oD_bad (vs := vs) (ws := ws) (by unfold outB; rw [hv, hv', HL.out, ht1]; rfl)
        go_enter Try.func55, Try.ntmps55
        go_upto_region 1 with (fail)
        obtain ⟨w0, hw0⟩ : ∃ w0, w0 = (((w.alloc (.cells #[.slice A n cap] 22)).alloc (.cells #[.slice B m cap'] 22)).alloc (.cells #[.int .i64 0, .int .i64 0, .slice none 0 0] 35)) := ⟨_, rfl⟩
        have hx0 : Ext w w0 := by subst hw0; exact (((Ext.refl _).alloc _).alloc _).alloc _
        have ba : Blk w0 (w.heap.size) #[.slice A n cap] 22 := by subst hw0; exact (Blk.new w _ _).ext (((Ext.refl _).alloc _).alloc _)
        have bb : Blk w0 (w.heap.size + 1) #[.slice B m cap'] 22 := by subst hw0; simpa using (Blk.new (w.alloc (.cells #[.slice A n cap] 22)) _ _).ext ((Ext.refl _).alloc _)
        have b0 : Blk w0 (w.heap.size + 1 + 1) #[.int .i64 0, .int .i64 0, .slice none 0 0] 35 := by subst hw0; simpa using (Blk.new ((w.alloc (.cells #[.slice A n cap] 22)).alloc (.cells #[.slice B m cap'] 22)) _ _)
        rw [← hw0]
        clear hw0
        have c0 := ba.cell 0 rfl
        go_wp2_with fail
        refine (IsVector_any A n cap vs _ (hr.below hx0)).mono ?_
        rintro e w1 ⟨rfl, hx⟩
        rw [hv]
        replace b0 := b0.ext hx
        replace ba := ba.ext hx
        replace bb := bb.ext hx
        replace hx0 := hx0.trans hx
        clear c0 hx
        have d0 := bb.cell 0 rfl
        go_wp2_with fail
        refine (IsVector_any B m cap' ws _ (hq.below hx0)).mono ?_
        rintro e w2 ⟨rfl, hx⟩
        rw [hv']
        replace b0 := b0.ext hx
        replace ba := ba.ext hx
        replace bb := bb.ext hx
        replace hx0 := hx0.trans hx
        clear d0 hx
        have c0 := ba.cell 0 rfl
        go_wp2_with fail
        refine (lengthF_any A n cap hs1 _).mono ?_
        rintro e w9 ⟨rfl, rfl⟩
        go_wp2_with fail
        refine (isSide_any _ _).mono ?_
        rintro e w9 ⟨rfl, rfl⟩
        rw [ht1]
        clear c0
        have y0 : w2.cell? ⟨w.heap.size + 1 + 1, 0, none⟩ = some (.int .i64 0) := b0.cell 0 rfl
        have y1 : w2.cell? ⟨w.heap.size + 1 + 1, 1, none⟩ = some (.int .i64 0) := b0.cell 1 rfl
        have y2 : w2.cell? ⟨w.heap.size + 1 + 1, 2, none⟩ = some (.slice none 0 0) := b0.cell 2 rfl
        have q0 := b0.free 0
        have q1 := b0.free 1
        have q2 := b0.free 2
        have hq := b0.lt
        go_wp2_with fail
        obtain ⟨k1, k2, k3⟩ := Own.resM (w := w) (u := .int .i64 0) (v := .int .i64 0) (x := .slice none 0 0) b0 (own_nil _ w.heap.size _) hx0 (by omega)
        exact bodyPost_ret (resMB (x := .bool false) rfl rfl rfl k3) rfl (RetMD.bad hd k2)
      | true =>
        cases ht2 : inR 1 m 12 with
        | false =>
          have hd := oD_bad (vs := vs) (ws := ws) (by unfold outB; rw [hv, hv', HL.out, HL'.out, ht1, ht2]; rfl)
          go_enter Try.func55, Try.ntmps55
          go_upto_region 1 with (fail)
          obtain ⟨w0, hw0⟩ : ∃ w0, w0 = (((w.alloc (.cells #[.slice A n cap] 22)).alloc (.cells #[.slice B m cap'] 22)).alloc (.cells #[.int .i64 0, .int .i64 0, .slice none 0 0] 35)) := ⟨_, rfl⟩
          have hx0 : Ext w w0 := by subst hw0; exact (((Ext.refl _).alloc _).alloc _).alloc _
          have ba : Blk w0 (w.heap.size) #[.slice A n cap] 22 := by subst hw0; exact (Blk.new w _ _).ext (((Ext.refl _).alloc _).alloc _)
          have bb : Blk w0 (w.heap.size + 1) #[.slice B m cap'] 22 := by subst hw0; simpa using (Blk.new (w.alloc (.cells #[.slice A n cap] 22)) _ _).ext ((Ext.refl _).alloc _)
          have b0 : Blk w0 (w.heap.size + 1 + 1) #[.int .i64 0, .int .i64 0, .slice none 0 0] 35 := by subst hw0; simpa using (Blk.new ((w.alloc (.cells #[.slice A n cap] 22)).alloc (.cells #[.slice B m cap'] 22)) _ _)
          rw [← hw0]
          clear hw0
          have c0 := ba.cell 0 rfl
          go_wp2_with fail
          refine (IsVector_any A n cap vs _ (hr.below hx0)).mono ?_
          rintro e w1 ⟨rfl, hx⟩
          rw [hv]
          replace b0 := b0.ext hx
          replace ba := ba.ext hx
          replace bb := bb.ext hx
          replace hx0 := hx0.trans hx
          clear c0 hx
          have d0 := bb.cell 0 rfl
          go_wp2_with fail
          refine (IsVector_any B m cap' ws _ (hq.below hx0)).mono ?_
          rintro e w2 ⟨rfl, hx⟩
          rw [hv']
          replace b0 := b0.ext hx
          replace ba := ba.ext hx
          replace bb := bb.ext hx
          replace hx0 := hx0.trans hx
          clear d0 hx
          have c0 := ba.cell 0 rfl
          have d0 := bb.cell 0 rfl
          go_wp2_with fail
          refine (lengthF_any A n cap hs1 _).mono ?_
          rintro e w9 ⟨rfl, rfl⟩
          go_wp2_with fail
          refine (isSide_any _ _).mono ?_
          rintro e w9 ⟨rfl, rfl⟩
          rw [ht1]
          go_wp2_with fail
          refine (lengthF_any B m cap' hs2 _).mono ?_
          rintro e w9 ⟨rfl, rfl⟩
          go_wp2_with fail
          refine (isSide_any _ _).mono ?_
          rintro e w9 ⟨rfl, rfl⟩
          rw [ht2]
          clear c0 d0
          have y0 : w2.cell? ⟨w.heap.size + 1 + 1, 0, none⟩ = some (.int .i64 0) := b0.cell 0 rfl
          have y1 : w2.cell? ⟨w.heap.size + 1 + 1, 1, none⟩ = some (.int .i64 0) := b0.cell 1 rfl
          have y2 : w2.cell? ⟨w.heap.size + 1 + 1, 2, none⟩ = some (.slice none 0 0) := b0.cell 2 rfl
          have q0 := b0.free 0
          have q1 := b0.free 1
          have q2 := b0.free 2
          have hq := b0.lt
          go_wp2_with fail
          obtain ⟨k1, k2, k3⟩ := Own.resM (w := w) (u := .int .i64 0) (v := .int .i64 0) (x := .slice none 0 0) b0 (own_nil _ w.heap.size _) hx0 (by omega)
          exact bodyPost_ret (resMB (x := .bool false) rfl rfl rfl k3) rfl (RetMD.bad hd k2)
        | true =>
          have hn12 : n ≤ 12 := by have := inR_iff.1 ht1; omega
          have hm12 : m ≤ 12 := by have := inR_iff.1 ht2; omega
          obtain ⟨d, hd⟩ : ∃ d, d = outD vs ws := ⟨_, rfl⟩
          have hd' : d = giveM n m (tab m (outF vs ws) (n * m)) := by
            have hb : outB vs ws = true := by unfold outB; rw [hv, hv', HL.out, HL'.out, ht1, ht2]; rfl
            rw [hd]; unfold outD; rw [hb, if_pos rfl, HL.out, HL'.out]
          have HD := Lib.hid hd'
          rw [← hd]
          clear hd hd'
          go_enter Try.func55, Try.ntmps55
          go_upto_region 1 with (fail)
          obtain ⟨w0, hw0⟩ : ∃ w0, w0 = (((w.alloc (.cells #[.slice A n cap] 22)).alloc (.cells #[.slice B m cap'] 22)).alloc (.cells #[.int .i64 0, .int .i64 0, .slice none 0 0] 35)) := ⟨_, rfl⟩
          have hx0 : Ext w w0 := by subst hw0; exact (((Ext.refl _).alloc _).alloc _).alloc _
          have ba : Blk w0 (w.heap.size) #[.slice A n cap] 22 := by subst hw0; exact (Blk.new w _ _).ext (((Ext.refl _).alloc _).alloc _)
          have bb : Blk w0 (w.heap.size + 1) #[.slice B m cap'] 22 := by subst hw0; simpa using (Blk.new (w.alloc (.cells #[.slice A n cap] 22)) _ _).ext ((Ext.refl _).alloc _)
          have b0 : Blk w0 (w.heap.size + 1 + 1) #[.int .i64 0, .int .i64 0, .slice none 0 0] 35 := by subst hw0; simpa using (Blk.new ((w.alloc (.cells #[.slice A n cap] 22)).alloc (.cells #[.slice B m cap'] 22)) _ _)
          rw [← hw0]
          clear hw0
          have c0 := ba.cell 0 rfl
          go_wp2_with fail
          refine (IsVector_any A n cap vs _ (hr.below hx0)).mono ?_
          rintro e w1 ⟨rfl, hx⟩
          rw [hv]
          replace b0 := b0.ext hx
          replace ba := ba.ext hx
          replace bb := bb.ext hx
          replace hx0 := hx0.trans hx
          clear c0 hx
          have d0 := bb.cell 0 rfl
          go_wp2_with fail
          refine (IsVector_any B m cap' ws _ (hq.below hx0)).mono ?_
          rintro e w2 ⟨rfl, hx⟩
          rw [hv']
          replace b0 := b0.ext hx
          replace ba := ba.ext hx
          replace bb := bb.ext hx
          replace hx0 := hx0.trans hx
          clear d0 hx
          have c0 := ba.cell 0 rfl
          have d0 := bb.cell 0 rfl
          go_wp2_with fail
          refine (lengthF_any A n cap hs1 _).mono ?_
          rintro e w9 ⟨rfl, rfl⟩
          go_wp2_with fail
          refine (isSide_any _ _).mono ?_
          rintro e w9 ⟨rfl, rfl⟩
          rw [ht1]
          go_wp2_with fail
          refine (lengthF_any B m cap' hs2 _).mono ?_
          rintro e w9 ⟨rfl, rfl⟩
          go_wp2_with fail
          refine (isSide_any _ _).mono ?_
          rintro e w9 ⟨rfl, rfl⟩
          rw [ht2]
          have HM : Hid (∀ w', Ext w2 w' → Calls Try.prog 114 #[.int .i64 n, .int .i64 m, .func (.func 130) #[] #[.pointer (some ⟨w.heap.size, 0, none⟩), .pointer (some ⟨w.heap.size + 1, 0, none⟩)]] w' (RetMat w' n m (n * m) (tab m (outF vs ws) (n * m)))) := by
            intro w' hxw
            refine made_any 130 _ (enters_of Try.func130 (by kernel_rfl) rfl) n m hn12 hm12 (outF vs ws) _ (fun i k W hi hk hW => ?_) (fun i k _ _ => ex_fop _ _ _)
            exact outer1_any _ _ i k n m cap cap' A B vs ws W hi hk hn12 hm12 (hW.cell (hxw.cell c0)) (hW.cell (hxw.cell d0)) (((hr.below hx0).below hxw).below hW) (((hq.below hx0).below hxw).below hW)
          go_upto_region 3 with (fail)
          refine wp_region_T (cs := []) [0, 1, 2, 3, 4, 5, 6, 7, 8] [9, 10] [1, 3, 5, 6] [(6, [5])] (fun i__ v => match i__ with | 1 => v = (.int .i64 n) | 3 => v = (.int .i64 m) | 5 => ∃ (A : Option Addr) (k : Nat), v = (.agg #[.int .i64 n, .int .i64 m, .slice A (n * m) k]) | 6 => ∃ (A : Option Addr) (k : Nat), v = (.tuple #[.agg #[.int .i64 d.r, .int .i64 d.c, .slice A d.xs.length k], .bool d.ok]) | _ => False) (fun i__ v w' => match i__ with | 5 => RowC w' w2.heap.size v [2] (tab m (outF vs ws) (n * m)) | 6 => OwnF w' w2.heap.size 39 v [0, 2] (flts d.xs) | _ => True) (by kernel_rfl) (by kernel_rfl) (by intro i v w' w2 h hx; revert h; (try dsimp only); split <;> intro h <;> first | trivial | exact (by first | exact RowC.ext h hx | exact OwnF.ext h hx)) ?_
          refine' wpT_det (o := ⟨some 27, Op.load 22 (Operand.tmp 2), 22, "l02_matrices.go:266", #[], none⟩) rfl (by rfl) (by rfl) (fun w' hw' => ?_) ?_; rotate_left
          · have c0_ := Ext.cell hw' c0; have d0_ := Ext.cell hw' d0; go_simp <;> first | rfl | exact ⟨rfl, rfl⟩
          simp only [Act.put, List.setIfInBounds_toArray, List.set_cons_zero, List.set_cons_succ]
          refine wpT_nd (o := ⟨some 28, Op.call { callee := Callee.value (Operand.func 101), args := #[Operand.tmp 27], argTypes := #[22] }, 2, "l02_matrices.go:266", #[{ on := 0, ground := Ground.data }], none⟩) rfl (by rfl) (by rfl) (fun w' hw' hF R__ hGo => ?_) ⟨_, rfl⟩ ?_
          · go_simp
            refine gives_enter rfl ?_
            refine (lengthF_any _ _ _ hs1 _).mono ?_
            rintro e w2 ⟨rfl, rfl⟩
            exact ⟨_, rfl, hGo _ _ (Ext.refl _) rfl trivial⟩
          intro v hv
          obtain rfl : v = (.int .i64 n) := hv
          simp only [Act.put, List.setIfInBounds_toArray, List.set_cons_zero, List.set_cons_succ]
          refine' wpT_det (o := ⟨some 29, Op.load 22 (Operand.tmp 3), 22, "l02_matrices.go:266", #[], none⟩) rfl (by rfl) (by rfl) (fun w' hw' => ?_) ?_; rotate_left
          · have c0_ := Ext.cell hw' c0; have d0_ := Ext.cell hw' d0; go_simp <;> first | rfl | exact ⟨rfl, rfl⟩
          simp only [Act.put, List.setIfInBounds_toArray, List.set_cons_zero, List.set_cons_succ]
          refine wpT_nd (o := ⟨some 30, Op.call { callee := Callee.value (Operand.func 101), args := #[Operand.tmp 29], argTypes := #[22] }, 2, "l02_matrices.go:266", #[{ on := 2, ground := Ground.data }, { on := 1, ground := Ground.chain }], none⟩) rfl (by rfl) (by rfl) (fun w' hw' hF R__ hGo => ?_) ⟨_, rfl⟩ ?_
          · go_simp
            refine gives_enter rfl ?_
            refine (lengthF_any _ _ _ hs2 _).mono ?_
            rintro e w2 ⟨rfl, rfl⟩
            exact ⟨_, rfl, hGo _ _ (Ext.refl _) rfl trivial⟩
          intro v hv
          obtain rfl : v = (.int .i64 m) := hv
          simp only [Act.put, List.setIfInBounds_toArray, List.set_cons_zero, List.set_cons_succ]
          refine' wpT_det (o := ⟨some 31, Op.makeFunc (Fn.func 130) #[] #[Operand.tmp 2, Operand.tmp 3], 86, "l02_matrices.go:266", #[], none⟩) rfl (by rfl) (by rfl) (fun w' hw' => ?_) ?_; rotate_left
          · go_simp <;> first | rfl | exact ⟨rfl, rfl⟩
          simp only [Act.put, List.setIfInBounds_toArray, List.set_cons_zero, List.set_cons_succ]
          refine wpT_nd (o := ⟨some 32, Op.call { callee := Callee.value (Operand.func 114), args := #[Operand.tmp 28, Operand.tmp 30, Operand.tmp 31], argTypes := #[2, 2, 86] }, 35, "l02_matrices.go:266", #[{ on := 1, ground := Ground.data }, { on := 3, ground := Ground.data }, { on := 4, ground := Ground.data }, { on := 3, ground := Ground.chain }], none⟩) rfl (by rfl) (by rfl) (fun w' hw' hF R__ hGo => ?_) ⟨_, none, 0, rfl⟩ ?_
          · go_simp
            refine gives_enter rfl ?_
            refine (HM.out w' hw'.undrew).mono ?_
            rintro e w2 ⟨A3, k3, zs, hz, rfl, o3, hx⟩
            exact ⟨_, rfl, hGo _ _ hx ⟨_, _, rfl⟩ ⟨zs, hz, OwnF.of (o3.base hw'.size) rfl⟩⟩
          rintro _ ⟨A3, k3, rfl⟩
          simp only [Act.put, List.setIfInBounds_toArray, List.set_cons_zero, List.set_cons_succ]
          refine wpT_nd (o := ⟨some 33, Op.call { callee := Callee.value (Operand.func 131), args := #[Operand.tmp 32], argTypes := #[35] }, 44, "l02_matrices.go:266", #[{ on := 5, ground := Ground.data }, { on := 5, ground := Ground.chain }], none⟩) rfl (by rfl) (by rfl) (fun w' hw' hF R__ hGo => ?_) ⟨_, none, 0, rfl⟩ ?_
          · go_simp; obtain ⟨zs, hz, ho⟩ := hF 5 (by simp [uses]) _ rfl; have h5_ := ho _ _ _ rfl; have h6_ := valid_any w2.heap.size n m A3 (n * m) k3 zs w' h5_ hw'.size; rw [hz, ← HD.out] at h6_; exact gives_enter rfl (h6_.mono (by rintro e w2 ⟨A4, k4, rfl, o4, hx⟩; exact ⟨_, rfl, hGo _ _ hx ⟨_, _, rfl⟩ (OwnF.of o4 rfl)⟩))
          rintro _ ⟨A4, k4, rfl⟩
          simp only [Act.put, List.setIfInBounds_toArray, List.set_cons_zero, List.set_cons_succ]
          refine' wpT_det (o := ⟨some 34, Op.extract (Operand.tmp 33) 0, 35, "l02_matrices.go:266", #[{ on := 6, ground := Ground.data }], none⟩) rfl (by rfl) (by rfl) (fun w' hw' => ?_) ?_; rotate_left
          · go_simp <;> first | rfl | exact ⟨rfl, rfl⟩
          simp only [Act.put, List.setIfInBounds_toArray, List.set_cons_zero, List.set_cons_succ]
          refine' wpT_det (o := ⟨some 35, Op.extract (Operand.tmp 33) 1, 4, "l02_matrices.go:266", #[{ on := 6, ground := Ground.data }], none⟩) rfl (by rfl) (by rfl) (fun w' hw' => ?_) ?_; rotate_left
          · go_simp <;> first | rfl | exact ⟨rfl, rfl⟩
          simp only [Act.put, List.setIfInBounds_toArray, List.set_cons_zero, List.set_cons_succ]
          refine wpT_nil (fun w5 hw' hF => ?_)
          show wpList _ _ _ [(⟨none, Op.store 35 (Operand.tmp 4) (Operand.tmp 34), 0, "l02_matrices.go:266", #[{ on := 7, ground := Ground.data }, { on := 6, ground := Ground.chain }, { on := 0, ground := Ground.phase }, { on := 1, ground := Ground.phase }, { on := 2, ground := Ground.phase }, { on := 3, ground := Ground.phase }, { on := 4, ground := Ground.phase }, { on := 5, ground := Ground.phase }, { on := 6, ground := Ground.phase }, { on := 7, ground := Ground.phase }, { on := 8, ground := Ground.phase }], none⟩ : Oper), (⟨some 5, Op.assign (Operand.tmp 35), 4, "l02_matrices.go:266", #[{ on := 8, ground := Ground.data }, { on := 9, ground := Ground.chain }, { on := 0, ground := Ground.phase }, { on := 1, ground := Ground.phase }, { on := 2, ground := Ground.phase }, { on := 3, ground := Ground.phase }, { on := 4, ground := Ground.phase }, { on := 5, ground := Ground.phase }, { on := 6, ground := Ground.phase }, { on := 7, ground := Ground.phase }, { on := 8, ground := Ground.phase }, { on := 9, ground := Ground.phase }], none⟩ : Oper)] _ _
          have ho : Own w5 w2.heap.size 39 (.slice A4 d.xs.length k4) (flts d.xs) := (hF 6 _ rfl) _ _ _ rfl
          have hx := hw'.undrew
          clear hF hw' c0 d0
          replace b0 := b0.ext hx
          have y0 : w5.cell? ⟨w.heap.size + 1 + 1, 0, none⟩ = some (.int .i64 0) := b0.cell 0 rfl
          have y1 : w5.cell? ⟨w.heap.size + 1 + 1, 1, none⟩ = some (.int .i64 0) := b0.cell 1 rfl
          have y2 : w5.cell? ⟨w.heap.size + 1 + 1, 2, none⟩ = some (.slice none 0 0) := b0.cell 2 rfl
          have q0 := b0.free 0
          have q1 := b0.free 1
          have q2 := b0.free 2
          have hq := b0.lt
          go_wp2_with fail
          obtain ⟨k1, k2', k3'⟩ := Own.resM (w := w) (u := .int .i64 d.r) (v := .int .i64 d.c) (x := .slice A4 d.xs.length k4) b0 (ho.base hx0.size) (hx0.trans hx) (by omega)
          exact bodyPost_ret (resMB (x := .bool d.ok) rfl rfl rfl k3') rfl ⟨A4, k4, rfl, k1, k2'⟩

end Go.Proofs.Ytgjfdfmbknmpaaa
