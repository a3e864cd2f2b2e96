import Derived.Test.YtcfimkjkolgboaaE2
set_option linter.unusedVariables false
set_option linter.unusedSimpArgs false
namespace Go.Proofs.Ytcfimkjkolgboaa
open Go.RowKit

/-- What a Whole that is valid is like. -/
theorem whole_nat {r c : Int} {xs : List Int} {most : Int} (h : isWholeB r c xs most = true) : ∃ R C : Nat, r = R ∧ c = C ∧ 1 ≤ R ∧ R ≤ 6 ∧ 1 ≤ C ∧ C ≤ 6 ∧ xs.length = R * C := by
  obtain ⟨h1, h2, h3, _⟩ := isWholeB_all h
  refine ⟨r.toNat, c.toNat, by omega, by omega, by omega, by omega, by omega, by omega, ?_⟩
  have e1 : r = (r.toNat : Int) := by omega
  have e2 : c = (c.toNat : Int) := by omega
  rw [e1, e2] at h3
  have : ((r.toNat : Int) * (c.toNat : Int)) = ((r.toNat * c.toNat : Nat) : Int) := by simp
  omega

def flipT (R C : Nat) (xs : List Int) : List Int := tab R (fun i k => at_ xs C k i) (C * R)
/-- What FlipWhole answers. -/
def flipD (r c : Int) (xs : List Int) : WD := if isWholeB r c xs 1000000 then ⟨c, r, flipT r.toNat c.toNat xs, true⟩ else WD.bad

set_option maxHeartbeats 1000000 in
theorem flipWhole1_any (b R C i k n cap : Nat) (A : Option Addr) (xs : List Int) (w : World) (hi : i < C) (hk : k < R) (hR : R ≤ 6) (hC : C ≤ 6) (hn : n = R * C) (ha : WAt w b R C A n cap xs) :
    Calls Try.prog 77 #[.int .i64 i, .int .i64 k, .pointer (some ⟨b, 0, none⟩)] w fun e w' => e = .returned (.int .i64 (at_ xs C k i)) ∧ Ext w w' := by
  obtain ⟨c0, c1, c2, hr⟩ := ha
  have Hn := Lib.hid hn
  clear hn
  go_enter Try.func77, Try.ntmps77
  go_wp2_with fail
  refine (at_any R C k i n cap A xs w hk hi hR hC Hn.out hr).mono ?_
  rintro e w1 ⟨rfl, hx⟩
  go_wp2_with fail
  go_ret
  exact ⟨rfl, hx⟩

set_option maxHeartbeats 1000000 in
theorem implFlipWhole_any (r c : Int) (A : Option Addr) (n cap : Nat) (xs : List Int) (w : World) (hr : Rds w A n (ints xs)) :
    Calls Try.prog 38 #[.agg #[.int .i64 r, .int .i64 c, .slice A n cap]] w (RetWD w (flipD r c xs)) := by
  have hl := hr.ilen
  have hx0 : Ext w ((w.alloc (.cells #[.int .i64 r, .int .i64 c, .slice A n cap] 31)).alloc (.cells #[.int .i64 0, .int .i64 0, .slice none 0 0] 31)) := ((Ext.refl _).alloc _).alloc _
  cases hv : isWholeB r c xs 1000000 with
  | false =>
    have hd : flipD r c xs = WD.bad := by simp [flipD, hv]
    go_enter Try.func38, Try.ntmps38
    go_wp2_with fail
    refine (implValidWhole_any r c A n cap xs _ (hr.below hx0)).mono ?_
    rintro e w1 ⟨rfl, hx⟩
    rw [hv]
    have b0 : Blk w1 (w.heap.size + 1) #[.int .i64 0, .int .i64 0, .slice none 0 0] 31 := Blk.ext (by simpa using Blk.new (w.alloc (.cells #[.int .i64 r, .int .i64 c, .slice A n cap] 31)) _ _) hx
    have y0 : w1.cell? ⟨w.heap.size + 1, 0, none⟩ = some (.int .i64 0) := b0.cell 0 rfl
    have y1 : w1.cell? ⟨w.heap.size + 1, 1, none⟩ = some (.int .i64 0) := b0.cell 1 rfl
    have y2 : w1.cell? ⟨w.heap.size + 1, 2, none⟩ = some (.slice none 0 0) := b0.cell 2 rfl
    have q0 := b0.free 0
    have q1 := b0.free 1
    have q2 := b0.free 2
    have hq := b0.lt
    go_wp2_with fail
    obtain ⟨k1, k2, k3⟩ := Own.res (w := w) (u := .int .i64 0) (v := .int .i64 0) (x := .slice none 0 0) b0 (own_nil _ _ _) (hx0.trans hx) (by omega)
    exact bodyPost_ret (resWB (x := .bool false) rfl rfl rfl k3) rfl (RetWD.bad hd k2)
  | true =>
    obtain ⟨R, C, rfl, rfl, u1, u2, u3, u4, u5⟩ := whole_nat hv
    have hn : n = R * C := by omega
    have hd : flipD R C xs = ⟨C, R, flipT R C xs, true⟩ := by simp [flipD, hv]
    have hlt : (flipT R C xs).length = C * R := tab_length _ _ _
    have Hd := Lib.hid hd
    have Hn := Lib.hid hn
    have Hl := Lib.hid hlt
    have Hu := Lib.hid u5
    clear hd hn hlt u5 hl
    go_enter Try.func38, Try.ntmps38
    go_wp2_with fail
    refine (implValidWhole_any R C A n cap xs _ (hr.below hx0)).mono ?_
    rintro e w1 ⟨rfl, hx⟩
    rw [hv]
    have ha : WAt w1 w.heap.size R C A n cap xs := ((WAt.new hr 31).ext ((Ext.refl _).alloc _)).ext hx
    have b0 : Blk w1 (w.heap.size + 1) #[.int .i64 0, .int .i64 0, .slice none 0 0] 31 := Blk.ext (by simpa using Blk.new (w.alloc (.cells #[.int .i64 R, .int .i64 C, .slice A n cap] 31)) _ _) hx
    obtain ⟨c0, c1, c2, hr1⟩ := ha
    have hx1 := hx0.trans hx
    clear hx hx0
    go_wp2_with fail
    refine (wholeBy_any 77 _ (enters_of Try.func77 (by kernel_rfl) rfl) C R u4 u2 (fun i k => at_ xs C k i) _ (fun i k W hi hk hW => ?_)).mono ?_
    · exact flipWhole1_any w.heap.size R C i k n cap A xs W hi hk u2 u4 Hn.out (WAt.ext ⟨c0, c1, c2, hr1⟩ hW)
    rintro e w2 ⟨A', c', rfl, ho, hx⟩
    replace b0 := b0.ext hx
    have y0 : w2.cell? ⟨w.heap.size + 1, 0, none⟩ = some (.int .i64 0) := b0.cell 0 rfl
    have y1 : w2.cell? ⟨w.heap.size + 1, 1, none⟩ = some (.int .i64 0) := b0.cell 1 rfl
    have y2 : w2.cell? ⟨w.heap.size + 1, 2, none⟩ = some (.slice none 0 0) := b0.cell 2 rfl
    have q0 := b0.free 0
    have q1 := b0.free 1
    have q2 := b0.free 2
    have hq := b0.lt
    go_wp2_with fail
    obtain ⟨k1, k2, k3⟩ := Own.res (w := w) (u := .int .i64 C) (v := .int .i64 R) (x := .slice A' (C * R) c') b0 (ho.base hx1.size) (hx1.trans hx) (by omega)
    refine bodyPost_ret (resWB rfl rfl rfl k3) rfl ?_
    rw [Hd.out]
    exact ⟨A', c', by rw [Hl.out]; rfl, by rw [Hl.out]; exact k1, k2⟩

theorem WO.begin {w w2 : World} {nb b0 : Nat} {r c : Int} {n k : Nat} {A : Option Addr} {xs : List Int} (hx : Ext w w2) (h1 : Blk w2 nb #[.int .i64 0, .int .i64 0, .slice none 0 0] 31)
    (h2 : Blk w2 b0 #[.int .i64 0, .int .i64 0, .slice none 0 0] 31) (h3 : Own w2 w.heap.size 2 (.slice A n k) (ints xs)) (hb : w.heap.size ≤ nb) (hne : b0 ≠ nb) :
    WO w nb b0 r c n xs (((w2.setCell ⟨nb, 0, none⟩ (.int .i64 r)).setCell ⟨nb, 1, none⟩ (.int .i64 c)).setCell ⟨nb, 2, none⟩ (.slice A n k)) := by
  obtain ⟨k1, k2, k3⟩ := Own.res (u := .int .i64 r) (v := .int .i64 c) (x := .slice A n k) h1 h3 hx hb
  exact ⟨A, k, k3, ((h2.other hne _ _).other hne _ _).other hne _ _, k1, k2⟩

set_option maxHeartbeats 2000000 in
theorem l06Flip_any (b R C n cap : Nat) (A : Option Addr) (xs : List Int) (w : World) (hR : R ≤ 6) (hC : C ≤ 6) (hn : n = R * C) (ha : WAt w b R C A n cap xs) :
    Calls Try.prog 75 #[.pointer (some ⟨b, 0, none⟩)] w (RetWhole w C R (C * R) (flipT R C xs)) := by
  have Hn := Lib.hid hn
  clear hn
  go_enter Try.func75, Try.ntmps75
  go_wp2_with fail
  have x0 : Ext w (w.alloc (.cells #[.int .i64 0, .int .i64 0, .slice none 0 0] 31)) := (Ext.refl _).alloc _
  have b0 : Blk (w.alloc (.cells #[.int .i64 0, .int .i64 0, .slice none 0 0] 31)) w.heap.size #[.int .i64 0, .int .i64 0, .slice none 0 0] 31 := Blk.new _ _ _
  obtain ⟨w0, hw0⟩ : ∃ w0, w0 = w.alloc (.cells #[.int .i64 0, .int .i64 0, .slice none 0 0] 31) := ⟨_, rfl⟩
  rw [← hw0] at b0 x0 ⊢
  have hs0 : w0.heap.size = w.heap.size + 1 := by rw [hw0]; simp
  clear hw0
  obtain ⟨c0, c1, c2, hr0⟩ := ha.ext x0
  refine wp_region_T (cs := []) [0, 1, 2, 3, 4, 5, 6, 7, 8, 9] [10] [8, 9] [] (fun i__ v => match i__ with | 8 => ∃ (A : Option Addr) (k : Nat), v = (.agg #[.int .i64 C, .int .i64 R, .slice A (C * R) k]) | 9 => ∃ b, v = (.pointer (some ⟨b, 0, none⟩)) | _ => False) (fun i__ v w' => match i__ with | 8 => OwnF w' w0.heap.size 2 v [2] (ints (List.replicate (C * R) 0)) | 9 => BlkF w' v w0.heap.size #[.int .i64 0, .int .i64 0, .slice none 0 0] 31 | _ => True) (by kernel_rfl) (by kernel_rfl) (by intro i v w' w2 h hx; revert h; (try dsimp only); split <;> intro h <;> first | trivial | exact (by first | exact OwnF.ext h hx | exact BlkF.ext h hx)) ?_
  refine' wpT_det (o := ⟨some 6, Op.move (Operand.tmp 0), 62, "l06_integers.go:80", #[], none⟩) rfl (by rfl) (by rfl) (fun w' hw' => ?_) ?_; rotate_left
  · go_simp <;> first | rfl | exact ⟨rfl, rfl⟩
  simp only [Act.put, List.setIfInBounds_toArray, List.set_cons_zero, List.set_cons_succ]
  refine' wpT_det (o := ⟨some 7, Op.nilCheck (Operand.tmp 6), 0, "l06_integers.go:80", #[{ on := 0, ground := Ground.data }], none⟩) rfl (by rfl) (by rfl) (fun w' hw' => ?_) ?_; rotate_left
  · go_simp <;> first | rfl | exact ⟨rfl, rfl⟩
  simp only [Act.put, List.setIfInBounds_toArray, List.set_cons_zero, List.set_cons_succ]
  refine' wpT_det (o := ⟨some 8, Op.fieldAddr 31 (Operand.tmp 7) 1, 0, "l06_integers.go:80", #[{ on := 1, ground := Ground.data }], none⟩) rfl (by rfl) (by rfl) (fun w' hw' => ?_) ?_; rotate_left
  · go_simp <;> first | rfl | exact ⟨rfl, rfl⟩
  simp only [Act.put, List.setIfInBounds_toArray, List.set_cons_zero, List.set_cons_succ]
  refine' wpT_det (o := ⟨some 9, Op.load 2 (Operand.tmp 8), 2, "l06_integers.go:80", #[{ on := 2, ground := Ground.data }], none⟩) rfl (by rfl) (by rfl) (fun w' hw' => ?_) ?_; rotate_left
  · have c0_ := Ext.cell hw' c0; have c1_ := Ext.cell hw' c1; go_simp <;> first | rfl | exact ⟨rfl, rfl⟩
  simp only [Act.put, List.setIfInBounds_toArray, List.set_cons_zero, List.set_cons_succ]
  refine' wpT_det (o := ⟨some 10, Op.move (Operand.tmp 0), 62, "l06_integers.go:80", #[], none⟩) rfl (by rfl) (by rfl) (fun w' hw' => ?_) ?_; rotate_left
  · go_simp <;> first | rfl | exact ⟨rfl, rfl⟩
  simp only [Act.put, List.setIfInBounds_toArray, List.set_cons_zero, List.set_cons_succ]
  refine' wpT_det (o := ⟨some 11, Op.nilCheck (Operand.tmp 10), 0, "l06_integers.go:80", #[{ on := 4, ground := Ground.data }], none⟩) rfl (by rfl) (by rfl) (fun w' hw' => ?_) ?_; rotate_left
  · go_simp <;> first | rfl | exact ⟨rfl, rfl⟩
  simp only [Act.put, List.setIfInBounds_toArray, List.set_cons_zero, List.set_cons_succ]
  refine' wpT_det (o := ⟨some 12, Op.fieldAddr 31 (Operand.tmp 11) 0, 0, "l06_integers.go:80", #[{ on := 5, ground := Ground.data }], none⟩) rfl (by rfl) (by rfl) (fun w' hw' => ?_) ?_; rotate_left
  · go_simp <;> first | rfl | exact ⟨rfl, rfl⟩
  simp only [Act.put, List.setIfInBounds_toArray, List.set_cons_zero, List.set_cons_succ]
  refine' wpT_det (o := ⟨some 13, Op.load 2 (Operand.tmp 12), 2, "l06_integers.go:80", #[{ on := 6, ground := Ground.data }], none⟩) rfl (by rfl) (by rfl) (fun w' hw' => ?_) ?_; rotate_left
  · have c0_ := Ext.cell hw' c0; have c1_ := Ext.cell hw' c1; go_simp <;> first | rfl | exact ⟨rfl, rfl⟩
  simp only [Act.put, List.setIfInBounds_toArray, List.set_cons_zero, List.set_cons_succ]
  refine wpT_nd (o := ⟨some 14, Op.call { callee := Callee.value (Operand.func 105), args := #[Operand.tmp 9, Operand.tmp 13], argTypes := #[2, 2] }, 31, "l06_integers.go:80", #[{ on := 3, ground := Ground.data }, { on := 7, ground := Ground.data }], none⟩) rfl (by rfl) (by rfl) (fun w' hw' hF R__ hGo => ?_) ⟨_, none, 0, rfl⟩ ?_
  · go_simp
    refine gives_enter rfl ?_
    refine (l06Zero_any C R hC hR _).mono ?_
    rintro e w2 ⟨A1, k1, rfl, o1, hx⟩
    exact ⟨_, rfl, hGo _ _ hx ⟨_, _, rfl⟩ (OwnF.of (o1.base hw'.size) rfl)⟩
  rintro _ ⟨A1, k1, rfl⟩
  simp only [Act.put, List.setIfInBounds_toArray, List.set_cons_zero, List.set_cons_succ]
  refine wpT_nd (o := ⟨some 3, Op.alloc 31, 0, "l06_integers.go:80", #[], none⟩) rfl (by rfl) (by rfl) (fun w' hw' hF R__ hGo => ?_) ⟨_, 0, rfl⟩ ?_
  · go_simp; exact gives_value rfl (hGo _ _ ((Ext.refl _).alloc _) ⟨_, rfl⟩ (fun b e => by simp only [Value.pointer.injEq, Option.some.injEq, Addr.mk.injEq, and_true] at e; subst e; exact ⟨Blk.new _ _ _, hw'.size⟩))
  rintro _ ⟨nb, rfl⟩
  simp only [Act.put, List.setIfInBounds_toArray, List.set_cons_zero, List.set_cons_succ]
  refine wpT_nil (fun w2 hw' hF => ?_)
  show wpList _ _ _ [(⟨none, Op.store 31 (Operand.tmp 3) (Operand.tmp 14), 0, "l06_integers.go:80", #[{ on := 9, ground := Ground.data }, { on := 8, ground := Ground.data }, { on := 8, ground := Ground.chain }, { on := 0, ground := Ground.phase }, { on := 1, ground := Ground.phase }, { on := 2, ground := Ground.phase }, { on := 3, ground := Ground.phase }, { on := 4, ground := Ground.phase }, { on := 5, ground := Ground.phase }, { on := 6, ground := Ground.phase }, { on := 7, ground := Ground.phase }, { on := 8, ground := Ground.phase }, { on := 9, ground := Ground.phase }], none⟩ : Oper)] _ _
  have o1 : Own w2 w0.heap.size 2 (.slice A1 (C * R) k1) (ints (List.replicate (C * R) 0)) := (hF 8 _ rfl) _ _ _ rfl
  obtain ⟨h1, hb⟩ := hF 9 _ rfl nb rfl
  clear hF
  have hx := x0.trans hw'.undrew
  replace b0 := b0.ext hw'.undrew
  clear c0 c1 c2 hr0 x0 hw'
  have hne : w.heap.size ≠ nb := by omega
  have z0 : w2.cell? ⟨nb, 0, none⟩ = some (.int .i64 0) := h1.cell 0 rfl
  have z1 : w2.cell? ⟨nb, 1, none⟩ = some (.int .i64 0) := h1.cell 1 rfl
  have z2 : w2.cell? ⟨nb, 2, none⟩ = some (.slice none 0 0) := h1.cell 2 rfl
  have q0 := h1.free 0
  have q1 := h1.free 1
  have q2 := h1.free 2
  go_wp2_with fail
  clear z0 z1 z2 q0 q1 q2
  obtain ⟨w3, hw3⟩ : ∃ v : World, v = (((w2.setCell ⟨nb, 0, none⟩ (.int .i64 C)).setCell ⟨nb, 1, none⟩ (.int .i64 R)).setCell ⟨nb, 2, none⟩ (.slice A1 (C * R) k1)) := ⟨_, rfl⟩
  rw [← hw3]
  have hst : WO w nb w.heap.size C R (C * R) (tab R (fun a b => if b < 0 then at_ xs C b a else 0) (C * R)) w3 := by
    have e : tab R (fun a b => if b < 0 then at_ xs C b a else 0) (C * R) = List.replicate (C * R) 0 := by rw [← tab_const R]; congr 1
    rw [hw3, e]
    exact WO.begin hx h1 b0 (o1.base (by omega)) (by omega) hne
  clear hw3 o1 h1 b0 hx
  go_loopw [4] (fun u wr => ∃ i : Nat, i ≤ R ∧ u = .int .i64 i ∧ WO w nb w.heap.size C R (C * R) (tab R (fun a b => if b < i then at_ xs C b a else 0) (C * R)) wr) (fun u _ => R - (intOf u).toNat)
  case atStart => exact ⟨0, Nat.zero_le _, rfl, hst⟩
  case round =>
    clear hst
    obtain ⟨i, hi, rfl, hst⟩ := hrel
    have hst' := hst
    obtain ⟨A2, k2, h1, h2, h3, h4⟩ := hst'
    obtain ⟨c0, c1, c2, hr0⟩ := ha.ext h4
    clear c2 hr0
    by_cases hlt : i < R
    · clear h1 h2 h3
      go_wp2_with fail
      go_loopw [5] (fun u wr => ∃ k : Nat, k ≤ C ∧ u = .int .i64 k ∧ WO w nb w.heap.size C R (C * R) (tab R (fun a b => if b < i ∨ (b = i ∧ a < k) then at_ xs C b a else 0) (C * R)) wr) (fun u _ => C - (intOf u).toNat)
      case atStart =>
        refine ⟨0, Nat.zero_le _, rfl, ?_⟩
        have e : tab R (fun a b => if b < i ∨ (b = i ∧ a < 0) then at_ xs C b a else 0) (C * R) = tab R (fun a b => if b < i then at_ xs C b a else 0) (C * R) := by
          congr 1; funext a b; by_cases hb : b < i
          · rw [if_pos (.inl hb), if_pos hb]
          · rw [if_neg (by omega), if_neg hb]
        rw [e]; exact hst
      case round =>
        clear hst h4 c0 c1
        obtain ⟨k, hk, rfl, A2, k2, h1, h2, h3, h4⟩ := hrel
        obtain ⟨c0, c1, c2, hr0⟩ := ha.ext h4
        by_cases hlk : k < C
        · obtain ⟨m, hm⟩ : ∃ m, m = C * R := ⟨_, rfl⟩
          obtain ⟨f1, f2, f3, f4, f5, f6, f7, f8⟩ := ix_facts hlk hlt hC hR hm
          rw [← hm] at h1 h3 ⊢
          have Hm := Lib.hid hm
          clear hm
          obtain ⟨g, rfl, _⟩ := h3.head (by omega)
          have z2 : _ = some (Value.slice (some ⟨g, 0, none⟩) m k2) := h1.cell 2 rfl
          go_wp2_with fail
          refine wp_region_T (cs := []) [0, 1, 2, 3, 4, 5, 6, 7, 8, 9, 10, 11, 12, 13] [14, 15] [13] [] (fun i__ v => match i__ with | 13 => v = (.int .i64 (at_ xs C i k)) | _ => False) (fun _ _ _ => True) (by kernel_rfl) (by kernel_rfl) (fun _ _ _ _ _ _ => trivial) ?_
          refine' wpT_det (o := ⟨some 31, Op.fieldAddr 31 (Operand.tmp 3) 2, 0, "l06_integers.go:83", #[], none⟩) rfl (by rfl) (by rfl) (fun w' hw' => ?_) ?_; rotate_left
          · go_simp <;> first | rfl | exact ⟨rfl, rfl⟩
          simp only [Act.put, List.setIfInBounds_toArray, List.set_cons_zero, List.set_cons_succ]
          refine' wpT_det (o := ⟨some 32, Op.load 26 (Operand.tmp 31), 26, "l06_integers.go:83", #[{ on := 0, ground := Ground.data }], none⟩) rfl (by rfl) (by rfl) (fun w' hw' => ?_) ?_; rotate_left
          · have c0_ := Ext.cell hw' c0; have c1_ := Ext.cell hw' c1; have z2_ := Ext.cell hw' z2; go_simp <;> first | rfl | exact ⟨rfl, rfl⟩
          simp only [Act.put, List.setIfInBounds_toArray, List.set_cons_zero, List.set_cons_succ]
          refine' wpT_det (o := ⟨some 33, Op.move (Operand.tmp 5), 2, "l06_integers.go:83", #[], none⟩) rfl (by rfl) (by rfl) (fun w' hw' => ?_) ?_; rotate_left
          · go_simp <;> first | rfl | exact ⟨rfl, rfl⟩
          simp only [Act.put, List.setIfInBounds_toArray, List.set_cons_zero, List.set_cons_succ]
          refine' wpT_det (o := ⟨some 34, Op.move (Operand.tmp 0), 62, "l06_integers.go:83", #[], none⟩) rfl (by rfl) (by rfl) (fun w' hw' => ?_) ?_; rotate_left
          · go_simp <;> first | rfl | exact ⟨rfl, rfl⟩
          simp only [Act.put, List.setIfInBounds_toArray, List.set_cons_zero, List.set_cons_succ]
          refine' wpT_det (o := ⟨some 35, Op.nilCheck (Operand.tmp 34), 0, "l06_integers.go:83", #[{ on := 3, ground := Ground.data }], none⟩) rfl (by rfl) (by rfl) (fun w' hw' => ?_) ?_; rotate_left
          · go_simp <;> first | rfl | exact ⟨rfl, rfl⟩
          simp only [Act.put, List.setIfInBounds_toArray, List.set_cons_zero, List.set_cons_succ]
          refine' wpT_det (o := ⟨some 36, Op.fieldAddr 31 (Operand.tmp 35) 0, 0, "l06_integers.go:83", #[{ on := 4, ground := Ground.data }], none⟩) rfl (by rfl) (by rfl) (fun w' hw' => ?_) ?_; rotate_left
          · go_simp <;> first | rfl | exact ⟨rfl, rfl⟩
          simp only [Act.put, List.setIfInBounds_toArray, List.set_cons_zero, List.set_cons_succ]
          refine' wpT_det (o := ⟨some 37, Op.load 2 (Operand.tmp 36), 2, "l06_integers.go:83", #[{ on := 5, ground := Ground.data }], none⟩) rfl (by rfl) (by rfl) (fun w' hw' => ?_) ?_; rotate_left
          · have c0_ := Ext.cell hw' c0; have c1_ := Ext.cell hw' c1; have z2_ := Ext.cell hw' z2; go_simp <;> first | rfl | exact ⟨rfl, rfl⟩
          simp only [Act.put, List.setIfInBounds_toArray, List.set_cons_zero, List.set_cons_succ]
          refine' wpT_det (o := ⟨some 38, Op.binOp BinOp.mul 2 (Operand.tmp 33) (Operand.tmp 37) 2, 2, "l06_integers.go:83", #[{ on := 2, ground := Ground.data }, { on := 6, ground := Ground.data }], none⟩) rfl (by rfl) (by rfl) (fun w' hw' => ?_) ?_; rotate_left
          · go_simp <;> first | rfl | exact ⟨rfl, rfl⟩
          simp only [Act.put, List.setIfInBounds_toArray, List.set_cons_zero, List.set_cons_succ]
          refine' wpT_det (o := ⟨some 39, Op.move (Operand.tmp 4), 2, "l06_integers.go:83", #[], none⟩) rfl (by rfl) (by rfl) (fun w' hw' => ?_) ?_; rotate_left
          · go_simp <;> first | rfl | exact ⟨rfl, rfl⟩
          simp only [Act.put, List.setIfInBounds_toArray, List.set_cons_zero, List.set_cons_succ]
          refine' wpT_det (o := ⟨some 40, Op.binOp BinOp.add 2 (Operand.tmp 38) (Operand.tmp 39) 2, 2, "l06_integers.go:83", #[{ on := 7, ground := Ground.data }, { on := 8, ground := Ground.data }], none⟩) rfl (by rfl) (by rfl) (fun w' hw' => ?_) ?_; rotate_left
          · go_simp <;> first | rfl | exact ⟨rfl, rfl⟩
          simp only [Act.put, List.setIfInBounds_toArray, List.set_cons_zero, List.set_cons_succ]
          refine' wpT_det (o := ⟨some 41, Op.move (Operand.tmp 0), 62, "l06_integers.go:83", #[], none⟩) rfl (by rfl) (by rfl) (fun w' hw' => ?_) ?_; rotate_left
          · go_simp <;> first | rfl | exact ⟨rfl, rfl⟩
          simp only [Act.put, List.setIfInBounds_toArray, List.set_cons_zero, List.set_cons_succ]
          refine' wpT_det (o := ⟨some 42, Op.move (Operand.tmp 4), 2, "l06_integers.go:83", #[], none⟩) rfl (by rfl) (by rfl) (fun w' hw' => ?_) ?_; rotate_left
          · go_simp <;> first | rfl | exact ⟨rfl, rfl⟩
          simp only [Act.put, List.setIfInBounds_toArray, List.set_cons_zero, List.set_cons_succ]
          refine' wpT_det (o := ⟨some 43, Op.move (Operand.tmp 5), 2, "l06_integers.go:83", #[], none⟩) rfl (by rfl) (by rfl) (fun w' hw' => ?_) ?_; rotate_left
          · go_simp <;> first | rfl | exact ⟨rfl, rfl⟩
          simp only [Act.put, List.setIfInBounds_toArray, List.set_cons_zero, List.set_cons_succ]
          refine wpT_nd (o := ⟨some 44, Op.call { callee := Callee.value (Operand.func 98), args := #[Operand.tmp 41, Operand.tmp 42, Operand.tmp 43], argTypes := #[62, 2, 2] }, 2, "l06_integers.go:83", #[{ on := 10, ground := Ground.data }, { on := 11, ground := Ground.data }, { on := 12, ground := Ground.data }], none⟩) rfl (by rfl) (by rfl) (fun w' hw' hF R__ hGo => ?_) ⟨_, rfl⟩ ?_
          · go_simp
            refine gives_enter rfl ?_
            refine (l06At_any b R C i k n cap A xs _ hlt hlk hR hC Hn.out (ha.ext (h4.trans hw'.undrew))).mono ?_
            rintro e w2 ⟨rfl, hx⟩
            exact ⟨_, rfl, hGo _ _ hx rfl trivial⟩
          intro v hv
          obtain rfl : v = (.int .i64 (at_ xs C i k)) := hv
          simp only [Act.put, List.setIfInBounds_toArray, List.set_cons_zero, List.set_cons_succ]
          refine wpT_nil (fun w4 hw' hF => ?_)
          show wpList _ _ _ [(⟨some 45, Op.indexAddr 26 (Operand.tmp 32) (Operand.tmp 40), 0, "l06_integers.go:83", #[{ on := 1, ground := Ground.data }, { on := 9, ground := Ground.data }, { on := 0, ground := Ground.phase }, { on := 1, ground := Ground.phase }, { on := 2, ground := Ground.phase }, { on := 3, ground := Ground.phase }, { on := 4, ground := Ground.phase }, { on := 5, ground := Ground.phase }, { on := 6, ground := Ground.phase }, { on := 7, ground := Ground.phase }, { on := 8, ground := Ground.phase }, { on := 9, ground := Ground.phase }, { on := 10, ground := Ground.phase }, { on := 11, ground := Ground.phase }, { on := 12, ground := Ground.phase }, { on := 13, ground := Ground.phase }], none⟩ : Oper), (⟨none, Op.store 2 (Operand.tmp 45) (Operand.tmp 44), 0, "l06_integers.go:83", #[{ on := 14, ground := Ground.data }, { on := 13, ground := Ground.data }, { on := 13, ground := Ground.chain }, { on := 0, ground := Ground.phase }, { on := 1, ground := Ground.phase }, { on := 2, ground := Ground.phase }, { on := 3, ground := Ground.phase }, { on := 4, ground := Ground.phase }, { on := 5, ground := Ground.phase }, { on := 6, ground := Ground.phase }, { on := 7, ground := Ground.phase }, { on := 8, ground := Ground.phase }, { on := 9, ground := Ground.phase }, { on := 10, ground := Ground.phase }, { on := 11, ground := Ground.phase }, { on := 12, ground := Ground.phase }, { on := 13, ground := Ground.phase }], none⟩ : Oper)] _ _
          have hx := hw'.undrew
          clear hF hw' z2 c0 c1 c2 hr0
          replace h1 := h1.ext hx
          replace h2 := h2.ext hx
          replace h3 := h3.ext hx
          replace h4 := h4.trans hx
          clear hx
          obtain ⟨hc, hf⟩ := h3.at_ (k * R + i) (by omega)
          rw [ints_get (by rw [tab_length]; omega)] at hc
          go_wp2_with fail
          go_roundw
          case rel =>
            refine ⟨k + 1, by omega, by go_num, ?_⟩
            have := WO.put h1 h2 h3 h4 (k * R + i) (at_ xs C i k)
            rwa [tab_set (F' := fun a b => if b < i ∨ (b = i ∧ a < k + 1) then at_ xs C b a else 0) hlt (by omega) (by rw [if_pos (by omega)]) (by
              intro a b _ hab
              by_cases h : b < i ∨ (b = i ∧ a < k)
              · rw [if_pos h, if_pos (by omega)]
              · rw [if_neg h, if_neg (by omega)])] at this
          case measure => simp [intOf]; omega
        · obtain rfl : k = C := by omega
          clear c2 hr0
          go_wp2_with fail
          go_roundw
          case rel =>
            refine ⟨i + 1, by omega, by go_num, ?_⟩
            have e : tab R (fun a b => if b < i + 1 then at_ xs k b a else 0) (k * R) = tab R (fun a b => if b < i ∨ (b = i ∧ a < k) then at_ xs k b a else 0) (k * R) := tab_congr (by
              intro a b ha' hb'
              by_cases h : b < i + 1
              · rw [if_pos h, if_pos (by omega)]
              · rw [if_neg h, if_neg (by omega)])
            rw [e]
            exact ⟨A2, k2, h1, h2, h3, h4⟩
          case measure => simp [intOf]; omega
    · obtain rfl : i = R := by omega
      have z0 : wr.cell? ⟨nb, 0, none⟩ = some (.int .i64 C) := h1.cell 0 rfl
      have z1 : wr.cell? ⟨nb, 1, none⟩ = some (.int .i64 i) := h1.cell 1 rfl
      have z2 : wr.cell? ⟨nb, 2, none⟩ = some (.slice A2 (C * i) k2) := h1.cell 2 rfl
      have y0 : wr.cell? ⟨w.heap.size, 0, none⟩ = some (.int .i64 0) := h2.cell 0 rfl
      have y1 : wr.cell? ⟨w.heap.size, 1, none⟩ = some (.int .i64 0) := h2.cell 1 rfl
      have y2 : wr.cell? ⟨w.heap.size, 2, none⟩ = some (.slice none 0 0) := h2.cell 2 rfl
      have q0 := h2.free 0
      have q1 := h2.free 1
      have q2 := h2.free 2
      have hq := h2.lt
      go_wp2_with fail
      obtain ⟨j1, j2, j3⟩ := WO.fin (r := C) (c := i) h2 h3 h4 (Nat.le_refl _)
      refine bodyPost_ret (resW rfl rfl j3) rfl ⟨A2, k2, rfl, ?_, j2⟩
      have e : tab i (fun a b => if b < i then at_ xs C b a else 0) (C * i) = flipT i C xs := tab_congr (by
        intro a b _ hb
        rw [if_pos hb])
      rw [← e]
      exact j1

end Go.Proofs.Ytcfimkjkolgboaa
