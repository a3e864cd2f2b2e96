import Derived.Test.YtcfimkjkolgboaaE6
set_option linter.unusedVariables false
set_option linter.unusedSimpArgs false
namespace Go.Proofs.Ytcfimkjkolgboaa
open Go.RowKit

theorem blk2 {w w1 : World} {x y z : Array Value} {T T' T'' : TypeId} (hx : Ext (((w.alloc (.cells x T)).alloc (.cells y T')).alloc (.cells z T'')) w1) : Blk w1 (w.heap.size + 1 + 1) z T'' :=
  Blk.ext (by simpa using Blk.new ((w.alloc (.cells x T)).alloc (.cells y T')) z T'') hx
theorem WAt.nd {w : World} {r c : Int} {A : Option Addr} {n cap : Nat} {xs : List Int} (h : Rds w A n (ints xs)) (T : TypeId) (x : Array Value) (T' : TypeId) : WAt ((w.alloc (.cells x T')).alloc (.cells #[.int .i64 r, .int .i64 c, .slice A n cap] T)) (w.heap.size + 1) r c A n cap xs := by
  simpa using WAt.new (r := r) (c := c) (cap := cap) (h.below ((Ext.refl w).alloc (.cells x T'))) T

set_option maxHeartbeats 4000000 in
theorem implMulWholes_any (r c : Int) (A : Option Addr) (n cap : Nat) (r' c' : Int) (B : Option Addr) (m cap' : Nat) (xs ys : List Int) (w : World) (hr : Rds w A n (ints xs)) (hq : Rds w B m (ints ys)) :
    Calls Try.prog 46 #[.agg #[.int .i64 r, .int .i64 c, .slice A n cap], .agg #[.int .i64 r', .int .i64 c', .slice B m cap']] w (RetWD w (mulD r c r' c' xs ys)) := by
  have hl := hr.ilen
  have hl' := hq.ilen
  have HL := Lib.hid hl
  have HL' := Lib.hid hl'
  clear hl hl'
  have hx0 : Ext w (((w.alloc (.cells #[.int .i64 r, .int .i64 c, .slice A n cap] 31)).alloc (.cells #[.int .i64 r', .int .i64 c', .slice B m cap'] 31)).alloc (.cells #[.int .i64 0, .int .i64 0, .slice none 0 0] 31)) := (((Ext.refl _).alloc _).alloc _).alloc _
  have ha0 := ((WAt.new (r := r) (c := c) (cap := cap) hr 31).ext ((Ext.refl _).alloc (.cells #[.int .i64 r', .int .i64 c', .slice B m cap'] 31))).ext ((Ext.refl _).alloc (.cells #[.int .i64 0, .int .i64 0, .slice none 0 0] 31))
  have hb0 := (WAt.nd (r := r') (c := c') (cap := cap') hq 31 #[.int .i64 r, .int .i64 c, .slice A n cap] 31).ext ((Ext.refl _).alloc (.cells #[.int .i64 0, .int .i64 0, .slice none 0 0] 31))
  obtain ⟨d, hd⟩ : ∃ d, d = mulD r c r' c' xs ys := ⟨_, rfl⟩
  rw [← hd]
  unfold mulD at hd
  cases hv : isWholeB r c xs 1000000 with
  | false =>
    replace hd : d = WD.bad := by rw [hd, hv]; rfl
    have HD := Lib.hid hd
    clear hd
    go_enter Try.func46, Try.ntmps46
    go_wp2_with fail
    refine (implValidWhole_any r c A n cap xs _ ha0.rds).mono ?_
    rintro e w1 ⟨rfl, hx⟩
    rw [hv]
    clear ha0 hb0
    have b0 := blk2 hx
    have y0 : w1.cell? ⟨w.heap.size + 1 + 1, 0, none⟩ = some (.int .i64 0) := b0.cell 0 rfl
    have y1 : w1.cell? ⟨w.heap.size + 1 + 1, 1, none⟩ = some (.int .i64 0) := b0.cell 1 rfl
    have y2 : w1.cell? ⟨w.heap.size + 1 + 1, 2, none⟩ = some (.slice none 0 0) := b0.cell 2 rfl
    have q0 := b0.free 0
    have q1 := b0.free 1
    have q2 := b0.free 2
    have hq := b0.lt
    go_wp2_with fail
    obtain ⟨k1, k2, k3⟩ := Own.res (w := w) (u := .int .i64 0) (v := .int .i64 0) (x := .slice none 0 0) b0 (own_nil _ _ _) (hx0.trans hx) (by omega)
    exact bodyPost_ret (resWB (x := .bool false) rfl rfl rfl k3) rfl (RetWD.bad HD.out k2)
  | true =>
    cases hv' : isWholeB r' c' ys 1000000 with
    | false =>
      replace hd : d = WD.bad := by rw [hd, hv, hv']; rfl
      have HD := Lib.hid hd
      clear hd
      go_enter Try.func46, Try.ntmps46
      go_wp2_with fail
      refine (implValidWhole_any r c A n cap xs _ ha0.rds).mono ?_
      rintro e w1 ⟨rfl, hx⟩
      rw [hv]
      obtain ⟨d0, d1, d2, hq1⟩ := hb0.ext hx
      go_wp2_with fail
      refine (implValidWhole_any r' c' B m cap' ys _ hq1).mono ?_
      rintro e w2 ⟨rfl, hx'⟩
      rw [hv']
      replace hx := hx.trans hx'
      clear ha0 hb0 d0 d1 d2
      have b0 := blk2 hx
      have y0 : w2.cell? ⟨w.heap.size + 1 + 1, 0, none⟩ = some (.int .i64 0) := b0.cell 0 rfl
      have y1 : w2.cell? ⟨w.heap.size + 1 + 1, 1, none⟩ = some (.int .i64 0) := b0.cell 1 rfl
      have y2 : w2.cell? ⟨w.heap.size + 1 + 1, 2, none⟩ = some (.slice none 0 0) := b0.cell 2 rfl
      have q0 := b0.free 0
      have q1 := b0.free 1
      have q2 := b0.free 2
      have hq := b0.lt
      go_wp2_with fail
      obtain ⟨k1, k2, k3⟩ := Own.res (w := w) (u := .int .i64 0) (v := .int .i64 0) (x := .slice none 0 0) b0 (own_nil _ _ _) (hx0.trans hx) (by omega)
      exact bodyPost_ret (resWB (x := .bool false) rfl rfl rfl k3) rfl (RetWD.bad HD.out k2)
    | true =>
      by_cases hcr : c = r'
      · subst hcr
        obtain ⟨R, K, rfl, rfl, u1, u2, u3, u4, u5⟩ := whole_nat hv
        obtain ⟨K', C, hK', rfl, _, _, u6, u7, u8⟩ := whole_nat hv'
        obtain rfl : K = K' := by omega
        replace hd : d = giveD R C (mulT R K C xs ys) := by rw [hd, hv, hv']; simp
        have HD := Lib.hid hd
        have Hn : Hid (n = R * K) := by have := HL.out; show n = _; omega
        have Hm : Hid (m = K * C) := by have := HL'.out; show m = _; omega
        clear hd u5 u8 hK'
        have hne : ((K : Int) != (K : Int)) = false := by simp
        go_enter Try.func46, Try.ntmps46
        go_wp2_with fail
        refine (implValidWhole_any R K A n cap xs _ ha0.rds).mono ?_
        rintro e w1 ⟨rfl, hx⟩
        rw [hv]
        obtain ⟨d0, d1, d2, hq1⟩ := hb0.ext hx
        go_wp2_with fail
        refine (implValidWhole_any K C B m cap' ys _ hq1).mono ?_
        rintro e w2 ⟨rfl, hx'⟩
        rw [hv']
        replace hx := hx.trans hx'
        clear d0 d1 d2 hq1 hx'
        have b0 := blk2 hx
        obtain ⟨c0, c1, c2, hr1⟩ := ha0.ext hx
        obtain ⟨d0, d1, d2, hq1⟩ := hb0.ext hx
        clear ha0 hb0
        have hx1 := hx0.trans hx
        clear hx hx0
        go_wp2_with fail
        refine (wholeBy_any 90 _ (enters_of Try.func90 (by kernel_rfl) rfl) R C u2 u7 (mulS xs ys K C) _ (fun i k W hi hk hW => ?_)).mono ?_
        · exact mulWholes1_any w.heap.size (w.heap.size + 1) R K C i k n m cap cap' A B xs ys W hi hk u2 u4 u7 Hn.out Hm.out (WAt.ext ⟨c0, c1, c2, hr1⟩ hW) (WAt.ext ⟨d0, d1, d2, hq1⟩ hW)
        rintro e w3 ⟨A', k', rfl, ho, hx⟩
        clear c0 c1 c2 d0 d1 d2
        have ho' := ho.base hx1.size
        replace b0 := b0.ext hx
        replace hx1 := hx1.trans hx
        clear ho hx
        go_wp2_with fail
        refine (valid_any w.heap.size R C A' (R * C) k' _ _ ho' hx1.size).mono ?_
        rintro e w4 ⟨A2, k2, rfl, ho, hx⟩
        replace b0 := b0.ext hx
        have y0 : w4.cell? ⟨w.heap.size + 1 + 1, 0, none⟩ = some (.int .i64 0) := b0.cell 0 rfl
        have y1 : w4.cell? ⟨w.heap.size + 1 + 1, 1, none⟩ = some (.int .i64 0) := b0.cell 1 rfl
        have y2 : w4.cell? ⟨w.heap.size + 1 + 1, 2, none⟩ = some (.slice none 0 0) := b0.cell 2 rfl
        have q0 := b0.free 0
        have q1 := b0.free 1
        have q2 := b0.free 2
        have hq := b0.lt
        have HD' : Hid (d = giveD R C (tab C (mulS xs ys K C) (R * C))) := HD.out
        rw [← HD'.out] at ho ⊢
        go_wp2_with fail
        obtain ⟨k1, k2', k3⟩ := Own.res (w := w) (u := .int .i64 d.r) (v := .int .i64 d.c) (x := .slice A2 d.xs.length k2) b0 ho (hx1.trans hx) (by omega)
        exact bodyPost_ret (resWB (x := .bool d.ok) rfl rfl rfl k3) rfl ⟨A2, k2, rfl, k1, k2'⟩
      · replace hd : d = WD.bad := by rw [hd, hv, hv', decide_eq_false hcr]; rfl
        have HD := Lib.hid hd
        clear hd
        have hne : (c != r') = true := by simpa using hcr
        go_enter Try.func46, Try.ntmps46
        go_wp2_with fail
        refine (implValidWhole_any r c A n cap xs _ ha0.rds).mono ?_
        rintro e w1 ⟨rfl, hx⟩
        rw [hv]
        obtain ⟨d0, d1, d2, hq1⟩ := hb0.ext hx
        go_wp2_with fail
        refine (implValidWhole_any r' c' B m cap' ys _ hq1).mono ?_
        rintro e w2 ⟨rfl, hx'⟩
        rw [hv']
        replace hx := hx.trans hx'
        clear d0 d1 d2
        have b0 := blk2 hx
        obtain ⟨c0, c1, c2, _⟩ := ha0.ext hx
        obtain ⟨d0, d1, d2, _⟩ := hb0.ext hx
        clear ha0 hb0
        have y0 : w2.cell? ⟨w.heap.size + 1 + 1, 0, none⟩ = some (.int .i64 0) := b0.cell 0 rfl
        have y1 : w2.cell? ⟨w.heap.size + 1 + 1, 1, none⟩ = some (.int .i64 0) := b0.cell 1 rfl
        have y2 : w2.cell? ⟨w.heap.size + 1 + 1, 2, none⟩ = some (.slice none 0 0) := b0.cell 2 rfl
        have q0 := b0.free 0
        have q1 := b0.free 1
        have q2 := b0.free 2
        have hq := b0.lt
        go_wp2_with fail
        obtain ⟨k1, k2, k3⟩ := Own.res (w := w) (u := .int .i64 0) (v := .int .i64 0) (x := .slice none 0 0) b0 (own_nil _ _ _) (hx0.trans hx) (by omega)
        exact bodyPost_ret (resWB (x := .bool false) rfl rfl rfl k3) rfl (RetWD.bad HD.out k2)

end Go.Proofs.Ytcfimkjkolgboaa
