import Derived.Test.YtcfimkjkolgboaaE3
set_option linter.unusedVariables false
set_option linter.unusedSimpArgs false
namespace Go.Proofs.Ytcfimkjkolgboaa
open Go.RowKit

/-- A result in a block of its own, behind a box. -/
theorem blk1 {w w1 : World} {x y : Array Value} {T T' : TypeId} (hx : Ext ((w.alloc (.cells x T)).alloc (.cells y T')) w1) : Blk w1 (w.heap.size + 1) y T' :=
  Blk.ext (by simpa using Blk.new (w.alloc (.cells x T)) y T') hx

set_option maxHeartbeats 1000000 in
theorem specFlipWhole_any (r c : Int) (A : Option Addr) (n cap : Nat) (xs : List Int) (w : World) (hr : Rds w A n (ints xs)) :
    Calls Try.prog 37 #[.agg #[.int .i64 r, .int .i64 c, .slice A n cap]] w (RetWD w (flipD r c xs)) := by
  have hl := hr.ilen
  have hx0 : Ext w ((w.alloc (.cells #[.int .i64 r, .int .i64 c, .slice A n cap] 31)).alloc (.cells #[.int .i64 0, .int .i64 0, .slice none 0 0] 31)) := ((Ext.refl _).alloc _).alloc _
  have ha0 := (WAt.new (r := r) (c := c) (cap := cap) hr 31).ext ((Ext.refl _).alloc (.cells #[.int .i64 0, .int .i64 0, .slice none 0 0] 31))
  cases hv : isWholeB r c xs 1000000 with
  | false =>
    have hd : flipD r c xs = WD.bad := by simp [flipD, hv]
    go_enter Try.func37, Try.ntmps37
    go_wp2_with fail
    refine (l06Is_any _ r c _ A n cap xs _ ha0.c0 ha0.c1 ha0.c2 ha0.rds (by omega)).mono ?_
    rintro e w1 ⟨rfl, hx⟩
    rw [hv]
    clear ha0
    have b0 := blk1 hx
    have y0 : w1.cell? ⟨w.heap.size + 1, 0, none⟩ = some (.int .i64 0) := b0.cell 0 rfl
    have y1 : w1.cell? ⟨w.heap.size + 1, 1, none⟩ = some (.int .i64 0) := b0.cell 1 rfl
    have y2 : w1.cell? ⟨w.heap.size + 1, 2, none⟩ = some (.slice none 0 0) := b0.cell 2 rfl
    have q0 := b0.free 0
    have q1 := b0.free 1
    have q2 := b0.free 2
    have hq := b0.lt
    go_wp2_with fail
    obtain ⟨k1, k2, k3⟩ := Own.res (w := w) (u := .int .i64 0) (v := .int .i64 0) (x := .slice none 0 0) b0 (own_nil _ _ _) (hx0.trans hx) (by omega)
    exact bodyPost_ret (resWB (x := .bool false) rfl rfl rfl k3) rfl (RetWD.bad hd k2)
  | true =>
    obtain ⟨R, C, rfl, rfl, u1, u2, u3, u4, u5⟩ := whole_nat hv
    have hn : n = R * C := by omega
    have hd : flipD R C xs = ⟨C, R, flipT R C xs, true⟩ := by simp [flipD, hv]
    have hlt : (flipT R C xs).length = C * R := tab_length _ _ _
    have Hd := Lib.hid hd
    have Hn := Lib.hid hn
    have Hl := Lib.hid hlt
    clear hd hn hlt u5 hl
    go_enter Try.func37, Try.ntmps37
    go_wp2_with fail
    refine (l06Is_any _ R C _ A n cap xs _ ha0.c0 ha0.c1 ha0.c2 ha0.rds (by omega)).mono ?_
    rintro e w1 ⟨rfl, hx⟩
    rw [hv]
    have ha := ha0.ext hx
    clear ha0
    have b0 := blk1 hx
    have hx1 := hx0.trans hx
    clear hx hx0
    go_wp2_with fail
    refine (l06Flip_any w.heap.size R C n cap A xs _ u2 u4 Hn.out ha).mono ?_
    rintro e w2 ⟨A', c', rfl, ho, hx⟩
    replace b0 := b0.ext hx
    have y0 : w2.cell? ⟨w.heap.size + 1, 0, none⟩ = some (.int .i64 0) := b0.cell 0 rfl
    have y1 : w2.cell? ⟨w.heap.size + 1, 1, none⟩ = some (.int .i64 0) := b0.cell 1 rfl
    have y2 : w2.cell? ⟨w.heap.size + 1, 2, none⟩ = some (.slice none 0 0) := b0.cell 2 rfl
    have q0 := b0.free 0
    have q1 := b0.free 1
    have q2 := b0.free 2
    have hq := b0.lt
    go_wp2_with fail
    obtain ⟨k1, k2, k3⟩ := Own.res (w := w) (u := .int .i64 C) (v := .int .i64 R) (x := .slice A' (C * R) c') b0 (ho.base hx1.size) (hx1.trans hx) (by omega)
    refine bodyPost_ret (resWB (x := .bool true) rfl rfl rfl k3) rfl ?_
    rw [Hd.out]
    exact ⟨A', c', by rw [Hl.out], by rw [Hl.out]; exact k1, k2⟩

end Go.Proofs.Ytcfimkjkolgboaa
