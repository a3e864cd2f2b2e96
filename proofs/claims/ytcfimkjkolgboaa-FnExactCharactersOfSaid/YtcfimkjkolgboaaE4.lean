import Derived.Test.YtcfimkjkolgboaaE3
set_option linter.unusedVariables false
set_option linter.unusedSimpArgs false
namespace Go.Proofs.Ytcfimkjkolgboaa
open Go.RowKit

/-- A sum of i64. -/
def sumW (f : Nat → Int) : Nat → Int
  | 0 => 0
  | m + 1 => IntKind.i64.wrap (sumW f m + IntKind.i64.wrap (f m))

def mulS (xs ys : List Int) (K C i k : Nat) : Int := sumW (fun j => at_ xs K i j * at_ ys C j k) K
def mulT (R K C : Nat) (xs ys : List Int) : List Int := tab C (mulS xs ys K C) (R * C)
/-- A Whole, if it is valid. -/
def giveD (r c : Int) (xs : List Int) : WD := if isWholeB r c xs 1000000 then ⟨r, c, xs, true⟩ else WD.bad
/-- What MulWholes answers. -/
def mulD (r c r' c' : Int) (xs ys : List Int) : WD := if isWholeB r c xs 1000000 && isWholeB r' c' ys 1000000 && decide (c = r') then giveD r c' (mulT r.toNat c.toNat c'.toNat xs ys) else WD.bad

def RetWB (w : World) (base : Nat) (d : WD) (e : Ending) (w' : World) : Prop := ∃ A k, e = .returned (.tuple #[.agg #[.int .i64 d.r, .int .i64 d.c, .slice A d.xs.length k], .bool d.ok]) ∧ Own w' base 2 (.slice A d.xs.length k) (ints d.xs) ∧ Ext w w'

set_option maxHeartbeats 1000000 in
theorem l06Give_any (base : Nat) (r c : Int) (A : Option Addr) (n cap : Nat) (xs : List Int) (w : World) (ho : Own w base 2 (.slice A n cap) (ints xs)) (hb : base ≤ w.heap.size) :
    Calls Try.prog 88 #[.agg #[.int .i64 r, .int .i64 c, .slice A n cap]] w (RetWB w base (giveD r c xs)) := by
  have hl := ho.reads.ilen
  have hx0 : Ext w ((w.alloc (.cells #[.int .i64 r, .int .i64 c, .slice A n cap] 31)).alloc (.cells #[.int .i64 0, .int .i64 0, .slice none 0 0] 31)) := ((Ext.refl _).alloc _).alloc _
  have ha0 := (WAt.new (r := r) (c := c) (cap := cap) ho.reads 31).ext ((Ext.refl _).alloc (.cells #[.int .i64 0, .int .i64 0, .slice none 0 0] 31))
  cases hv : isWholeB r c xs 1000000 with
  | false =>
    have hd : giveD r c xs = WD.bad := by simp [giveD, hv]
    go_enter Try.func88, Try.ntmps88
    go_wp2_with fail
    refine (l06Is_any _ r c _ A n cap xs _ ha0.c0 ha0.c1 ha0.c2 ha0.rds (by omega)).mono ?_
    rintro e w1 ⟨rfl, hx⟩
    rw [hv]
    have b0 : Blk w1 (w.heap.size + 1) #[.int .i64 0, .int .i64 0, .slice none 0 0] 31 := Blk.ext (by simpa using Blk.new (w.alloc (.cells #[.int .i64 r, .int .i64 c, .slice A n cap] 31)) _ _) hx
    clear ha0
    have y0 : w1.cell? ⟨w.heap.size + 1, 0, none⟩ = some (.int .i64 0) := b0.cell 0 rfl
    have y1 : w1.cell? ⟨w.heap.size + 1, 1, none⟩ = some (.int .i64 0) := b0.cell 1 rfl
    have y2 : w1.cell? ⟨w.heap.size + 1, 2, none⟩ = some (.slice none 0 0) := b0.cell 2 rfl
    have q0 := b0.free 0
    have q1 := b0.free 1
    have q2 := b0.free 2
    have hq := b0.lt
    go_wp2_with fail
    obtain ⟨k1, k2, k3⟩ := Own.res (w := w) (u := .int .i64 0) (v := .int .i64 0) (x := .slice none 0 0) b0 (own_nil _ _ _) (hx0.trans hx) (by omega)
    rw [hd]
    exact bodyPost_ret (resWB (x := .bool false) rfl rfl rfl k3) rfl ⟨none, 0, rfl, own_nil _ _ _, k2⟩
  | true =>
    have hd : giveD r c xs = ⟨r, c, xs, true⟩ := by simp [giveD, hv]
    go_enter Try.func88, Try.ntmps88
    go_wp2_with fail
    refine (l06Is_any _ r c _ A n cap xs _ ha0.c0 ha0.c1 ha0.c2 ha0.rds (by omega)).mono ?_
    rintro e w1 ⟨rfl, hx⟩
    rw [hv]
    have b0 : Blk w1 (w.heap.size + 1) #[.int .i64 0, .int .i64 0, .slice none 0 0] 31 := Blk.ext (by simpa using Blk.new (w.alloc (.cells #[.int .i64 r, .int .i64 c, .slice A n cap] 31)) _ _) hx
    obtain ⟨c0, c1, c2, _⟩ := ha0.ext hx
    clear ha0
    have y0 : w1.cell? ⟨w.heap.size + 1, 0, none⟩ = some (.int .i64 0) := b0.cell 0 rfl
    have y1 : w1.cell? ⟨w.heap.size + 1, 1, none⟩ = some (.int .i64 0) := b0.cell 1 rfl
    have y2 : w1.cell? ⟨w.heap.size + 1, 2, none⟩ = some (.slice none 0 0) := b0.cell 2 rfl
    have q0 := b0.free 0
    have q1 := b0.free 1
    have q2 := b0.free 2
    have hq := b0.lt
    go_wp2_with fail
    obtain ⟨k1, k2, k3⟩ := Own.res (w := w) (u := .int .i64 r) (v := .int .i64 c) (x := .slice A n cap) (r := .slice none 0 0) (vs := []) b0 (own_nil _ _ _) (hx0.trans hx) (by omega)
    rw [hd]
    have ow := ho.ext (hx0.trans hx)
    exact bodyPost_ret (resWB (x := .bool true) rfl rfl rfl k3) rfl ⟨A, cap, by simp only [hl], by simp only [hl]; exact ((ow.setBlk b0 (by decide) _ _).setBlk (b0.set _ _) (by decide) _ _).setBlk ((b0.set _ _).set _ _) (by decide) _ _, k2⟩

set_option maxHeartbeats 1000000 in
theorem valid_any (base : Nat) (r c : Int) (A : Option Addr) (n cap : Nat) (xs : List Int) (w : World) (ho : Own w base 2 (.slice A n cap) (ints xs)) (hb : base ≤ w.heap.size) :
    Calls Try.prog 91 #[.agg #[.int .i64 r, .int .i64 c, .slice A n cap]] w (RetWB w base (giveD r c xs)) := by
  have hl := ho.reads.ilen
  have hx0 : Ext w ((w.alloc (.cells #[.int .i64 r, .int .i64 c, .slice A n cap] 31)).alloc (.cells #[.int .i64 0, .int .i64 0, .slice none 0 0] 31)) := ((Ext.refl _).alloc _).alloc _
  have ha0 := (WAt.new (r := r) (c := c) (cap := cap) ho.reads 31).ext ((Ext.refl _).alloc (.cells #[.int .i64 0, .int .i64 0, .slice none 0 0] 31))
  cases hv : isWholeB r c xs 1000000 with
  | false =>
    have hd : giveD r c xs = WD.bad := by simp [giveD, hv]
    go_enter Try.func91, Try.ntmps91
    go_wp2_with fail
    refine (implValidWhole_any r c A n cap xs _ ha0.rds).mono ?_
    rintro e w1 ⟨rfl, hx⟩
    rw [hv]
    have b0 : Blk w1 (w.heap.size + 1) #[.int .i64 0, .int .i64 0, .slice none 0 0] 31 := Blk.ext (by simpa using Blk.new (w.alloc (.cells #[.int .i64 r, .int .i64 c, .slice A n cap] 31)) _ _) hx
    clear ha0
    have y0 : w1.cell? ⟨w.heap.size + 1, 0, none⟩ = some (.int .i64 0) := b0.cell 0 rfl
    have y1 : w1.cell? ⟨w.heap.size + 1, 1, none⟩ = some (.int .i64 0) := b0.cell 1 rfl
    have y2 : w1.cell? ⟨w.heap.size + 1, 2, none⟩ = some (.slice none 0 0) := b0.cell 2 rfl
    have q0 := b0.free 0
    have q1 := b0.free 1
    have q2 := b0.free 2
    have hq := b0.lt
    go_wp2_with fail
    obtain ⟨k1, k2, k3⟩ := Own.res (w := w) (u := .int .i64 0) (v := .int .i64 0) (x := .slice none 0 0) b0 (own_nil _ _ _) (hx0.trans hx) (by omega)
    rw [hd]
    exact bodyPost_ret (resWB (x := .bool false) rfl rfl rfl k3) rfl ⟨none, 0, rfl, own_nil _ _ _, k2⟩
  | true =>
    have hd : giveD r c xs = ⟨r, c, xs, true⟩ := by simp [giveD, hv]
    go_enter Try.func91, Try.ntmps91
    go_wp2_with fail
    refine (implValidWhole_any r c A n cap xs _ ha0.rds).mono ?_
    rintro e w1 ⟨rfl, hx⟩
    rw [hv]
    have b0 : Blk w1 (w.heap.size + 1) #[.int .i64 0, .int .i64 0, .slice none 0 0] 31 := Blk.ext (by simpa using Blk.new (w.alloc (.cells #[.int .i64 r, .int .i64 c, .slice A n cap] 31)) _ _) hx
    obtain ⟨c0, c1, c2, _⟩ := ha0.ext hx
    clear ha0
    have y0 : w1.cell? ⟨w.heap.size + 1, 0, none⟩ = some (.int .i64 0) := b0.cell 0 rfl
    have y1 : w1.cell? ⟨w.heap.size + 1, 1, none⟩ = some (.int .i64 0) := b0.cell 1 rfl
    have y2 : w1.cell? ⟨w.heap.size + 1, 2, none⟩ = some (.slice none 0 0) := b0.cell 2 rfl
    have q0 := b0.free 0
    have q1 := b0.free 1
    have q2 := b0.free 2
    have hq := b0.lt
    go_wp2_with fail
    obtain ⟨k1, k2, k3⟩ := Own.res (w := w) (u := .int .i64 r) (v := .int .i64 c) (x := .slice A n cap) (r := .slice none 0 0) (vs := []) b0 (own_nil _ _ _) (hx0.trans hx) (by omega)
    rw [hd]
    have ow := ho.ext (hx0.trans hx)
    exact bodyPost_ret (resWB (x := .bool true) rfl rfl rfl k3) rfl ⟨A, cap, by simp only [hl], by simp only [hl]; exact ((ow.setBlk b0 (by decide) _ _).setBlk (b0.set _ _) (by decide) _ _).setBlk ((b0.set _ _).set _ _) (by decide) _ _, k2⟩

end Go.Proofs.Ytcfimkjkolgboaa
