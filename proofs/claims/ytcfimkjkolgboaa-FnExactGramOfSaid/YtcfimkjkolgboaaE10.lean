import Derived.Test.YtcfimkjkolgboaaE9
set_option linter.unusedVariables false
set_option linter.unusedSimpArgs false
namespace Go.Proofs.Ytcfimkjkolgboaa
open Go.RowKit

theorem tab_mem {C m : Nat} {F : Nat → Nat → Int} {x : Int} (h : x ∈ tab C F m) : ∃ j, j < m ∧ x = F (j / C) (j % C) := by
  unfold tab at h
  rw [List.mem_map] at h
  obtain ⟨j, hj, rfl⟩ := h
  exact ⟨j, by simpa using hj, rfl⟩
theorem flip_valid {R C : Nat} {xs : List Int} {most : Int} (h : isWholeB R C xs most = true) : isWholeB C R (flipT R C xs) most = true := by
  obtain ⟨h1, h2, h3, h4⟩ := isWholeB_all h
  have hl : xs.length = R * C := by
    have : ((R : Int) * (C : Int)) = ((R * C : Nat) : Int) := by simp
    omega
  unfold isWholeB
  simp only [Bool.and_eq_true, decide_eq_true_eq]
  refine ⟨⟨⟨inR_iff.2 h2, inR_iff.2 h1⟩, ?_⟩, ?_⟩
  · unfold flipT
    rw [tab_length]
    simp
  · rw [List.all_eq_true]
    intro x hx
    obtain ⟨j, hj, rfl⟩ := tab_mem hx
    have hR : 0 < R := by omega
    have ha : j / R < C := (Nat.div_lt_iff_lt_mul hR).2 hj
    have hb : j % R < R := Nat.mod_lt _ hR
    obtain ⟨_, _, f3, f4, _, f6, _, _⟩ := ix_facts hb ha (by omega) (by omega) hl
    have := allR h4 (k := j % R * C + j / R) (by omega)
    rw [inR_iff]
    unfold at_
    have e : (((j % R : Nat) : Int) * C + (j / R : Nat)) = ((j % R * C + j / R : Nat) : Int) := by simp
    rw [e]
    exact this

/-- What GramOf answers. -/
def gramD (r c : Int) (xs : List Int) : WD := if isWholeB r c xs 1000000 then giveD r r (mulT r.toNat c.toNat r.toNat xs (flipT r.toNat c.toNat xs)) else WD.bad

set_option maxHeartbeats 2000000 in
theorem implGramOf_any (r c : Int) (A : Option Addr) (n cap : Nat) (xs : List Int) (w : World) (hr : Rds w A n (ints xs)) :
    Calls Try.prog 53 #[.agg #[.int .i64 r, .int .i64 c, .slice A n cap]] w (RetWD w (gramD r c xs)) := by
  have hl := hr.ilen
  have hx0 : Ext w ((w.alloc (.cells #[.int .i64 r, .int .i64 c, .slice A n cap] 31)).alloc (.cells #[.int .i64 0, .int .i64 0, .slice none 0 0] 31)) := ((Ext.refl _).alloc _).alloc _
  have ha0 := (WAt.new (r := r) (c := c) (cap := cap) hr 31).ext ((Ext.refl _).alloc (.cells #[.int .i64 0, .int .i64 0, .slice none 0 0] 31))
  cases hv : isWholeB r c xs 1000000 with
  | false =>
    have hd : gramD r c xs = WD.bad := by simp [gramD, hv]
    go_enter Try.func53, Try.ntmps53
    go_wp2_with fail
    refine (implValidWhole_any r c A n cap xs _ ha0.rds).mono ?_
    rintro e w1 ⟨rfl, hx⟩
    rw [hv]
    clear ha0
    have b0 := blk1 hx
    have y0 : w1.cell? ⟨w.heap.size + 1, 0, none⟩ = some (.int .i64 0) := b0.cell 0 rfl
    have y1 : w1.cell? ⟨w.heap.size + 1, 1, none⟩ = some (.int .i64 0) := b0.cell 1 rfl
    have y2 : w1.cell? ⟨w.heap.size + 1, 2, none⟩ = some (.slice none 0 0) := b0.cell 2 rfl
    have q0 := b0.free 0
    have q1 := b0.free 1
    have q2 := b0.free 2
    have hq := b0.lt
    go_wp2_with fail
    obtain ⟨k1, k2, k3⟩ := Own.res (w := w) (u := .int .i64 0) (v := .int .i64 0) (x := .slice none 0 0) b0 (own_nil _ _ _) (hx0.trans hx) (by omega)
    exact bodyPost_ret (resWB (x := .bool false) rfl rfl rfl k3) rfl (RetWD.bad hd k2)
  | true =>
    obtain ⟨R, C, rfl, rfl, u1, u2, u3, u4, u5⟩ := whole_nat hv
    have hn : n = R * C := by omega
    obtain ⟨d, hd⟩ : ∃ d, d = gramD R C xs := ⟨_, rfl⟩
    rw [← hd]
    have hf : flipD R C xs = ⟨C, R, flipT R C xs, true⟩ := by simp [flipD, hv]
    have hm : mulD R C C R xs (flipT R C xs) = d := by rw [hd]; simp [mulD, gramD, hv, flip_valid hv]
    have Hf := Lib.hid hf
    have Hm := Lib.hid hm
    clear hn u5 hl hd hf hm
    go_enter Try.func53, Try.ntmps53
    go_wp2_with fail
    refine (implValidWhole_any R C A n cap xs _ ha0.rds).mono ?_
    rintro e w1 ⟨rfl, hx⟩
    rw [hv]
    have b0 := blk1 hx
    obtain ⟨c0, c1, c2, hr1⟩ := ha0.ext hx
    clear ha0
    have hx1 := hx0.trans hx
    clear hx hx0
    go_wp2_with fail
    refine (implFlipWhole_any R C A n cap xs _ hr1).mono ?_
    rw [Hf.out]
    rintro e w2 ⟨A', k', he, ho, hx⟩
    dsimp only at he ho
    subst he
    have hsz := hx1.size
    replace c0 := hx.cell c0
    replace c1 := hx.cell c1
    replace c2 := hx.cell c2
    have hq2 : w.heap.size < w2.heap.size := World.block_lt_of_cell? _ _ c0
    replace hr1 := hr1.below hx
    replace b0 := b0.ext hx
    replace hx1 := hx1.trans hx
    clear hx
    go_wp2_with fail
    have hx2 : Ext w2 (w2.alloc (.cells #[.int .i64 C, .int .i64 R, .slice A' (flipT R C xs).length k'] 31)) := (Ext.refl _).alloc _
    refine (implMulWholes_any R C A n cap C R A' (flipT R C xs).length k' xs (flipT R C xs) _ (hr1.below hx2) (ho.reads.below hx2)).mono ?_
    rw [Hm.out]
    rintro e w3 ⟨A2, k2, rfl, ho2, hx⟩
    have b1 := (b0.ext hx2).ext hx
    have hx3 := hx1.trans (hx2.trans hx)
    have y0 : w3.cell? ⟨w.heap.size + 1, 0, none⟩ = some (.int .i64 0) := b1.cell 0 rfl
    have y1 : w3.cell? ⟨w.heap.size + 1, 1, none⟩ = some (.int .i64 0) := b1.cell 1 rfl
    have y2 : w3.cell? ⟨w.heap.size + 1, 2, none⟩ = some (.slice none 0 0) := b1.cell 2 rfl
    have q0 := b1.free 0
    have q1 := b1.free 1
    have q2 := b1.free 2
    have hq := b1.lt
    go_wp2_with fail
    obtain ⟨k1, k2', k3⟩ := Own.res (w := w) (u := .int .i64 d.r) (v := .int .i64 d.c) (x := .slice A2 d.xs.length k2) b1 (ho2.base (hx1.trans hx2).size) hx3 (by omega)
    exact bodyPost_ret (resWB (x := .bool d.ok) rfl rfl rfl k3) rfl ⟨A2, k2, rfl, k1, k2'⟩

set_option maxHeartbeats 2000000 in
theorem specGramOf_any (r c : Int) (A : Option Addr) (n cap : Nat) (xs : List Int) (w : World) (hr : Rds w A n (ints xs)) :
    Calls Try.prog 52 #[.agg #[.int .i64 r, .int .i64 c, .slice A n cap]] w (RetWD w (gramD r c xs)) := by
  have hl := hr.ilen
  have hx0 : Ext w ((w.alloc (.cells #[.int .i64 r, .int .i64 c, .slice A n cap] 31)).alloc (.cells #[.int .i64 0, .int .i64 0, .slice none 0 0] 31)) := ((Ext.refl _).alloc _).alloc _
  have ha0 := (WAt.new (r := r) (c := c) (cap := cap) hr 31).ext ((Ext.refl _).alloc (.cells #[.int .i64 0, .int .i64 0, .slice none 0 0] 31))
  cases hv : isWholeB r c xs 1000000 with
  | false =>
    have hd : gramD r c xs = WD.bad := by simp [gramD, hv]
    go_enter Try.func52, Try.ntmps52
    go_wp2_with fail
    refine (l06Is_any _ r c _ A n cap xs _ ha0.c0 ha0.c1 ha0.c2 ha0.rds (by omega)).mono ?_
    rintro e w1 ⟨rfl, hx⟩
    rw [hv]
    clear ha0
    have b0 := blk1 hx
    have y0 : w1.cell? ⟨w.heap.size + 1, 0, none⟩ = some (.int .i64 0) := b0.cell 0 rfl
    have y1 : w1.cell? ⟨w.heap.size + 1, 1, none⟩ = some (.int .i64 0) := b0.cell 1 rfl
    have y2 : w1.cell? ⟨w.heap.size + 1, 2, none⟩ = some (.slice none 0 0) := b0.cell 2 rfl
    have q0 := b0.free 0
    have q1 := b0.free 1
    have q2 := b0.free 2
    have hq := b0.lt
    go_wp2_with fail
    obtain ⟨k1, k2, k3⟩ := Own.res (w := w) (u := .int .i64 0) (v := .int .i64 0) (x := .slice none 0 0) b0 (own_nil _ _ _) (hx0.trans hx) (by omega)
    exact bodyPost_ret (resWB (x := .bool false) rfl rfl rfl k3) rfl (RetWD.bad hd k2)
  | true =>
    obtain ⟨R, C, rfl, rfl, u1, u2, u3, u4, u5⟩ := whole_nat hv
    have hn : n = R * C := by omega
    have hd : gramD R C xs = giveD R R (mulT R C R xs (flipT R C xs)) := by simp [gramD, hv]
    obtain ⟨d, hdd⟩ : ∃ d, d = giveD R R (mulT R C R xs (flipT R C xs)) := ⟨_, rfl⟩
    rw [hd, ← hdd]
    have Hn := Lib.hid hn
    have Hd := Lib.hid hdd
    clear hn u5 hl hd hdd
    go_enter Try.func52, Try.ntmps52
    go_wp2_with fail
    refine (l06Is_any _ R C _ A n cap xs _ ha0.c0 ha0.c1 ha0.c2 ha0.rds (by omega)).mono ?_
    rintro e w1 ⟨rfl, hx⟩
    rw [hv]
    have b0 := blk1 hx
    have ha := ha0.ext hx
    clear ha0
    have hx1 := hx0.trans hx
    clear hx hx0
    go_wp2_with fail
    refine (l06Flip_any w.heap.size R C n cap A xs _ u2 u4 Hn.out ha).mono ?_
    rintro e w2 ⟨A', k', rfl, ho, hx⟩
    have hsz := hx1.size
    replace ha := ha.ext hx
    replace b0 := b0.ext hx
    replace hx1 := hx1.trans hx
    clear hx
    go_wp2_with fail
    have hx2 : Ext w2 (w2.alloc (.cells #[.int .i64 C, .int .i64 R, .slice A' (C * R) k'] 31)) := (Ext.refl _).alloc _
    refine (l06Mul_any w.heap.size w2.heap.size R C R n (C * R) cap k' A A' xs (flipT R C xs) _ u2 u4 u2 Hn.out rfl (ha.ext hx2) (WAt.new ho.reads _)).mono ?_
    rintro e w3 ⟨A2, k2, rfl, ho2, hx⟩
    have b1 := (b0.ext hx2).ext hx
    have hx3 := hx1.trans (hx2.trans hx)
    have hsz2 := (hx1.trans hx2).size
    clear hx hx2 ho b0 ha
    go_wp2_with fail
    refine (l06Give_any w.heap.size R R A2 (R * R) k2 _ _ (ho2.base hsz2) hx3.size).mono ?_
    rw [← Hd.out]
    rintro e w4 ⟨A3, k3', rfl, ho3, hx⟩
    replace b1 := b1.ext hx
    have y0 : w4.cell? ⟨w.heap.size + 1, 0, none⟩ = some (.int .i64 0) := b1.cell 0 rfl
    have y1 : w4.cell? ⟨w.heap.size + 1, 1, none⟩ = some (.int .i64 0) := b1.cell 1 rfl
    have y2 : w4.cell? ⟨w.heap.size + 1, 2, none⟩ = some (.slice none 0 0) := b1.cell 2 rfl
    have q0 := b1.free 0
    have q1 := b1.free 1
    have q2 := b1.free 2
    have hq := b1.lt
    go_wp2_with fail
    obtain ⟨k1, k2', k3⟩ := Own.res (w := w) (u := .int .i64 d.r) (v := .int .i64 d.c) (x := .slice A3 d.xs.length k3') b1 ho3 (hx3.trans hx) (by omega)
    exact bodyPost_ret (resWB (x := .bool d.ok) rfl rfl rfl k3) rfl ⟨A3, k3', rfl, k1, k2'⟩

end Go.Proofs.Ytcfimkjkolgboaa
