import Derived.Test.YtgjfdfmbknmpaaaM8
set_option linter.unusedVariables false
set_option linter.unusedSimpArgs false
namespace Go.Proofs.Ytgjfdfmbknmpaaa
open Go.RowKit

/-- What FlipMatrix answers. -/
def flipD (r c : Int) (xs : List Nat) : MD := if isMat r c xs then ⟨c, r, wordsL (flipF r.toNat c.toNat xs), true⟩ else MD.bad
theorem mem_tab {α : Type} {C m : Nat} {F : Nat → Nat → α} {x : α} (h : x ∈ tab C F m) : ∃ j, j < m ∧ x = F (j / C) (j % C) := by
  unfold tab at h
  rw [List.mem_map] at h
  obtain ⟨j, hj, rfl⟩ := h
  exact ⟨j, by simpa using hj, rfl⟩
theorem mat_fin {r c : Int} {xs : List Nat} (h : isMat r c xs = true) : finL xs = true := by
  unfold isMat at h
  simp only [Bool.and_eq_true] at h
  exact h.2
theorem fin_rdf {xs : List Nat} (h : finL xs = true) {j : Int} (h0 : 0 ≤ j) (hj : j < xs.length) : isFin .f32 (rdf xs j) = true := by
  have hl : j.toNat < xs.length := by omega
  have e : rdf xs j = xs[j.toNat] := by simp [rdf, hl]
  rw [e]
  exact List.all_eq_true.1 h _ (List.getElem_mem hl)
/-- What is told of a list whose numbers are all finite. -/
theorem finO_c32 {x : Nat} (h : isFin .f32 x = true) : finO (c32 x) = true := by rw [finO_cf]; exact h
theorem cfs_all {ys : List Nat} {L : List (Option Nat)} (h : cfs ys = L) (hL : L.all finO = true) : ys = wordsL L := by
  rw [← h, wordsL_cfs]
  rw [← all_cfs, h]
  exact hL
theorem at_fin {R C n : Nat} {xs : List Nat} (h : finL xs = true) (hl : xs.length = n) {i k : Nat} (hi : i < R) (hk : k < C) (hR : R ≤ 12) (hC : C ≤ 12) (hn : n = R * C) : isFin .f32 (at_ xs C i k) = true := by
  obtain ⟨_, _, f3, f4, _, _, _, _⟩ := ix_facts hi hk hR hC hn
  exact fin_rdf h f3 (by omega)
theorem tab_all {C R : Nat} {F : Nat → Nat → Option Nat} (h : ∀ a b, a < R → b < C → finO (F a b) = true) : (tab C F (R * C)).all finO = true := by
  rw [List.all_eq_true]
  intro x hx
  obtain ⟨j, hj, rfl⟩ := mem_tab hx
  have hC : 0 < C := by
    rcases Nat.eq_zero_or_pos C with h0 | h0
    · subst h0; omega
    · exact h0
  exact h _ _ ((Nat.div_lt_iff_lt_mul hC).2 hj) (Nat.mod_lt _ hC)

set_option maxHeartbeats 1000000 in
theorem implFlipMatrix_any (r c : Int) (A : Option Addr) (n cap : Nat) (xs : List Nat) (w : World) (hr : Rds w A n (flts xs)) :
    Calls Try.prog 59 #[.agg #[.int .i64 r, .int .i64 c, .slice A n cap]] w (RetMD w (flipD r c xs)) := by
  have hl := hr.flen
  have hx0 : Ext w ((w.alloc (.cells #[.int .i64 r, .int .i64 c, .slice A n cap] 35)).alloc (.cells #[.int .i64 0, .int .i64 0, .slice none 0 0] 35)) := ((Ext.refl _).alloc _).alloc _
  have ha0 := (MAt.new (r := r) (c := c) (cap := cap) hr 35).ext ((Ext.refl _).alloc (.cells #[.int .i64 0, .int .i64 0, .slice none 0 0] 35))
  cases hv : isMat r c xs with
  | false =>
    have hd : flipD r c xs = MD.bad := by simp [flipD, hv]
    go_enter Try.func59, Try.ntmps59
    go_wp2_with fail
    refine (ValidMatrix_any _ _ A n cap xs _ ha0.rds).mono ?_
    rintro e w1 ⟨rfl, hx⟩
    rw [hv]
    have b0 := blk1M hx
    clear ha0
    have y0 : w1.cell? ⟨w.heap.size + 1, 0, none⟩ = some (.int .i64 0) := b0.cell 0 rfl
    have y1 : w1.cell? ⟨w.heap.size + 1, 1, none⟩ = some (.int .i64 0) := b0.cell 1 rfl
    have y2 : w1.cell? ⟨w.heap.size + 1, 2, none⟩ = some (.slice none 0 0) := b0.cell 2 rfl
    have q0 := b0.free 0
    have q1 := b0.free 1
    have q2 := b0.free 2
    have hq := b0.lt
    go_wp2_with fail
    obtain ⟨k1, k2, k3⟩ := Own.resM (w := w) (u := .int .i64 0) (v := .int .i64 0) (x := .slice none 0 0) b0 (own_nil _ w.heap.size _) (hx0.trans hx) (by omega)
    exact bodyPost_ret (resMB (x := .bool false) rfl rfl rfl k3) rfl (RetMD.bad hd k2)
  | true =>
    have hfin := mat_fin hv
    obtain ⟨R, C, rfl, rfl, u1, u2, u3, u4, u5⟩ := mat_nat hv
    have hn : n = R * C := by omega
    have hd : flipD R C xs = ⟨C, R, wordsL (flipF R C xs), true⟩ := by simp [flipD, hv]
    have hall : (flipF R C xs).all finO = true := tab_all (fun a b ha hb => finO_c32 (at_fin hfin rfl hb ha u2 u4 u5))
    have hlt : (wordsL (flipF R C xs)).length = C * R := by unfold wordsL flipF; rw [List.length_map, tab_length]
    have Hd := Lib.hid hd
    have Hn := Lib.hid hn
    have Hl := Lib.hid hlt
    have Hall := Lib.hid hall
    clear hd hn hlt u5 hl hall hfin
    go_enter Try.func59, Try.ntmps59
    go_wp2_with fail
    refine (ValidMatrix_any _ _ A n cap xs _ ha0.rds).mono ?_
    rintro e w1 ⟨rfl, hx⟩
    rw [hv]
    have b0 := blk1M hx
    obtain ⟨c0, c1, c2, hr1⟩ := ha0.ext hx
    clear ha0
    have hx1 := hx0.trans hx
    clear hx hx0
    go_wp2_with fail
    refine (flip_any R C n cap A xs _ u2 u4 Hn.out hr1).mono ?_
    rintro e w2 ⟨A', c', ys, hy, rfl, ho, hx⟩
    obtain rfl := cfs_all hy Hall.out
    replace b0 := b0.ext hx
    clear c0 c1 c2
    have y0 : w2.cell? ⟨w.heap.size + 1, 0, none⟩ = some (.int .i64 0) := b0.cell 0 rfl
    have y1 : w2.cell? ⟨w.heap.size + 1, 1, none⟩ = some (.int .i64 0) := b0.cell 1 rfl
    have y2 : w2.cell? ⟨w.heap.size + 1, 2, none⟩ = some (.slice none 0 0) := b0.cell 2 rfl
    have q0 := b0.free 0
    have q1 := b0.free 1
    have q2 := b0.free 2
    have hq := b0.lt
    go_wp2_with fail
    obtain ⟨k1, k2, k3⟩ := Own.resM (w := w) (u := .int .i64 C) (v := .int .i64 R) (x := .slice A' (C * R) c') b0 (ho.base hx1.size) (hx1.trans hx) (by omega)
    refine bodyPost_ret (resMB rfl rfl rfl k3) rfl ?_
    rw [Hd.out]
    exact ⟨A', c', by rw [Hl.out]; rfl, by rw [Hl.out]; exact k1, k2⟩
set_option maxHeartbeats 1000000 in
theorem specFlipMatrix_any (r c : Int) (A : Option Addr) (n cap : Nat) (xs : List Nat) (w : World) (hr : Rds w A n (flts xs)) :
    Calls Try.prog 58 #[.agg #[.int .i64 r, .int .i64 c, .slice A n cap]] w (RetMD w (flipD r c xs)) := by
  have hl := hr.flen
  have hx0 : Ext w ((w.alloc (.cells #[.int .i64 r, .int .i64 c, .slice A n cap] 35)).alloc (.cells #[.int .i64 0, .int .i64 0, .slice none 0 0] 35)) := ((Ext.refl _).alloc _).alloc _
  have ha0 := (MAt.new (r := r) (c := c) (cap := cap) hr 35).ext ((Ext.refl _).alloc (.cells #[.int .i64 0, .int .i64 0, .slice none 0 0] 35))
  cases hv : isMat r c xs with
  | false =>
    have hd : flipD r c xs = MD.bad := by simp [flipD, hv]
    go_enter Try.func58, Try.ntmps58
    go_wp2_with fail
    refine (l02Is_any _ _ _ A n cap xs _ ha0).mono ?_
    rintro e w1 ⟨rfl, hx⟩
    rw [hv]
    have b0 := blk1M hx
    clear ha0
    have y0 : w1.cell? ⟨w.heap.size + 1, 0, none⟩ = some (.int .i64 0) := b0.cell 0 rfl
    have y1 : w1.cell? ⟨w.heap.size + 1, 1, none⟩ = some (.int .i64 0) := b0.cell 1 rfl
    have y2 : w1.cell? ⟨w.heap.size + 1, 2, none⟩ = some (.slice none 0 0) := b0.cell 2 rfl
    have q0 := b0.free 0
    have q1 := b0.free 1
    have q2 := b0.free 2
    have hq := b0.lt
    go_wp2_with fail
    obtain ⟨k1, k2, k3⟩ := Own.resM (w := w) (u := .int .i64 0) (v := .int .i64 0) (x := .slice none 0 0) b0 (own_nil _ w.heap.size _) (hx0.trans hx) (by omega)
    exact bodyPost_ret (resMB (x := .bool false) rfl rfl rfl k3) rfl (RetMD.bad hd k2)
  | true =>
    have hfin := mat_fin hv
    obtain ⟨R, C, rfl, rfl, u1, u2, u3, u4, u5⟩ := mat_nat hv
    have hn : n = R * C := by omega
    have hd : flipD R C xs = ⟨C, R, wordsL (flipF R C xs), true⟩ := by simp [flipD, hv]
    have hall : (flipF R C xs).all finO = true := tab_all (fun a b ha hb => finO_c32 (at_fin hfin rfl hb ha u2 u4 u5))
    have hlt : (wordsL (flipF R C xs)).length = C * R := by unfold wordsL flipF; rw [List.length_map, tab_length]
    have Hd := Lib.hid hd
    have Hn := Lib.hid hn
    have Hl := Lib.hid hlt
    have Hall := Lib.hid hall
    clear hd hn hlt u5 hl hall hfin
    go_enter Try.func58, Try.ntmps58
    go_wp2_with fail
    refine (l02Is_any _ _ _ A n cap xs _ ha0).mono ?_
    rintro e w1 ⟨rfl, hx⟩
    rw [hv]
    have b0 := blk1M hx
    obtain ⟨c0, c1, c2, hr1⟩ := ha0.ext hx
    clear ha0
    have hx1 := hx0.trans hx
    clear hx hx0
    go_wp2_with fail
    refine (l02Flip_any w.heap.size R C n cap A xs _ u2 u4 Hn.out ⟨c0,c1,c2,hr1⟩).mono ?_
    rintro e w2 ⟨A', c', ys, hy, rfl, ho, hx⟩
    obtain rfl := cfs_all hy Hall.out
    replace b0 := b0.ext hx
    clear c0 c1 c2
    have y0 : w2.cell? ⟨w.heap.size + 1, 0, none⟩ = some (.int .i64 0) := b0.cell 0 rfl
    have y1 : w2.cell? ⟨w.heap.size + 1, 1, none⟩ = some (.int .i64 0) := b0.cell 1 rfl
    have y2 : w2.cell? ⟨w.heap.size + 1, 2, none⟩ = some (.slice none 0 0) := b0.cell 2 rfl
    have q0 := b0.free 0
    have q1 := b0.free 1
    have q2 := b0.free 2
    have hq := b0.lt
    go_wp2_with fail
    obtain ⟨k1, k2, k3⟩ := Own.resM (w := w) (u := .int .i64 C) (v := .int .i64 R) (x := .slice A' (C * R) c') b0 (ho.base hx1.size) (hx1.trans hx) (by omega)
    refine bodyPost_ret (resMB rfl rfl rfl k3) rfl ?_
    rw [Hd.out]
    exact ⟨A', c', by rw [Hl.out]; rfl, by rw [Hl.out]; exact k1, k2⟩

end Go.Proofs.Ytgjfdfmbknmpaaa
