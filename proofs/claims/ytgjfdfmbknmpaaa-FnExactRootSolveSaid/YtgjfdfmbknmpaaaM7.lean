import Derived.Test.YtgjfdfmbknmpaaaM6
set_option linter.unusedVariables false
set_option linter.unusedSimpArgs false
namespace Go.Proofs.Ytgjfdfmbknmpaaa
open Go.RowKit

/-- The test of a matrix by its numbers. -/
def isMatO (r c : Int) (L : List (Option Nat)) : Bool := inR 1 r 12 && inR 1 c 12 && decide ((L.length : Int) = r * c) && L.all finO
theorem all_cfs (ys : List Nat) : (cfs ys).all finO = finL ys := by
  unfold cfs finL
  rw [List.all_map]
  congr 1
  funext x
  exact finO_cf x
theorem isMatO_cfs (r c : Int) (ys : List Nat) : isMatO r c (cfs ys) = isMat r c ys := by
  unfold isMatO isMat
  rw [all_cfs, cfs_length]
def wordsL (L : List (Option Nat)) : List Nat := L.map (·.getD 0)
theorem wordsL_cfs {ys : List Nat} (h : finL ys = true) : wordsL (cfs ys) = ys := by
  unfold wordsL cfs
  rw [List.map_map]
  conv => rhs; rw [← List.map_id ys]
  apply List.map_congr_left
  intro x hx
  have := List.all_eq_true.1 h x hx
  simp [isFin_c32 this]
/-- A matrix, if it is valid. -/
def giveM (r c : Int) (L : List (Option Nat)) : MD := if isMatO r c L then ⟨r, c, wordsL L, true⟩ else MD.bad
theorem giveM_cfs (r c : Int) (ys : List Nat) : giveM r c (cfs ys) = if isMat r c ys then ⟨r, c, ys, true⟩ else MD.bad := by
  unfold giveM
  rw [isMatO_cfs]
  cases h : isMat r c ys with
  | false => rfl
  | true =>
    have : finL ys = true := by
      unfold isMat at h
      simp only [Bool.and_eq_true] at h
      exact h.2
    rw [wordsL_cfs this]
/-- A list, if all is finite. -/
def giveL (L : List (Option Nat)) : List Nat × Bool := if L.all finO then (wordsL L, true) else ([], false)
theorem giveL_cfs (ys : List Nat) : giveL (cfs ys) = if finL ys then (ys, true) else ([], false) := by
  unfold giveL
  rw [all_cfs]
  cases h : finL ys with
  | false => rfl
  | true => rw [wordsL_cfs h]
def RetLDb (w : World) (base : Nat) (d : List Nat × Bool) (e : Ending) (w' : World) : Prop := ∃ A k, e = .returned (.tuple #[.slice A d.1.length k, .bool d.2]) ∧ Own w' base 39 (.slice A d.1.length k) (flts d.1) ∧ Ext w w'

theorem blkN {w w0 w1 : World} {cs : Array Value} {T : TypeId} (hx : Ext (w0.alloc (.cells cs T)) w1) (hb : w0.heap.size = w.heap.size) : Blk w1 w.heap.size cs T := by rw [← hb]; exact (Blk.new w0 _ _).ext hx
theorem blk1M {w w1 : World} {cs : Array Value} {T : TypeId} {z : Array Value} {Z : TypeId} (hx : Ext ((w.alloc (.cells cs T)).alloc (.cells z Z)) w1) : Blk w1 (w.heap.size + 1) z Z := Blk.ext (by simpa using Blk.new (w.alloc (.cells cs T)) z Z) hx
theorem blk2M {w w1 : World} {cs cs' : Array Value} {T T' : TypeId} {z : Array Value} {Z : TypeId} (hx : Ext (((w.alloc (.cells cs T)).alloc (.cells cs' T')).alloc (.cells z Z)) w1) : Blk w1 (w.heap.size + 1 + 1) z Z := Blk.ext (by simpa using Blk.new ((w.alloc (.cells cs T)).alloc (.cells cs' T')) z Z) hx
theorem MAt.nd {w : World} {r c : Int} {A : Option Addr} {n cap : Nat} {xs : List Nat} (h : Rds w A n (flts xs)) (T : TypeId) (cs : Array Value) (T' : TypeId) : MAt ((w.alloc (.cells cs T')).alloc (.cells #[.int .i64 r, .int .i64 c, .slice A n cap] T)) (w.heap.size + 1) r c A n cap xs := by
  have := MAt.new (r := r) (c := c) (cap := cap) (h.below ((Ext.refl w).alloc (.cells cs T'))) T
  simpa using this

set_option maxHeartbeats 1000000 in
theorem l02Give_any (base : Nat) (r c : Int) (A : Option Addr) (n cap : Nat) (ys : List Nat) (w : World) (ho : Own w base 39 (.slice A n cap) (flts ys)) (hb : base ≤ w.heap.size) :
    Calls Try.prog 128 #[.agg #[.int .i64 r, .int .i64 c, .slice A n cap]] w (RetMDb w base (giveM r c (cfs ys))) := by
  have hl := ho.reads.flen
  have hx0 : Ext w ((w.alloc (.cells #[.int .i64 r, .int .i64 c, .slice A n cap] 35)).alloc (.cells #[.int .i64 0, .int .i64 0, .slice none 0 0] 35)) := ((Ext.refl _).alloc _).alloc _
  have ha0 := (MAt.new (r := r) (c := c) (cap := cap) ho.reads 35).ext ((Ext.refl _).alloc (.cells #[.int .i64 0, .int .i64 0, .slice none 0 0] 35))
  rw [giveM_cfs]
  cases hv : isMat r c ys with
  | false =>
    have hd : (if false = true then (⟨r, c, ys, true⟩ : MD) else MD.bad) = MD.bad := rfl
    go_enter Try.func128, Try.ntmps128
    go_wp2_with fail
    refine (l02Is_any _ r c A n cap ys _ ha0).mono ?_
    rintro e w1 ⟨rfl, hx⟩
    rw [hv]
    have b0 := blk1M hx
    clear ha0
    have y0 : w1.cell? ⟨w.heap.size + 1, 0, none⟩ = some (.int .i64 0) := b0.cell 0 rfl
    have y1 : w1.cell? ⟨w.heap.size + 1, 1, none⟩ = some (.int .i64 0) := b0.cell 1 rfl
    have y2 : w1.cell? ⟨w.heap.size + 1, 2, none⟩ = some (.slice none 0 0) := b0.cell 2 rfl
    have q0 := b0.free 0
    have q1 := b0.free 1
    have q2 := b0.free 2
    have hq := b0.lt
    go_wp2_with fail
    obtain ⟨k1, k2, k3⟩ := Own.resM (w := w) (u := .int .i64 0) (v := .int .i64 0) (x := .slice none 0 0) b0 (own_nil _ w.heap.size _) (hx0.trans hx) (by omega)
    exact bodyPost_ret (resMB (x := .bool false) rfl rfl rfl k3) rfl (RetMD.bad hd k2)
  | true =>
    rw [if_pos rfl]
    go_enter Try.func128, Try.ntmps128
    go_wp2_with fail
    refine (l02Is_any _ r c A n cap ys _ ha0).mono ?_
    rintro e w1 ⟨rfl, hx⟩
    rw [hv]
    have b0 := blk1M hx
    obtain ⟨c0, c1, c2, _⟩ := ha0.ext hx
    clear ha0
    have y0 : w1.cell? ⟨w.heap.size + 1, 0, none⟩ = some (.int .i64 0) := b0.cell 0 rfl
    have y1 : w1.cell? ⟨w.heap.size + 1, 1, none⟩ = some (.int .i64 0) := b0.cell 1 rfl
    have y2 : w1.cell? ⟨w.heap.size + 1, 2, none⟩ = some (.slice none 0 0) := b0.cell 2 rfl
    have q0 := b0.free 0
    have q1 := b0.free 1
    have q2 := b0.free 2
    have hq := b0.lt
    go_wp2_with fail
    have ow := ho.ext (hx0.trans hx)
    obtain ⟨k1, k2, k3⟩ := Own.resM (w := w) (u := .int .i64 r) (v := .int .i64 c) (x := .slice A n cap) b0 ow (hx0.trans hx) (by omega)
    exact bodyPost_ret (resMB (x := .bool true) rfl rfl rfl k3) rfl ⟨A, cap, by simp only [hl], by simp only [hl]; exact k1, k2⟩
set_option maxHeartbeats 1000000 in
theorem valid_any (base : Nat) (r c : Int) (A : Option Addr) (n cap : Nat) (ys : List Nat) (w : World) (ho : Own w base 39 (.slice A n cap) (flts ys)) (hb : base ≤ w.heap.size) :
    Calls Try.prog 131 #[.agg #[.int .i64 r, .int .i64 c, .slice A n cap]] w (RetMDb w base (giveM r c (cfs ys))) := by
  have hl := ho.reads.flen
  have hx0 : Ext w ((w.alloc (.cells #[.int .i64 r, .int .i64 c, .slice A n cap] 35)).alloc (.cells #[.int .i64 0, .int .i64 0, .slice none 0 0] 35)) := ((Ext.refl _).alloc _).alloc _
  have ha0 := (MAt.new (r := r) (c := c) (cap := cap) ho.reads 35).ext ((Ext.refl _).alloc (.cells #[.int .i64 0, .int .i64 0, .slice none 0 0] 35))
  rw [giveM_cfs]
  cases hv : isMat r c ys with
  | false =>
    have hd : (if false = true then (⟨r, c, ys, true⟩ : MD) else MD.bad) = MD.bad := rfl
    go_enter Try.func131, Try.ntmps131
    go_wp2_with fail
    refine (ValidMatrix_any r c A n cap ys _ ha0.rds).mono ?_
    rintro e w1 ⟨rfl, hx⟩
    rw [hv]
    have b0 := blk1M hx
    clear ha0
    have y0 : w1.cell? ⟨w.heap.size + 1, 0, none⟩ = some (.int .i64 0) := b0.cell 0 rfl
    have y1 : w1.cell? ⟨w.heap.size + 1, 1, none⟩ = some (.int .i64 0) := b0.cell 1 rfl
    have y2 : w1.cell? ⟨w.heap.size + 1, 2, none⟩ = some (.slice none 0 0) := b0.cell 2 rfl
    have q0 := b0.free 0
    have q1 := b0.free 1
    have q2 := b0.free 2
    have hq := b0.lt
    go_wp2_with fail
    obtain ⟨k1, k2, k3⟩ := Own.resM (w := w) (u := .int .i64 0) (v := .int .i64 0) (x := .slice none 0 0) b0 (own_nil _ w.heap.size _) (hx0.trans hx) (by omega)
    exact bodyPost_ret (resMB (x := .bool false) rfl rfl rfl k3) rfl (RetMD.bad hd k2)
  | true =>
    rw [if_pos rfl]
    go_enter Try.func131, Try.ntmps131
    go_wp2_with fail
    refine (ValidMatrix_any r c A n cap ys _ ha0.rds).mono ?_
    rintro e w1 ⟨rfl, hx⟩
    rw [hv]
    have b0 := blk1M hx
    obtain ⟨c0, c1, c2, _⟩ := ha0.ext hx
    clear ha0
    have y0 : w1.cell? ⟨w.heap.size + 1, 0, none⟩ = some (.int .i64 0) := b0.cell 0 rfl
    have y1 : w1.cell? ⟨w.heap.size + 1, 1, none⟩ = some (.int .i64 0) := b0.cell 1 rfl
    have y2 : w1.cell? ⟨w.heap.size + 1, 2, none⟩ = some (.slice none 0 0) := b0.cell 2 rfl
    have q0 := b0.free 0
    have q1 := b0.free 1
    have q2 := b0.free 2
    have hq := b0.lt
    go_wp2_with fail
    have ow := ho.ext (hx0.trans hx)
    obtain ⟨k1, k2, k3⟩ := Own.resM (w := w) (u := .int .i64 r) (v := .int .i64 c) (x := .slice A n cap) b0 ow (hx0.trans hx) (by omega)
    exact bodyPost_ret (resMB (x := .bool true) rfl rfl rfl k3) rfl ⟨A, cap, by simp only [hl], by simp only [hl]; exact k1, k2⟩

set_option maxHeartbeats 1000000 in
theorem l02List_any (base : Nat) (A : Option Addr) (n cap : Nat) (ys : List Nat) (w : World) (ho : Own w base 39 (.slice A n cap) (flts ys)) (hb : base ≤ w.heap.size) :
    Calls Try.prog 140 #[.slice A n cap] w (RetLDb w base (giveL (cfs ys))) := by
  have hl := ho.reads.flen
  rw [giveL_cfs]
  cases hv : finL ys with
  | false =>
    go_enter Try.func140, Try.ntmps140
    go_wp2_with fail
    refine (l02Finite_any A n cap ys _ ho.reads).mono ?_
    rintro e w1 ⟨rfl, hx⟩
    rw [hv]
    go_wp2_with fail
    go_ret2
    exact ⟨none, 0, rfl, own_nil _ _ _, hx⟩
  | true =>
    rw [if_pos rfl]
    go_enter Try.func140, Try.ntmps140
    go_wp2_with fail
    refine (l02Finite_any A n cap ys _ ho.reads).mono ?_
    rintro e w1 ⟨rfl, hx⟩
    rw [hv]
    go_wp2_with fail
    go_ret2
    exact ⟨A, cap, by simp only [hl]; rfl, by simp only [hl]; exact ho.ext hx, hx⟩
set_option maxHeartbeats 1000000 in
theorem allFinite_any (base : Nat) (A : Option Addr) (n cap : Nat) (ys : List Nat) (w : World) (ho : Own w base 39 (.slice A n cap) (flts ys)) (hb : base ≤ w.heap.size) :
    Calls Try.prog 142 #[.slice A n cap] w (RetLDb w base (giveL (cfs ys))) := by
  have hl := ho.reads.flen
  rw [giveL_cfs]
  cases hv : finL ys with
  | false =>
    go_enter Try.func142, Try.ntmps142
    go_wp2_with fail
    refine (areFinite_any A n cap ys _ ho.reads).mono ?_
    rintro e w1 ⟨rfl, hx⟩
    rw [hv]
    go_wp2_with fail
    go_ret2
    exact ⟨none, 0, rfl, own_nil _ _ _, hx⟩
  | true =>
    rw [if_pos rfl]
    go_enter Try.func142, Try.ntmps142
    go_wp2_with fail
    refine (areFinite_any A n cap ys _ ho.reads).mono ?_
    rintro e w1 ⟨rfl, hx⟩
    rw [hv]
    go_wp2_with fail
    go_ret2
    exact ⟨A, cap, by simp only [hl]; rfl, by simp only [hl]; exact ho.ext hx, hx⟩

/-! ### FlipMatrix -/
theorem mat_nat {r c : Int} {xs : List Nat} (h : isMat r c xs = true) : ∃ R C : Nat, r = R ∧ c = C ∧ 1 ≤ R ∧ R ≤ 12 ∧ 1 ≤ C ∧ C ≤ 12 ∧ xs.length = R * C := by
  unfold isMat at h
  simp only [Bool.and_eq_true, decide_eq_true_eq] at h
  obtain ⟨⟨⟨h1, h2⟩, h3⟩, _⟩ := h
  have h1 := inR_iff.1 h1
  have h2 := inR_iff.1 h2
  refine ⟨r.toNat, c.toNat, by omega, by omega, by omega, by omega, by omega, by omega, ?_⟩
  have e1 : r = (r.toNat : Int) := by omega
  have e2 : c = (c.toNat : Int) := by omega
  rw [e1, e2] at h3
  have : ((r.toNat : Int) * (c.toNat : Int)) = ((r.toNat * c.toNat : Nat) : Int) := by simp
  omega
def flipF (R C : Nat) (xs : List Nat) : List (Option Nat) := tab R (fun i k => c32 (at_ xs C k i)) (C * R)

set_option maxHeartbeats 1000000 in
theorem flip1_any (b R C i k n cap : Nat) (A : Option Addr) (xs : List Nat) (w : World) (hi : i < C) (hk : k < R) (hR : R ≤ 12) (hC : C ≤ 12) (hn : n = R * C) (ha : MAt w b R C A n cap xs) :
    Calls Try.prog 179 #[.int .i64 i, .int .i64 k, .pointer (some ⟨b, 0, none⟩)] w (RetF w (c32 (at_ xs C k i))) := by
  obtain ⟨c0, c1, c2, hr⟩ := ha
  have Hn := Lib.hid hn
  clear hn
  go_enter Try.func179, Try.ntmps179
  go_wp2_with fail
  refine (at_any R C k i n cap A xs w hk hi hR hC Hn.out hr).mono ?_
  rintro e w1 ⟨rfl, hx⟩
  go_wp2_with fail
  go_ret
  exact ⟨_, rfl, rfl, hx⟩

set_option maxHeartbeats 1000000 in
theorem flip_any (R C n cap : Nat) (A : Option Addr) (xs : List Nat) (w : World) (hR : R ≤ 12) (hC : C ≤ 12) (hn : n = R * C) (hr : Rds w A n (flts xs)) :
    Calls Try.prog 135 #[.agg #[.int .i64 R, .int .i64 C, .slice A n cap]] w (RetMat w C R (C * R) (flipF R C xs)) := by
  have hx0 : Ext w ((w.alloc (.cells #[.int .i64 R, .int .i64 C, .slice A n cap] 35)).alloc (.cells #[.int .i64 0, .int .i64 0, .slice none 0 0] 35)) := ((Ext.refl _).alloc _).alloc _
  have ha0 := (MAt.new (r := R) (c := C) (cap := cap) hr 35).ext ((Ext.refl _).alloc (.cells #[.int .i64 0, .int .i64 0, .slice none 0 0] 35))
  have Hn := Lib.hid hn
  clear hn
  go_enter Try.func135, Try.ntmps135
  go_wp2_with fail
  refine (made_any 179 _ (enters_of Try.func179 (by kernel_rfl) rfl) C R hC hR (fun i k => c32 (at_ xs C k i)) _ (fun i k W hi hk hW => ?_) (fun i k _ _ => ⟨_, rfl⟩)).mono ?_
  · exact flip1_any w.heap.size R C i k n cap A xs W hi hk hR hC Hn.out (ha0.ext hW)
  rintro e w2 ⟨A', c', ys, hy, rfl, ho, hx⟩
  have b0 := blk1M hx
  clear ha0
  have y0 : w2.cell? ⟨w.heap.size + 1, 0, none⟩ = some (.int .i64 0) := b0.cell 0 rfl
  have y1 : w2.cell? ⟨w.heap.size + 1, 1, none⟩ = some (.int .i64 0) := b0.cell 1 rfl
  have y2 : w2.cell? ⟨w.heap.size + 1, 2, none⟩ = some (.slice none 0 0) := b0.cell 2 rfl
  have q0 := b0.free 0
  have q1 := b0.free 1
  have q2 := b0.free 2
  have hq := b0.lt
  go_wp2_with fail
  obtain ⟨k1, k2, k3⟩ := Own.resM (w := w) (u := .int .i64 C) (v := .int .i64 R) (x := .slice A' (C * R) c') b0 (ho.base hx0.size) (hx0.trans hx) (by omega)
  exact bodyPost_ret (resM rfl rfl k3) rfl ⟨A', c', ys, hy, rfl, k1, k2⟩

end Go.Proofs.Ytgjfdfmbknmpaaa
