
/- The root, the reference. -/

import Derived.Test.YtkifpligpobiaaaN1
set_option linter.unusedVariables false
set_option linter.unusedSimpArgs false

namespace Go.Proofs.Ytkifpligpobiaaa

open Go.RowKit


/-- A square to be read, and one whose marks are set and whose numbers are written. -/
def FR (w0 : World) (b b' n N : Nat) (M TS L : Sqr) (w : World) : Prop := ∃ A k gv q ys g1 k1 g2 q2 zs, cfs ys = nb n M ∧ Blk w b #[.int .i64 n, .slice A N k, .slice (some ⟨gv, 0, none⟩) N q] 71 ∧
  Own w w0.heap.size 43 (.slice (some ⟨gv, 0, none⟩) N q) (flts ys) ∧ gv ≠ g2 ∧ cfs zs = nb n L ∧ Blk w b' #[.int .i64 n, .slice (some ⟨g1, 0, none⟩) N k1, .slice (some ⟨g2, 0, none⟩) N q2] 71 ∧
  Own w w0.heap.size 4 (.slice (some ⟨g1, 0, none⟩) N k1) (bools (tb n TS)) ∧ Own w w0.heap.size 43 (.slice (some ⟨g2, 0, none⟩) N q2) (flts zs) ∧ Ext w0 w
theorem FR.ext {w0 w w' : World} {b b' n N : Nat} {M TS L : Sqr} (h : FR w0 b b' n N M TS L w) (hx : Ext w w') : FR w0 b b' n N M TS L w' := by
  obtain ⟨A, k, gv, q, ys, g1, k1, g2, q2, zs, h0, h1, h2, h3, h4, h5, h6, h7, h8⟩ := h
  exact ⟨A, k, gv, q, ys, g1, k1, g2, q2, zs, h0, h1.ext hx, h2.ext hx, h3, h4, h5.ext hx, h6.ext hx, h7.ext hx, h8.trans hx⟩
theorem FR.putN {w0 w : World} {b b' n N k gv q g1 k1 g2 q2 : Nat} {A : Option Addr} {M TS L : Sqr} {ys zs : List Nat} (h0 : cfs ys = nb n M) (h1 : Blk w b #[.int .i64 n, .slice A N k, .slice (some ⟨gv, 0, none⟩) N q] 71)
    (h2 : Own w w0.heap.size 43 (.slice (some ⟨gv, 0, none⟩) N q) (flts ys)) (h3 : gv ≠ g2) (h4 : cfs zs = nb n L) (h5 : Blk w b' #[.int .i64 n, .slice (some ⟨g1, 0, none⟩) N k1, .slice (some ⟨g2, 0, none⟩) N q2] 71)
    (h6 : Own w w0.heap.size 4 (.slice (some ⟨g1, 0, none⟩) N k1) (bools (tb n TS))) (h7 : Own w w0.heap.size 43 (.slice (some ⟨g2, 0, none⟩) N q2) (flts zs)) (h8 : Ext w0 w)
    (t : Nat) (x : Nat) {L' : Sqr} (e : (nb n L).set t (c32 x) = nb n L') : FR w0 b b' n N M TS L' (w.setCell ⟨g2, t, none⟩ (.float .f32 x)) := by
  obtain ⟨s1, s2⟩ := h7.stored t (.float .f32 x)
  exact ⟨_, _, _, _, ys, _, _, _, _, zs.set t x, h0, h1.wr s2 h7 (by decide), h2.other s2 (.inr (by simpa [Value.ownBlock] using h3)), h3, by rw [cfs_set, h4, e], h5.wr s2 h7 (by decide), h6.other s2 (h6.apart h7 (by decide)).1, by rw [flts_set]; exact s1, s2.ext h8 h7⟩

/-- An opened square, and a blank one whose marks are set. -/
def FD (w0 : World) (b b' n N : Nat) (M TS L : Sqr) (w : World) : Prop := ∃ ga k gv q ys g1 k1 g2 q2 zs, cfs ys = nb n M ∧ Blk w b #[.int .i64 n, .slice (some ⟨ga, 0, none⟩) N k, .slice (some ⟨gv, 0, none⟩) N q] 71 ∧
  Own w w0.heap.size 4 (.slice (some ⟨ga, 0, none⟩) N k) (bools (tb n M)) ∧ ga ≠ g1 ∧ Own w w0.heap.size 43 (.slice (some ⟨gv, 0, none⟩) N q) (flts ys) ∧ gv ≠ g2 ∧ cfs zs = nb n L ∧ Blk w b' #[.int .i64 n, .slice (some ⟨g1, 0, none⟩) N k1, .slice (some ⟨g2, 0, none⟩) N q2] 71 ∧
  Own w w0.heap.size 4 (.slice (some ⟨g1, 0, none⟩) N k1) (bools (tb n TS)) ∧ Own w w0.heap.size 43 (.slice (some ⟨g2, 0, none⟩) N q2) (flts zs) ∧ Ext w0 w
theorem FD.fr {w0 w : World} {b b' n N : Nat} {M TS L : Sqr} (h : FD w0 b b' n N M TS L w) : FR w0 b b' n N M TS L w := by
  obtain ⟨ga, k, gv, q, ys, g1, k1, g2, q2, zs, h0, h1, ha, n1, h2, h3, h4, h5, h6, h7, h8⟩ := h
  exact ⟨_, k, gv, q, ys, g1, k1, g2, q2, zs, h0, h1, h2, h3, h4, h5, h6, h7, h8⟩
theorem FD.own {w0 w : World} {b b' n N : Nat} {M TS L : Sqr} (h : FD w0 b b' n N M TS L w) : Ext w0 w := by
  obtain ⟨ga, k, gv, q, ys, g1, k1, g2, q2, zs, h0, h1, ha, n1, h2, h3, h4, h5, h6, h7, h8⟩ := h
  exact h8
section

variable {w0 w : World} {b b' n N ga k gv q g1 k1 g2 q2 : Nat} {M TS L : Sqr} {ys zs : List Nat}

theorem FD.putT (h0 : cfs ys = nb n M) (h1 : Blk w b #[.int .i64 n, .slice (some ⟨ga, 0, none⟩) N k, .slice (some ⟨gv, 0, none⟩) N q] 71)
    (ha : Own w w0.heap.size 4 (.slice (some ⟨ga, 0, none⟩) N k) (bools (tb n M))) (n1 : ga ≠ g1) (h2 : Own w w0.heap.size 43 (.slice (some ⟨gv, 0, none⟩) N q) (flts ys)) (h3 : gv ≠ g2) (h4 : cfs zs = nb n L) (h5 : Blk w b' #[.int .i64 n, .slice (some ⟨g1, 0, none⟩) N k1, .slice (some ⟨g2, 0, none⟩) N q2] 71)
    (h6 : Own w w0.heap.size 4 (.slice (some ⟨g1, 0, none⟩) N k1) (bools (tb n TS))) (h7 : Own w w0.heap.size 43 (.slice (some ⟨g2, 0, none⟩) N q2) (flts zs)) (h8 : Ext w0 w)
    (t : Nat) (x : Bool) {TS' : Sqr} (e : (tb n TS).set t x = tb n TS') : FD w0 b b' n N M TS' L (w.setCell ⟨g1, t, none⟩ (.bool x)) := by
  obtain ⟨s1, s2⟩ := h6.stored t (.bool x)
  exact ⟨_, _, _, _, ys, _, _, _, _, zs, h0, h1.wr s2 h6 (by decide), ha.other s2 (.inr (by simpa [Value.ownBlock] using n1)), n1, h2.other s2 (h6.apart h2 (by decide)).2, h3, h4, h5.wr s2 h6 (by decide), by rw [← e, bools_set]; exact s1, h7.other s2 (h6.apart h7 (by decide)).2, s2.ext h8 h6⟩
theorem FD.putN (h0 : cfs ys = nb n M) (h1 : Blk w b #[.int .i64 n, .slice (some ⟨ga, 0, none⟩) N k, .slice (some ⟨gv, 0, none⟩) N q] 71)
    (ha : Own w w0.heap.size 4 (.slice (some ⟨ga, 0, none⟩) N k) (bools (tb n M))) (n1 : ga ≠ g1) (h2 : Own w w0.heap.size 43 (.slice (some ⟨gv, 0, none⟩) N q) (flts ys)) (h3 : gv ≠ g2) (h4 : cfs zs = nb n L) (h5 : Blk w b' #[.int .i64 n, .slice (some ⟨g1, 0, none⟩) N k1, .slice (some ⟨g2, 0, none⟩) N q2] 71)
    (h6 : Own w w0.heap.size 4 (.slice (some ⟨g1, 0, none⟩) N k1) (bools (tb n TS))) (h7 : Own w w0.heap.size 43 (.slice (some ⟨g2, 0, none⟩) N q2) (flts zs)) (h8 : Ext w0 w)
    (t : Nat) (x : Nat) {L' : Sqr} (e : (nb n L).set t (c32 x) = nb n L') : FD w0 b b' n N M TS L' (w.setCell ⟨g2, t, none⟩ (.float .f32 x)) := by
  obtain ⟨s1, s2⟩ := h7.stored t (.float .f32 x)
  exact ⟨_, _, _, _, ys, _, _, _, _, zs.set t x, h0, h1.wr s2 h7 (by decide), ha.other s2 (ha.apart h7 (by decide)).1, n1, h2.other s2 (.inr (by simpa [Value.ownBlock] using h3)), h3, by rw [cfs_set, h4, e], h5.wr s2 h7 (by decide), h6.other s2 (h6.apart h7 (by decide)).1, by rw [flts_set]; exact s1, s2.ext h8 h7⟩
end

def mkB (M : Sqr) : Nat → Nat → Bool := fun i j => (M i j).isSome
/-- The lower part of a square, as far as it has been gone through. -/
def loS (M : Sqr) (i j : Nat) : Sqr := fun a b => if (a < i ∧ b ≤ a) ∨ (a = i ∧ b < j) then M a b else none
theorem loS_zero (M : Sqr) : loS M 0 0 = noneM := by
  funext a b
  unfold loS
  rw [if_neg (by omega)]
  rfl
theorem loS_row (M : Sqr) (i : Nat) : loS M i (i + 1) = loS M (i + 1) 0 := by
  funext a b
  unfold loS
  by_cases h : (a < i ∧ b ≤ a) ∨ (a = i ∧ b < i + 1)
  · rw [if_pos h, if_pos (by omega)]
  · rw [if_neg h, if_neg (by omega)]
theorem loS_here (M : Sqr) (i j : Nat) : loS M i (j + 1) i j = M i j := by
  unfold loS
  rw [if_pos (by omega)]
theorem loS_other (M : Sqr) {i j a b : Nat} (h : ¬ (a = i ∧ b = j)) : loS M i (j + 1) a b = loS M i j a b := by
  unfold loS
  by_cases e : (a < i ∧ b ≤ a) ∨ (a = i ∧ b < j)
  · rw [if_pos e, if_pos (by omega)]
  · rw [if_neg e, if_neg (by omega)]
theorem loS_end {n : Nat} (M : Sqr) : ∀ a b, a < n → b < n → (loS M n 0 a b).isSome = (decide (b ≤ a) && mkB M a b) := by
  intro a b ha hb
  unfold loS mkB
  by_cases e : b ≤ a
  · rw [if_pos (.inl ⟨ha, e⟩), decide_eq_true e, Bool.true_and]
  · rw [if_neg (by omega), decide_eq_false e]; rfl
theorem loS_tb {n i j : Nat} (M : Sqr) (hi : i < n) (hj : j < n) : (tb n (loS M i j)).set (i * n + j) (M i j).isSome = tb n (loS M i (j + 1)) :=
  tb_set hi hj (by rw [loS_here]) (fun a b h => by rw [loS_other M h])
theorem loS_nb {n i j : Nat} (M : Sqr) (hi : i < n) (hj : j < n) {x : Option Nat} (hx : x = (M i j).getD (some 0)) : (nb n (loS M i j)).set (i * n + j) x = nb n (loS M i (j + 1)) :=
  nb_set hi hj (by rw [loS_here, hx]) (fun a b h => by rw [loS_other M h])
section

variable {T : Nat → Nat → Bool} {M L : Sqr} {i j p n : Nat}

theorem rt_nb {v : Option Nat} (hi : i < n) (hj : j < n) {x : Option Nat} (hx : x = v) : (nb n L).set (i * n + j) x = nb n (updM L i j (some v)) :=
  nb_set hi hj (by rw [updM_same, hx]; rfl) (fun a b h => by rw [updM_other _ h])
theorem sumM_on (h : RtI T i j L) (hj : j ≤ i) (hp : p < j) (h1 : T i p = true) (h2 : T j p = true) : sumM M L i j (p + 1) = fop .sub .f32 (sumM M L i j p) (fmul ((L i p).getD (some 0)) ((L j p).getD (some 0))) := by
  obtain ⟨e1, e2⟩ := h.both hj hp
  show (if _ then _ else _) = _
  rw [e1, e2, h1, h2]
  rfl
theorem sumM_off1 (h : RtI T i j L) (hj : j ≤ i) (hp : p < j) (h1 : T i p = false) : sumM M L i j (p + 1) = sumM M L i j p := by
  obtain ⟨e1, e2⟩ := h.both hj hp
  show (if _ then _ else _) = _
  rw [e1, e2, h1]
  rfl
theorem sumM_off2 (h : RtI T i j L) (hj : j ≤ i) (hp : p < j) (h2 : T j p = false) : sumM M L i j (p + 1) = sumM M L i j p := by
  obtain ⟨e1, e2⟩ := h.both hj hp
  show (if _ then _ else _) = _
  rw [e1, e2, h2]
  cases T i p <;> rfl
theorem rtC_off (h : T i j = false) : rtC T M L i j = some L := by unfold rtC; rw [h]; rfl
theorem rtC_div (h : T i j = true) (hj : j < i) : rtC T M L i j = some (updM L i j (some (fdiv (sumM M L i j j) ((L j j).getD (some 0))))) := by unfold rtC; rw [h, if_pos rfl, if_pos hj]
theorem rtC_root (h : T i j = true) (hj : ¬ j < i) (hg : gt0 (sumM M L i j j) = true) : rtC T M L i j = some (updM L i j (some (rootF (sumM M L i j j)))) := by unfold rtC; rw [h, if_pos rfl, if_neg hj, if_pos hg]
theorem rtC_neg (h : T i j = true) (hj : ¬ j < i) (hg : gt0 (sumM M L i j j) = false) : rtC T M L i j = none := by unfold rtC; rw [h, if_pos rfl, if_neg hj, hg]; rfl
theorem ts_at {TS : Sqr} (hT : ∀ a b, a < n → b < n → (TS a b).isSome = (decide (b ≤ a) && T a b)) (hi : i < n) (hj : j < n) (hji : j ≤ i) : rdb (tb n TS) ((i * n + j : Nat) : Int) = T i j := by
  rw [tb_at TS hi hj, hT i j hi hj, decide_eq_true hji, Bool.true_and]
theorem ts_end {TS : Sqr} (hT : ∀ a b, a < n → b < n → (TS a b).isSome = (decide (b ≤ a) && T a b)) (h : RtI T n 0 L) : tb n TS = tb n L := by
  refine tb_congr fun a b ha hb => ?_
  rw [hT a b ha hb, h a b]
  simp [ha]
end

set_option maxRecDepth 20000 in
set_option maxHeartbeats 8000000 in
theorem l05Root_any (w0 : World) (b b' n N : Nat) (T : Nat → Nat → Bool) (M TS : Sqr) (hn1 : 1 ≤ n) (hn32 : n ≤ 32) (hN : N = n * n) (hT : ∀ a b, a < n → b < n → (TS a b).isSome = (decide (b ≤ a) && T a b)) (w : World) (hf : FR w0 b b' n N M TS noneM w) :
    Calls Try.prog 76 #[.pointer (some ⟨b, 0, none⟩), .pointer (some ⟨b', 0, none⟩)] w (RetSqB w0 (rtD n T M)) := by
  obtain ⟨D, hD⟩ : ∃ D, D = rtD n T M := ⟨_, rfl⟩
  rw [← hD]
  have HD := Lib.hid hD
  have HN := Lib.hid hN
  have HT := Lib.hid hT
  have hN1 : 1 ≤ N := by rw [hN]; exact Nat.mul_pos hn1 hn1
  have hN2 : N ≤ 1024 := by rw [hN]; exact Nat.mul_le_mul hn32 hn32
  clear hD hN hT
  go_enter Try.func76, Try.ntmps76
  go_upto_region 1 with (fail)
  go_upto_region 1 with (fail)
  have xg : Ext w (w.alloc (.cells #[.int .i64 0, .slice none 0 0, .slice none 0 0, .slice none 0 0] 27)) := (Ext.refl _).alloc _
  have bR := Blk.new w #[.int .i64 0, .slice none 0 0, .slice none 0 0, .slice none 0 0] 27
  obtain ⟨wE, hwE⟩ : ∃ w0 : World, w0 = w.alloc (.cells #[.int .i64 0, .slice none 0 0, .slice none 0 0, .slice none 0 0] 27) := ⟨_, rfl⟩
  obtain ⟨rb, hrb0⟩ : ∃ rb, rb = w.heap.size := ⟨_, rfl⟩
  have hst := hf.ext xg
  have hrb : w0.heap.size ≤ rb := by
    obtain ⟨_, _, _, _, _, _, _, _, _, _, _, _, _, _, _, _, _, _, h8⟩ := hf
    rw [hrb0]; exact h8.size
  rw [← hwE] at hst
  rw [← hwE, ← hrb0] at bR
  rw [← hwE, ← hrb0]
  clear hwE hrb0 xg hf
  have e0 : wE.cell? ⟨b, 0, none⟩ = some (.int .i64 n) := by
    obtain ⟨_, _, _, _, _, _, _, _, _, _, _, h1, _⟩ := hst
    exact h1.cell 0 rfl
  go_wp2_with fail
  clear e0
  go_loopw [7] (fun u wr => ∃ i : Nat, i ≤ n ∧ u = .int .i64 i ∧ ∃ L, Hid (rtAll T M i = some L) ∧ Hid (RtI T i 0 L) ∧ FR w0 b b' n N M TS L wr ∧ Blk wr rb #[.int .i64 0, .slice none 0 0, .slice none 0 0, .slice none 0 0] 27) (fun u _ => n - (intOf u).toNat)
  case atStart => exact ⟨0, Nat.zero_le _, rfl, noneM, rfl, RtI.zero, hst, bR⟩
  case round =>
    rename World => wA
    clear hst bR
    obtain ⟨i, hi, rfl, L, HL, HI, hst, bR⟩ := hrel
    by_cases hlt : i < n
    · have hg1 : IntKind.i64.wrap ((i : Int) + 1) = (i : Int) + 1 := IntWalk.i64_in _ (by omega)
      go_wp2_with fail
      go_loopw [8] (fun u wr => ∃ j : Nat, j ≤ i + 1 ∧ u = .int .i64 j ∧ ∃ L, Hid (rtRow T M i j (rtAll T M i) = some L) ∧ Hid (RtI T i j L) ∧ FR w0 b b' n N M TS L wr ∧ Blk wr rb #[.int .i64 0, .slice none 0 0, .slice none 0 0, .slice none 0 0] 27) (fun u _ => i + 1 - (intOf u).toNat)
      case atStart => exact ⟨0, Nat.zero_le _, rfl, L, HL, HI, hst, bR⟩
      case round =>
        rename World => wB
        clear hst bR HL HI
        clear L
        obtain ⟨j, hj, rfl, L, HL, HI, hst, bR⟩ := hrel
        by_cases hji : j ≤ i
        · have hjn : j < n := by omega
          have hg2 : IntKind.i64.wrap ((j : Int) + 1) = (j : Int) + 1 := IntWalk.i64_in _ (by omega)
          have hjiI : (j : Int) ≤ i := by omega
          obtain ⟨A, k, gv, q, ys, g1, k1, g2, q2, zs, h0, h1, h2, h3, h4, h5, h6, h7, h8⟩ := hst
          obtain ⟨i1, i2, i3, i4, i5, i6⟩ := ix32 hlt hjn hn32
          rw [← HN.out] at i4 i6
          have i7 : i * n + j < N := by omega
          have lz := h7.reads.flen
          have ly := h2.reads.flen
          have lt := h6.reads.blen
          obtain ⟨hca, _⟩ := h6.at_ (i * n + j) (by omega)
          rw [bools_get (by omega), ts_at HT.out hlt hjn hji] at hca
          have z1 := h5.cell 1 rfl
          cases ht : T i j with
          | false =>
            rw [ht] at hca
            have HC := Lib.hid (rtC_off (M := M) (L := L) ht)
            have hst : FR w0 b b' n N M TS L wB := ⟨A, k, gv, q, ys, g1, k1, g2, q2, zs, h0, h1, h2, h3, h4, h5, h6, h7, h8⟩
            clear h0 h1 h2 h4 h5 h6 h7 h8 ht lz ly lt
            go_wp2_with fail
            go_roundw
            case rel => exact ⟨j + 1, by omega, by go_num, L, rtRow_next HL.out HC.out, HI.out.next hji HC.out, hst, bR⟩
            case measure => simp [intOf]; omega
          | true =>
            rw [ht] at hca
            have HTT := Lib.hid ht
            obtain ⟨hce, _⟩ := h2.at_ (i * n + j) (by omega)
            rw [flts_get (by omega)] at hce
            have hnm := nb_at h0 hlt hjn
            obtain ⟨f0, hf0⟩ : ∃ f0, f0 = rdf ys ((i * n + j : Nat) : Int) := ⟨_, rfl⟩
            rw [← hf0] at hce hnm
            have HF0 : Hid (c32 f0 = sumM M L i j 0) := hnm
            clear hf0 hnm ht
            have z2 := h1.cell 2 rfl
            have z3 := h5.cell 2 rfl
            go_wp2_with fail
            go_loopw [9, 10] (fun u v wr => ∃ p : Nat, p ≤ j ∧ v = .int .i64 p ∧ ∃ f, u = .float .f32 f ∧ Hid (c32 f = sumM M L i j p) ∧ Ext wB wr) (fun _ v _ => j - (intOf v).toNat)
            case atStart => exact ⟨0, Nat.zero_le _, rfl, f0, rfl, HF0, Ext.refl _⟩
            case round =>
              rename World => wC
              clear hca hce z1 z2 z3 HF0
              obtain ⟨p, hp, rfl, f, rfl, HF, hx⟩ := hrel
              replace h1 := h1.ext hx
              replace h2 := h2.ext hx
              replace h5 := h5.ext hx
              replace h6 := h6.ext hx
              replace h7 := h7.ext hx
              replace h8 := h8.trans hx
              replace bR := bR.ext hx

              have z1 := h5.cell 1 rfl
              have z3 := h5.cell 2 rfl
              by_cases hpj : p < j
              · have hpn : p < n := by omega
                have hg3 : IntKind.i64.wrap ((p : Int) + 1) = (p : Int) + 1 := IntWalk.i64_in _ (by omega)
                obtain ⟨j1, j2, j3, j4, j5, j6⟩ := ix32 hlt hpn hn32
                rw [← HN.out] at j4 j6
                have j7 : i * n + p < N := by omega
                obtain ⟨l1, l2, l3, l4, l5, l6⟩ := ix32 hjn hpn hn32
                rw [← HN.out] at l4 l6
                have l7 : j * n + p < N := by omega
                obtain ⟨hcb, _⟩ := h6.at_ (i * n + p) (by omega)
                rw [bools_get (by omega), ts_at HT.out hlt hpn (by omega)] at hcb
                obtain ⟨hcc, _⟩ := h6.at_ (j * n + p) (by omega)
                rw [bools_get (by omega), ts_at HT.out hjn hpn (by omega)] at hcc
                cases h1p : T i p with
                | false =>
                  rw [h1p] at hcb
                  have HS := Lib.hid (sumM_off1 (M := M) HI.out hji hpj h1p)
                  clear h1p hcc
                  go_wp2_with fail
                  go_roundw
                  case rel => exact ⟨p + 1, by omega, by go_num, f, rfl, HF.out.trans HS.out.symm, hx⟩
                  case measure => simp [intOf]; omega
                | true =>
                  rw [h1p] at hcb
                  cases h2p : T j p with
                  | false =>
                    rw [h2p] at hcc
                    have HS := Lib.hid (sumM_off2 (M := M) HI.out hji hpj h2p)
                    clear h1p h2p
                    go_wp2_with fail
                    go_roundw
                    case rel => exact ⟨p + 1, by omega, by go_num, f, rfl, HF.out.trans HS.out.symm, hx⟩
                    case measure => simp [intOf]; omega
                  | true =>
                    rw [h2p] at hcc
                    have HS := Lib.hid (sumM_on (M := M) HI.out hji hpj h1p h2p)
                    clear h1p h2p
                    obtain ⟨hcd, _⟩ := h7.at_ (i * n + p) (by omega)
                    rw [flts_get (by omega)] at hcd
                    obtain ⟨hce, _⟩ := h7.at_ (j * n + p) (by omega)
                    rw [flts_get (by omega)] at hce
                    have hm1 := nb_at h4 hlt hpn
                    have hm2 := nb_at h4 hjn hpn
                    obtain ⟨x1, hx1⟩ : ∃ x1, x1 = rdf zs ((i * n + p : Nat) : Int) := ⟨_, rfl⟩
                    obtain ⟨x2, hx2⟩ : ∃ x2, x2 = rdf zs ((j * n + p : Nat) : Int) := ⟨_, rfl⟩
                    rw [← hx1] at hcd hm1
                    rw [← hx2] at hce hm2
                    have HM1 := Lib.hid hm1
                    have HM2 := Lib.hid hm2
                    clear hx1 hx2 hm1 hm2
                    go_upto_region 14 with (fail)
                    refine wp_region_T (cs := []) [0, 1, 2, 3, 4, 5, 6, 7, 8, 9, 10, 11, 12, 13, 14, 15, 16, 17, 18, 19, 20, 21, 22, 23, 24] [25] [23, 24] [] (fun i__ v => match i__ with | 23 => ∃ r, v = .float .f32 r ∧ c32 r = (fmul ((L i p).getD (some 0)) ((L j p).getD (some 0))) | 24 => ∃ r, v = .float .f32 r ∧ c32 r = (sumM M L i j (p + 1)) | _ => False) (fun _ _ _ => True) (by kernel_rfl) (by kernel_rfl) (fun _ _ _ _ _ _ => trivial) ?_
                    refine' wpT_det (o := ⟨some 77, Op.move (Operand.tmp 9), 43, "l05_sparse.go:426", #[], none⟩) rfl (by rfl) (by rfl) (fun w' hw' => ?_) ?_; rotate_left
                    · go_simp <;> first | rfl | exact ⟨rfl, rfl⟩
                    simp only [Act.put, List.setIfInBounds_toArray, List.set_cons_zero, List.set_cons_succ]
                    refine' wpT_det (o := ⟨some 78, Op.move (Operand.tmp 1), 75, "l05_sparse.go:426", #[], none⟩) rfl (by rfl) (by rfl) (fun w' hw' => ?_) ?_; rotate_left
                    · go_simp <;> first | rfl | exact ⟨rfl, rfl⟩
                    simp only [Act.put, List.setIfInBounds_toArray, List.set_cons_zero, List.set_cons_succ]
                    refine' wpT_det (o := ⟨some 79, Op.nilCheck (Operand.tmp 78), 0, "l05_sparse.go:426", #[{ on := 1, ground := Ground.data }], none⟩) rfl (by rfl) (by rfl) (fun w' hw' => ?_) ?_; rotate_left
                    · go_simp <;> first | rfl | exact ⟨rfl, rfl⟩
                    simp only [Act.put, List.setIfInBounds_toArray, List.set_cons_zero, List.set_cons_succ]
                    refine' wpT_det (o := ⟨some 80, Op.fieldAddr 71 (Operand.tmp 79) 2, 0, "l05_sparse.go:426", #[{ on := 2, ground := Ground.data }], none⟩) rfl (by rfl) (by rfl) (fun w' hw' => ?_) ?_; rotate_left
                    · go_simp <;> first | rfl | exact ⟨rfl, rfl⟩
                    simp only [Act.put, List.setIfInBounds_toArray, List.set_cons_zero, List.set_cons_succ]
                    refine' wpT_det (o := ⟨some 81, Op.load 23 (Operand.tmp 80), 23, "l05_sparse.go:426", #[{ on := 3, ground := Ground.data }], none⟩) rfl (by rfl) (by rfl) (fun w' hw' => ?_) ?_; rotate_left
                    · have z3_ := Ext.cell hw' z3; have hcd_ := Ext.cell hw' hcd; have hce_ := Ext.cell hw' hce; go_simp <;> first | rfl | exact ⟨rfl, rfl⟩
                    simp only [Act.put, List.setIfInBounds_toArray, List.set_cons_zero, List.set_cons_succ]
                    refine' wpT_det (o := ⟨some 82, Op.move (Operand.tmp 7), 2, "l05_sparse.go:426", #[], none⟩) rfl (by rfl) (by rfl) (fun w' hw' => ?_) ?_; rotate_left
                    · go_simp <;> first | rfl | exact ⟨rfl, rfl⟩
                    simp only [Act.put, List.setIfInBounds_toArray, List.set_cons_zero, List.set_cons_succ]
                    refine' wpT_det (o := ⟨some 83, Op.move (Operand.tmp 6), 2, "l05_sparse.go:426", #[], none⟩) rfl (by rfl) (by rfl) (fun w' hw' => ?_) ?_; rotate_left
                    · go_simp <;> first | rfl | exact ⟨rfl, rfl⟩
                    simp only [Act.put, List.setIfInBounds_toArray, List.set_cons_zero, List.set_cons_succ]
                    refine' wpT_det (o := ⟨some 84, Op.binOp BinOp.mul 2 (Operand.tmp 82) (Operand.tmp 83) 2, 2, "l05_sparse.go:426", #[{ on := 5, ground := Ground.data }, { on := 6, ground := Ground.data }], none⟩) rfl (by rfl) (by rfl) (fun w' hw' => ?_) ?_; rotate_left
                    · go_simp <;> first | rfl | exact ⟨rfl, rfl⟩
                    simp only [Act.put, List.setIfInBounds_toArray, List.set_cons_zero, List.set_cons_succ]
                    refine' wpT_det (o := ⟨some 85, Op.move (Operand.tmp 10), 2, "l05_sparse.go:426", #[], none⟩) rfl (by rfl) (by rfl) (fun w' hw' => ?_) ?_; rotate_left
                    · go_simp <;> first | rfl | exact ⟨rfl, rfl⟩
                    simp only [Act.put, List.setIfInBounds_toArray, List.set_cons_zero, List.set_cons_succ]
                    refine' wpT_det (o := ⟨some 86, Op.binOp BinOp.add 2 (Operand.tmp 84) (Operand.tmp 85) 2, 2, "l05_sparse.go:426", #[{ on := 7, ground := Ground.data }, { on := 8, ground := Ground.data }], none⟩) rfl (by rfl) (by rfl) (fun w' hw' => ?_) ?_; rotate_left
                    · go_simp <;> first | rfl | exact ⟨rfl, rfl⟩
                    simp only [Act.put, List.setIfInBounds_toArray, List.set_cons_zero, List.set_cons_succ]
                    refine' wpT_det (o := ⟨some 87, Op.indexAddr 23 (Operand.tmp 81) (Operand.tmp 86), 0, "l05_sparse.go:426", #[{ on := 4, ground := Ground.data }, { on := 9, ground := Ground.data }], none⟩) rfl (by rfl) (by rfl) (fun w' hw' => ?_) ?_; rotate_left
                    · go_simp <;> first | rfl | exact ⟨rfl, rfl⟩
                    simp only [Act.put, List.setIfInBounds_toArray, List.set_cons_zero, List.set_cons_succ]
                    refine' wpT_det (o := ⟨some 88, Op.load 43 (Operand.tmp 87), 43, "l05_sparse.go:426", #[{ on := 10, ground := Ground.data }], none⟩) rfl (by rfl) (by rfl) (fun w' hw' => ?_) ?_; rotate_left
                    · have z3_ := Ext.cell hw' z3; have hcd_ := Ext.cell hw' hcd; have hce_ := Ext.cell hw' hce; go_simp <;> first | rfl | exact ⟨rfl, rfl⟩
                    simp only [Act.put, List.setIfInBounds_toArray, List.set_cons_zero, List.set_cons_succ]
                    refine' wpT_det (o := ⟨some 89, Op.move (Operand.tmp 1), 75, "l05_sparse.go:426", #[], none⟩) rfl (by rfl) (by rfl) (fun w' hw' => ?_) ?_; rotate_left
                    · go_simp <;> first | rfl | exact ⟨rfl, rfl⟩
                    simp only [Act.put, List.setIfInBounds_toArray, List.set_cons_zero, List.set_cons_succ]
                    refine' wpT_det (o := ⟨some 90, Op.nilCheck (Operand.tmp 89), 0, "l05_sparse.go:426", #[{ on := 12, ground := Ground.data }], none⟩) rfl (by rfl) (by rfl) (fun w' hw' => ?_) ?_; rotate_left
                    · go_simp <;> first | rfl | exact ⟨rfl, rfl⟩
                    simp only [Act.put, List.setIfInBounds_toArray, List.set_cons_zero, List.set_cons_succ]
                    refine' wpT_det (o := ⟨some 91, Op.fieldAddr 71 (Operand.tmp 90) 2, 0, "l05_sparse.go:426", #[{ on := 13, ground := Ground.data }], none⟩) rfl (by rfl) (by rfl) (fun w' hw' => ?_) ?_; rotate_left
                    · go_simp <;> first | rfl | exact ⟨rfl, rfl⟩
                    simp only [Act.put, List.setIfInBounds_toArray, List.set_cons_zero, List.set_cons_succ]
                    refine' wpT_det (o := ⟨some 92, Op.load 23 (Operand.tmp 91), 23, "l05_sparse.go:426", #[{ on := 14, ground := Ground.data }], none⟩) rfl (by rfl) (by rfl) (fun w' hw' => ?_) ?_; rotate_left
                    · have z3_ := Ext.cell hw' z3; have hcd_ := Ext.cell hw' hcd; have hce_ := Ext.cell hw' hce; go_simp <;> first | rfl | exact ⟨rfl, rfl⟩
                    simp only [Act.put, List.setIfInBounds_toArray, List.set_cons_zero, List.set_cons_succ]
                    refine' wpT_det (o := ⟨some 93, Op.move (Operand.tmp 8), 2, "l05_sparse.go:426", #[], none⟩) rfl (by rfl) (by rfl) (fun w' hw' => ?_) ?_; rotate_left
                    · go_simp <;> first | rfl | exact ⟨rfl, rfl⟩
                    simp only [Act.put, List.setIfInBounds_toArray, List.set_cons_zero, List.set_cons_succ]
                    refine' wpT_det (o := ⟨some 94, Op.move (Operand.tmp 6), 2, "l05_sparse.go:426", #[], none⟩) rfl (by rfl) (by rfl) (fun w' hw' => ?_) ?_; rotate_left
                    · go_simp <;> first | rfl | exact ⟨rfl, rfl⟩
                    simp only [Act.put, List.setIfInBounds_toArray, List.set_cons_zero, List.set_cons_succ]
                    refine' wpT_det (o := ⟨some 95, Op.binOp BinOp.mul 2 (Operand.tmp 93) (Operand.tmp 94) 2, 2, "l05_sparse.go:426", #[{ on := 16, ground := Ground.data }, { on := 17, ground := Ground.data }], none⟩) rfl (by rfl) (by rfl) (fun w' hw' => ?_) ?_; rotate_left
                    · go_simp <;> first | rfl | exact ⟨rfl, rfl⟩
                    simp only [Act.put, List.setIfInBounds_toArray, List.set_cons_zero, List.set_cons_succ]
                    refine' wpT_det (o := ⟨some 96, Op.move (Operand.tmp 10), 2, "l05_sparse.go:426", #[], none⟩) rfl (by rfl) (by rfl) (fun w' hw' => ?_) ?_; rotate_left
                    · go_simp <;> first | rfl | exact ⟨rfl, rfl⟩
                    simp only [Act.put, List.setIfInBounds_toArray, List.set_cons_zero, List.set_cons_succ]
                    refine' wpT_det (o := ⟨some 97, Op.binOp BinOp.add 2 (Operand.tmp 95) (Operand.tmp 96) 2, 2, "l05_sparse.go:426", #[{ on := 18, ground := Ground.data }, { on := 19, ground := Ground.data }], none⟩) rfl (by rfl) (by rfl) (fun w' hw' => ?_) ?_; rotate_left
                    · go_simp <;> first | rfl | exact ⟨rfl, rfl⟩
                    simp only [Act.put, List.setIfInBounds_toArray, List.set_cons_zero, List.set_cons_succ]
                    refine' wpT_det (o := ⟨some 98, Op.indexAddr 23 (Operand.tmp 92) (Operand.tmp 97), 0, "l05_sparse.go:426", #[{ on := 15, ground := Ground.data }, { on := 20, ground := Ground.data }], none⟩) rfl (by rfl) (by rfl) (fun w' hw' => ?_) ?_; rotate_left
                    · go_simp <;> first | rfl | exact ⟨rfl, rfl⟩
                    simp only [Act.put, List.setIfInBounds_toArray, List.set_cons_zero, List.set_cons_succ]
                    refine' wpT_det (o := ⟨some 99, Op.load 43 (Operand.tmp 98), 43, "l05_sparse.go:426", #[{ on := 21, ground := Ground.data }], none⟩) rfl (by rfl) (by rfl) (fun w' hw' => ?_) ?_; rotate_left
                    · have z3_ := Ext.cell hw' z3; have hcd_ := Ext.cell hw' hcd; have hce_ := Ext.cell hw' hce; go_simp <;> first | rfl | exact ⟨rfl, rfl⟩
                    simp only [Act.put, List.setIfInBounds_toArray, List.set_cons_zero, List.set_cons_succ]
                    refine wpT_nd (o := ⟨some 100, Op.binOp BinOp.mul 43 (Operand.tmp 88) (Operand.tmp 99) 43, 43, "l05_sparse.go:426", #[{ on := 11, ground := Ground.data }, { on := 22, ground := Ground.data }], none⟩) rfl (by rfl) (by rfl) (fun w' hw' hF R__ hGo => ?_) (by obtain ⟨r, hr⟩ := ex_d .mul ((by rw [HM1.out, HM2.out]) : fop .mul .f32 (c32 (x1)) (c32 (x2)) = (fmul ((L i p).getD (some 0)) ((L j p).getD (some 0)))); exact ⟨_, r, rfl, hr⟩) ?_
                    · exact gives_f .mul (.inr (.inr (.inl rfl))) _ _ _ _ rfl (x1) (x2) rfl rfl (fmul ((L i p).getD (some 0)) ((L j p).getD (some 0))) (by rw [HM1.out, HM2.out]) (fun r w2 hx hc => hGo _ _ hx ⟨r, rfl, hc⟩ trivial)
                    rintro _ ⟨f23, rfl, hf23⟩
                    simp only [Act.put, List.setIfInBounds_toArray, List.set_cons_zero, List.set_cons_succ]
                    refine wpT_nd (o := ⟨some 101, Op.binOp BinOp.sub 43 (Operand.tmp 77) (Operand.tmp 100) 43, 43, "l05_sparse.go:426", #[{ on := 0, ground := Ground.data }, { on := 23, ground := Ground.data }], none⟩) rfl (by rfl) (by rfl) (fun w' hw' hF R__ hGo => ?_) (by obtain ⟨r, hr⟩ := ex_d .sub ((by rw [hf23, HF.out, HS.out]) : fop .sub .f32 (c32 (f)) (c32 (f23)) = (sumM M L i j (p + 1))); exact ⟨_, r, rfl, hr⟩) ?_
                    · exact gives_f .sub (.inr (.inl rfl)) _ _ _ _ rfl (f) (f23) rfl rfl (sumM M L i j (p + 1)) (by rw [hf23, HF.out, HS.out]) (fun r w2 hx hc => hGo _ _ hx ⟨r, rfl, hc⟩ trivial)
                    rintro _ ⟨f24, rfl, hf24⟩
                    simp only [Act.put, List.setIfInBounds_toArray, List.set_cons_zero, List.set_cons_succ]
                    refine wpT_nil (fun w7 hw' hF => ?_)
                    show wpList _ _ _ [(⟨some 9, Op.assign (Operand.tmp 101), 43, "l05_sparse.go:426", #[{ on := 24, ground := Ground.data }, { on := 0, ground := Ground.phase }, { on := 1, ground := Ground.phase }, { on := 2, ground := Ground.phase }, { on := 3, ground := Ground.phase }, { on := 4, ground := Ground.phase }, { on := 5, ground := Ground.phase }, { on := 6, ground := Ground.phase }, { on := 7, ground := Ground.phase }, { on := 8, ground := Ground.phase }, { on := 9, ground := Ground.phase }, { on := 10, ground := Ground.phase }, { on := 11, ground := Ground.phase }, { on := 12, ground := Ground.phase }, { on := 13, ground := Ground.phase }, { on := 14, ground := Ground.phase }, { on := 15, ground := Ground.phase }, { on := 16, ground := Ground.phase }, { on := 17, ground := Ground.phase }, { on := 18, ground := Ground.phase }, { on := 19, ground := Ground.phase }, { on := 20, ground := Ground.phase }, { on := 21, ground := Ground.phase }, { on := 22, ground := Ground.phase }, { on := 23, ground := Ground.phase }, { on := 24, ground := Ground.phase }], none⟩ : Oper)] _ _
                    have hx7 := hx.trans hw'.undrew
                    clear hF hw' hcb hcc hcd hce z1 z3
                    go_wp2_with fail
                    go_roundw
                    case rel => exact ⟨p + 1, by omega, by go_num, f24, rfl, hf24, hx7⟩
                    case measure => simp [intOf]; omega
              · obtain rfl : p = j := by omega

                by_cases hjl : p < i
                · obtain ⟨j1, j2, j3, j4, j5, j6⟩ := ix32 hjn hjn hn32
                  rw [← HN.out] at j4 j6
                  have j7 : p * n + p < N := by omega
                  obtain ⟨hcd, _⟩ := h7.at_ (p * n + p) (by omega)
                  rw [flts_get (by omega)] at hcd
                  have hm1 := nb_at h4 hjn hjn
                  obtain ⟨x1, hx1⟩ : ∃ x1, x1 = rdf zs ((p * n + p : Nat) : Int) := ⟨_, rfl⟩
                  rw [← hx1] at hcd hm1
                  obtain ⟨fr, w7, hrr, hx7, hcr⟩ := run_fop (P := Try.prog) wC .quo (.inr (.inr (.inr rfl))) 43 .f32 f x1
                  have hcr' : c32 fr = fdiv (sumM M L i p p) ((L p p).getD (some 0)) := by rw [← HF.out, ← hm1]; exact hcr
                  have HC := Lib.hid (rtC_div (M := M) (L := L) HTT.out hjl)
                  rw [← hcr'] at HC
                  clear hx1 hm1 hcr hcr'
                  go_upto_region 20 with (simp only [hrr])
                  clear hcd hrr z1 z3
                  replace h1 := h1.ext hx7
                  replace h2 := h2.ext hx7
                  replace h5 := h5.ext hx7
                  replace h6 := h6.ext hx7
                  replace h7 := h7.ext hx7
                  replace h8 := h8.trans hx7
                  replace bR := bR.ext hx7

                  have z3 := h5.cell 2 rfl
                  obtain ⟨hcb, hf⟩ := h7.at_ (i * n + p) (by omega)
                  rw [flts_get (by omega)] at hcb
                  have hsf := store_f32 Try.prog fr hcb hf
                  obtain ⟨s1, s2⟩ := h7.stored (i * n + p) (.float .f32 fr)
                  have hm : FR w0 b b' n N M TS _ _ := FR.putN h0 h1 h2 h3 h4 h5 h6 h7 h8 (i * n + p) fr (rt_nb (v := c32 fr) hlt hjn rfl)
                  have bR' := bR.wr s2 h7 (by decide)
                  clear h0 h1 h2 h4 h5 h6 h7 h8 s1 s2 bR
                  go_wp2_with fail
                  go_roundw
                  case rel =>
                    refine ⟨p + 1, by omega, by go_num, _, rtRow_next HL.out HC.out, HI.out.next hji HC.out, ?_, bR'⟩
                    exact hm
                  case measure => simp [intOf]; omega

                · have hgt : gt0 (c32 f) = gt0 (sumM M L i p p) := by rw [HF.out]
                  cases hg : gt0 (c32 f) with
                  | true =>
                    have HC := Lib.hid (rtC_root (M := M) (L := L) HTT.out hjl (hgt.symm.trans hg))
                    rw [← gt0_c32] at hg
                    clear hgt
                    go_wp2_with fail
                    refine (l01Sqrt_any f _).mono ?_
                    rintro e w7 ⟨fr, rfl, hcr, hx7⟩
                    rw [HF.out] at hcr
                    rw [← hcr] at HC
                    clear hcr z1 z3 hg
                    go_upto_region 20 with (fail)
                    replace h1 := h1.ext hx7
                    replace h2 := h2.ext hx7
                    replace h5 := h5.ext hx7
                    replace h6 := h6.ext hx7
                    replace h7 := h7.ext hx7
                    replace h8 := h8.trans hx7
                    replace bR := bR.ext hx7

                    have z3 := h5.cell 2 rfl
                    obtain ⟨hcb, hf⟩ := h7.at_ (i * n + p) (by omega)
                    rw [flts_get (by omega)] at hcb
                    have hsf := store_f32 Try.prog fr hcb hf
                    obtain ⟨s1, s2⟩ := h7.stored (i * n + p) (.float .f32 fr)
                    have hm : FR w0 b b' n N M TS _ _ := FR.putN h0 h1 h2 h3 h4 h5 h6 h7 h8 (i * n + p) fr (rt_nb (v := c32 fr) hlt hjn rfl)
                    have bR' := bR.wr s2 h7 (by decide)
                    clear h0 h1 h2 h4 h5 h6 h7 h8 s1 s2 bR
                    go_wp2_with fail
                    go_roundw
                    case rel =>
                      refine ⟨p + 1, by omega, by go_num, _, rtRow_next HL.out HC.out, HI.out.next hji HC.out, ?_, bR'⟩
                      exact hm
                    case measure => simp [intOf]; omega

                  | false =>
                    have hd : D = SD.bad := HD.out.trans (rtD_bad hlt hji HL.out (rtC_neg HTT.out hjl (hgt.symm.trans hg)))
                    rw [← gt0_c32] at hg
                    clear hgt z1 z3
                    have b1 := bR
                    have hx0 := h8
                    clear h0 h1 h2 h4 h5 h6 h7 h8 bR
                    have y0 := b1.cell 0 rfl
                    have y1 := b1.cell 1 rfl
                    have y2 := b1.cell 2 rfl
                    have y3 := b1.cell 3 rfl
                    have f0 := b1.free 0
                    have f1 := b1.free 1
                    have f2 := b1.free 2
                    have f3 := b1.free 3
                    have hq0 := b1.lt
                    go_wp2_with fail
                    have d0 := b1.set 0 (.int .i64 0)
                    have d1 := d0.set 1 (.slice none 0 0)
                    have d2 := d1.set 2 (.slice none 0 0)
                    have d3 := d2.set 3 (.slice none 0 0)
                    have x2 := ((((hx0.set (p := ⟨rb, 0, none⟩) (by simp; try omega) (.int .i64 0)).set (p := ⟨rb, 1, none⟩) (by simp; try omega) (.slice none 0 0)).set (p := ⟨rb, 2, none⟩) (by simp; try omega) (.slice none 0 0)).set (p := ⟨rb, 3, none⟩) (by simp; try omega) (.slice none 0 0))
                    have r0 := d3.cell 0 rfl
                    have r1 := d3.cell 1 rfl
                    have r2 := d3.cell 2 rfl
                    have r3 := d3.cell 3 rfl
                    refine bodyPost_ret (v := .tuple #[.agg #[.int .i64 0, .slice none 0 0, .slice none 0 0, .slice none 0 0], .bool false]) (by simp only [results, Try.results76]; simp [go_sem, r0, r1, r2, r3]) rfl (RetSqB.bad hd rfl x2)
        · obtain rfl : j = i + 1 := by omega
          go_wp2_with fail
          go_roundw
          case rel => exact ⟨i + 1, by omega, by go_num, L, HL, HI.out.row, hst, bR⟩
          case measure => simp [intOf]; omega
    · obtain rfl : i = n := by omega
      have hd := HD.out.trans (rtD_good HL.out)
      obtain ⟨A, k, gv, q, ys, g1, k1, g2, q2, zs, h0, h1, h2, h3, h4, h5, h6, h7, h8⟩ := hst
      rw [ts_end HT.out HI.out] at h6
      have HD2 := Lib.hid hd
      clear hd
      go_wp2_with fail
      refine (l05Close_any _ i N _ k1 _ q2 L zs hn1 hn32 HN.out _ (FAt.of h5 h6.reads h7.reads h4)).mono ?_
      rw [← HD2.out]
      rintro e w6 ⟨A'', kA, B'', kB, V'', kV, rfl, p1, p2, p3, n12, n13, n23, hx⟩
      have b1 := bR
      have hx0 := h8
      clear h0 h1 h2 h4 h5 h6 h7 h8 bR
      replace p1 := p1.base hx0.size
      replace p2 := p2.base hx0.size
      replace p3 := p3.base hx0.size
      replace b1 := b1.ext hx
      replace hx0 := hx0.trans hx
      clear hx
      have y0 := b1.cell 0 rfl
      have y1 := b1.cell 1 rfl
      have y2 := b1.cell 2 rfl
      have y3 := b1.cell 3 rfl
      have f0 := b1.free 0
      have f1 := b1.free 1
      have f2 := b1.free 2
      have f3 := b1.free 3
      have hq0 := b1.lt
      go_wp2_with fail
      have d0 := b1.set 0 (.int .i64 D.sd)
      have d1 := d0.set 1 (.slice A'' D.st.length kA)
      have d2 := d1.set 2 (.slice B'' D.co.length kB)
      have d3 := d2.set 3 (.slice V'' D.va.length kV)
      have q1 := ((((p1.setBlk b1 (by decide) 0 (.int .i64 D.sd)).setBlk d0 (by decide) 1 (.slice A'' D.st.length kA)).setBlk d1 (by decide) 2 (.slice B'' D.co.length kB)).setBlk d2 (by decide) 3 (.slice V'' D.va.length kV))
      have q2 := ((((p2.setBlk b1 (by decide) 0 (.int .i64 D.sd)).setBlk d0 (by decide) 1 (.slice A'' D.st.length kA)).setBlk d1 (by decide) 2 (.slice B'' D.co.length kB)).setBlk d2 (by decide) 3 (.slice V'' D.va.length kV))
      have q3 := ((((p3.setBlk b1 (by decide) 0 (.int .i64 D.sd)).setBlk d0 (by decide) 1 (.slice A'' D.st.length kA)).setBlk d1 (by decide) 2 (.slice B'' D.co.length kB)).setBlk d2 (by decide) 3 (.slice V'' D.va.length kV))
      have x2 := ((((hx0.set (p := ⟨rb, 0, none⟩) (by simp; try omega) (.int .i64 D.sd)).set (p := ⟨rb, 1, none⟩) (by simp; try omega) (.slice A'' D.st.length kA)).set (p := ⟨rb, 2, none⟩) (by simp; try omega) (.slice B'' D.co.length kB)).set (p := ⟨rb, 3, none⟩) (by simp; try omega) (.slice V'' D.va.length kV))
      have r0 := d3.cell 0 rfl
      have r1 := d3.cell 1 rfl
      have r2 := d3.cell 2 rfl
      have r3 := d3.cell 3 rfl
      refine bodyPost_ret (v := .tuple #[.agg #[.int .i64 D.sd, .slice A'' D.st.length kA, .slice B'' D.co.length kB, .slice V'' D.va.length kV], .bool D.ok]) (by simp only [results, Try.results76]; simp [go_sem, r0, r1, r2, r3]) rfl ?_
      exact ⟨A'', kA, B'', kB, V'', kV, rfl, q1, q2, q3, n12, n13, n23, x2⟩
end Go.Proofs.Ytkifpligpobiaaa
