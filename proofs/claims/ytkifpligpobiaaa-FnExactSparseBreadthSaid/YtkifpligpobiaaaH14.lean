
/- Comparisons by degree; the least of a list. -/

import Derived.Test.YtkifpligpobiaaaH6

import Derived.Test.YtkifpligpobiaaaH3
set_option linter.unusedVariables false
set_option linter.unusedSimpArgs false

namespace Go.Proofs.Ytkifpligpobiaaa

open Go.RowKit


def cmpI (a b : Int) : Int := if a < b then -1 else if b < a then 1 else 0
def orI (x y : Int) : Int := if x = 0 then y else x
/-- The comparison by degree, then by number. -/
def cmpD (deg : Nat → Nat) (a b : Nat) : Int := orI (cmpI (deg a : Nat) (deg b : Nat)) (cmpI (a : Int) (b : Int))
theorem cmpD_lt {deg : Nat → Nat} {a b : Nat} : cmpD deg a b < 0 ↔ deg a < deg b ∨ (deg a = deg b ∧ a < b) := by
  unfold cmpD orI cmpI
  (repeat' split) <;> omega

set_option maxRecDepth 20000 in
set_option maxHeartbeats 1000000 in
theorem isNaN_i64 (a : Int) (w : World) : Calls Try.prog 137 #[.int .i64 a] w fun e w' => e = .returned (.bool false) ∧ w = w' := by
  have e' : (a != a) = false := by simp
  go_enter Try.func137, Try.ntmps137
  go_upto_region 1 with (fail)
  go_wp2
  go_ret
  exact ⟨rfl, rfl⟩
set_option maxRecDepth 20000 in
set_option maxHeartbeats 1000000 in
theorem cmpCompare_any (a b z : Int) (hz : z = cmpI a b) (w : World) :
    Calls Try.prog 100 #[.int .i64 a, .int .i64 b] w fun e w' => e = .returned (.int .i64 z) ∧ w = w' := by
  by_cases h1 : a < b
  · obtain rfl : z = -1 := by rw [hz]; unfold cmpI; rw [if_pos h1]
    clear hz
    go_enter Try.func100, Try.ntmps100
    go_upto_region 1 with (fail)
    go_wp2_with fail
    refine (isNaN_i64 _ _).mono ?_
    rintro e w1 ⟨rfl, rfl⟩
    go_wp2_with fail
    refine (isNaN_i64 _ _).mono ?_
    rintro e w1 ⟨rfl, rfl⟩
    go_wp2_with fail
    go_ret
    exact ⟨rfl, rfl⟩
  · by_cases h2 : b < a
    · obtain rfl : z = 1 := by rw [hz]; unfold cmpI; rw [if_neg h1, if_pos h2]
      clear hz
      go_enter Try.func100, Try.ntmps100
      go_upto_region 1 with (fail)
      go_wp2_with fail
      refine (isNaN_i64 _ _).mono ?_
      rintro e w1 ⟨rfl, rfl⟩
      go_wp2_with fail
      refine (isNaN_i64 _ _).mono ?_
      rintro e w1 ⟨rfl, rfl⟩
      go_wp2_with fail
      go_ret
      exact ⟨rfl, rfl⟩
    · obtain rfl : z = 0 := by rw [hz]; unfold cmpI; rw [if_neg h1, if_neg h2]
      clear hz
      go_enter Try.func100, Try.ntmps100
      go_upto_region 1 with (fail)
      go_wp2_with fail
      refine (isNaN_i64 _ _).mono ?_
      rintro e w1 ⟨rfl, rfl⟩
      go_wp2_with fail
      refine (isNaN_i64 _ _).mono ?_
      rintro e w1 ⟨rfl, rfl⟩
      go_wp2_with fail
      go_ret
      exact ⟨rfl, rfl⟩
theorem rds_two (w : World) (x y : Value) (e : TypeId) : Rds (w.alloc (.cells #[x, y] e)) (some ⟨w.heap.size, 0, none⟩) 2 [x, y] := by
  refine ⟨rfl, by omega, fun _ => ⟨_, rfl, fun j hj => ?_⟩⟩
  have hb := Blk.new w #[x, y] e
  have e1 : (⟨w.heap.size, 0, none⟩ : Addr).add j = ⟨w.heap.size, j, none⟩ := by (simp [Addr.add] <;> omega)
  rw [e1]
  match j, hj with
  | 0, _ => exact hb.cell 0 rfl
  | 1, _ => exact hb.cell 1 rfl
set_option maxRecDepth 20000 in
set_option maxHeartbeats 1000000 in
theorem cmpOr_any (A : Addr) (x y : Int) (w : World) (hr : Rds w (some A) 2 [.int .i64 x, .int .i64 y]) :
    Calls Try.prog 99 #[.slice (some A) 2 2] w fun e w' => e = .returned (.int .i64 (orI x y)) ∧ w = w' := by
  obtain ⟨ad, e', hc⟩ := hr.at' (by omega)
  obtain rfl := Option.some.inj e'
  have h0 : w.cell? A = some (.int .i64 x) := by
    have h := hc 0 (by omega)
    rw [show A.add 0 = A from by cases A; rfl] at h
    exact h
  have h1 : w.cell? ⟨A.block, A.off + 1, none⟩ = some (.int .i64 y) := by
    have h := hc (0 + 1) (by omega)
    rw [Addr.add_succ'] at h
    exact h
  clear hc e' hr
  obtain ⟨z, hz⟩ : ∃ z, z = orI x y := ⟨_, rfl⟩
  have HZ := Lib.hid hz
  rw [← hz]
  clear hz
  go_enter Try.func99, Try.ntmps99
  go_upto_region 1 with (fail)
  go_wp2_with fail
  go_loopw [8] (fun u wr => ∃ q : Nat, q ≤ 2 ∧ u = .int .i64 q ∧ Hid ((1 ≤ q → x = 0) ∧ (2 ≤ q → y = 0)) ∧ wr = w) (fun u _ => 2 - (intOf u).toNat)
  case atStart => exact ⟨0, by omega, rfl, ⟨fun h => by omega, fun h => by omega⟩, rfl⟩
  case round =>
    obtain ⟨q, hq, rfl, hh, rfl⟩ := hrel
    by_cases hq0 : q = 0
    · subst hq0
      by_cases hx : x = 0
      · have HX := Lib.hid hx
        subst hx
        go_wp2_with fail
        go_roundw
        case rel => exact ⟨1, by omega, by go_num, ⟨fun _ => by first | trivial | rfl, fun h => by omega⟩, by first | trivial | rfl⟩
        case measure => simp [intOf]
      · have e' : (x != 0) = true := by simpa using hx
        obtain rfl : x = z := by rw [HZ.out]; unfold orI; rw [if_neg hx]
        clear HZ
        go_wp2_with fail
        go_ret
        exact ⟨rfl, rfl⟩
    · by_cases hq1 : q = 1
      · subst hq1
        have hx := hh.out.1 (by omega)
        by_cases hy : y = 0
        · clear hx hq0
          subst hy
          have hh2 : Hid ((1 ≤ 2 → x = 0) ∧ (2 ≤ 2 → True)) := ⟨fun _ => hh.out.1 (by omega), fun _ => trivial⟩
          go_wp2_with fail
          go_roundw
          case rel => exact ⟨2, by omega, by go_num, hh2, by first | trivial | rfl⟩
          case measure => simp [intOf]
        · have e' : (y != 0) = true := by simpa using hy
          obtain rfl : y = z := by rw [HZ.out]; unfold orI; rw [if_pos hx]
          clear HZ hx hh hq0
          go_wp2_with fail
          go_ret
          exact ⟨rfl, rfl⟩
      · obtain rfl : q = 2 := by omega
        obtain rfl : z = 0 := by rw [HZ.out]; unfold orI; rw [if_pos (hh.out.1 (by omega))]; exact hh.out.2 (by omega)
        clear HZ hh hq0 hq1
        go_wp2_with fail
        go_ret
        exact ⟨rfl, rfl⟩

set_option maxRecDepth 20000 in
set_option maxHeartbeats 4000000 in
theorem minFunc_any (g : Nat) (lb : Array Value) (eg : ∀ args w, (callFunc g args).run Try.prog w = .ok (.enter g args) w) (A : Option Addr) (n cap : Nat) (L : List Nat) (deg : Nat → Nat) (hL : L.Pairwise (· < ·)) (hne : L ≠ []) (hn : n = L.length) (hs : n ≤ 1048576) (w : World) (Φ : World → Prop) (hΦ : ∀ W W', Φ W → Ext W W' → Φ W')
    (hp : Hid (∀ (a b : Nat) (W : World), a ∈ L → b ∈ L → Φ W → Calls Try.prog g (#[.int .i64 a, .int .i64 b] ++ lb) W fun e w' => e = .returned (.int .i64 (cmpD deg a b)) ∧ Ext W w'))
    (hr : Rds w A n (ints (natI L))) (h0 : Φ w) :
    Calls Try.prog 103 #[.slice A n cap, .func (.func g) #[] lb] w fun e w' => e = .returned (.int .i64 ((lowB deg L).getD 0 : Nat)) ∧ Ext w w' := by
  have hpos : 0 < L.length := List.length_pos_iff.2 hne
  have hn1 : 1 ≤ n := by omega
  obtain ⟨ad, rfl, hc0⟩ := hr.intN 0 (by omega)
  rw [natI_rd hpos, show ad.add 0 = ad from by cases ad; rfl] at hc0
  have HN := Lib.hid hn
  have HLS := Lib.hid hL
  have hfst : Hid (lowB deg (L.take 1) = some (L.getD 0 0)) := by
    show _ = _
    cases L with
    | nil => cases hpos
    | cons x l => rfl
  obtain ⟨x0, hx0⟩ : ∃ x0, x0 = L.getD 0 0 := ⟨_, rfl⟩
  rw [← hx0] at hc0 hfst
  have hnI : ¬ (n : Int) < 1 := by omega
  have hnI0 : (0 : Int) < n := by omega
  clear hx0 hn hL hpos
  go_enter Try.func103, Try.ntmps103
  go_upto_region 1 with (fail)
  go_wp2_with fail
  clear hc0
  go_loopw [5, 6] (fun u v wr => ∃ i m : Nat, 1 ≤ i ∧ i ≤ n ∧ v = .int .i64 i ∧ u = .int .i64 m ∧ Hid (lowB deg (L.take i) = some m) ∧ Ext w wr ∧ Φ wr) (fun _ v _ => n - (intOf v).toNat)
  case atStart => exact ⟨1, x0, by omega, by omega, rfl, rfl, hfst, Ext.refl _, h0⟩
  case round =>
    rename World => wA
    clear h0
    obtain ⟨i, m, hi1, hi, rfl, rfl, hm, hx, hph⟩ := hrel
    by_cases hlt : i < n
    · have g1 : IntKind.i64.wrap ((i : Int) + 1) = (i : Int) + 1 := IntWalk.i64_in _ (by omega)
      have hltI : (i : Int) < n := by omega
      have hlt' : i < L.length := by rw [← HN.out]; exact hlt
      obtain ⟨ad', e', hd⟩ := (hr.below hx).intN i hlt
      obtain rfl := Option.some.inj e'
      rw [natI_rd hlt'] at hd
      have hmx : m ∈ L.take i ∧ Hid (lowB deg (L.take (i + 1)) = if deg (L.getD i 0) < deg m then some (L.getD i 0) else some m) := by
        constructor
        · rcases lowB_spec (deg := deg) (HLS.out.sublist (List.take_sublist i L)) with ⟨h, h'⟩ | ⟨r, h, hr', _⟩
          · rw [hm.out] at h'; cases h'
          · rw [hm.out] at h; cases h; exact hr'
        · show _ = _
          rw [take_next hlt', lowB_snoc, hm.out]
          rfl
      have hxm : m < L.getD i 0 := by
        have e : L = L.take i ++ L[i] :: L.drop (i + 1) := by rw [List.getElem_cons_drop, List.take_append_drop]
        have hg : L.getD i 0 = L[i] := by simp [hlt']
        have hp := HLS.out
        rw [e, List.pairwise_append] at hp
        rw [hg]
        exact hp.2.2 _ hmx.1 _ List.mem_cons_self
      have hmem1 : L.getD i 0 ∈ L := by simp [hlt']
      have hmem2 : m ∈ L := List.mem_of_mem_take hmx.1
      have hnew := hmx.2
      obtain ⟨x, hxx⟩ : ∃ x, x = L.getD i 0 := ⟨_, rfl⟩
      rw [← hxx] at hd hnew hxm hmem1
      clear hxx hmx e'
      go_wp2_with fail
      refine (hp.out x m _ hmem1 hmem2 hph).mono ?_
      rintro e w2 ⟨rfl, hx2⟩
      have hd2 := hx2.cell hd
      have hph2 := hΦ _ _ hph hx2
      have hx3 := hx.trans hx2
      obtain ⟨z, hz⟩ : ∃ z, z = cmpD deg x m := ⟨_, rfl⟩
      rw [← hz]
      by_cases hdl : deg x < deg m
      · have hz0 : z < 0 := by rw [hz]; exact cmpD_lt.2 (.inl hdl)
        have hnw : Hid (lowB deg (L.take (i + 1)) = some x) := by show _ = _; rw [hnew.out, if_pos hdl]
        clear hz hd hx hx2 hph hm hnew
        go_wp2_with fail
        go_roundw
        case rel => exact ⟨i + 1, x, by omega, by omega, by go_num, rfl, hnw, hx3, hph2⟩
        case measure => simp [intOf]; omega
      · have hz0 : ¬ z < 0 := by rw [hz, cmpD_lt]; omega
        have hnw : Hid (lowB deg (L.take (i + 1)) = some m) := by show _ = _; rw [hnew.out, if_neg hdl]
        clear hz hd hx hx2 hph hm hnew
        go_wp2_with fail
        go_roundw
        case rel => exact ⟨i + 1, m, by omega, by omega, by go_num, rfl, hnw, hx3, hph2⟩
        case measure => simp [intOf]; omega
    · obtain rfl : i = n := by omega
      have hfin : Hid ((lowB deg L).getD 0 = m) := by
        show _ = _
        have h := hm.out
        rw [HN.out, List.take_length] at h
        rw [h]
        rfl
      go_wp2_with fail
      go_ret
      exact ⟨by rw [hfin.out]; rfl, hx⟩

set_option maxRecDepth 20000 in
set_option maxHeartbeats 4000000 in
theorem least1_any (N : Nat) (B : Grf) (hn32 : N ≤ 32) (ad : Addr) (gc pb i k : Nat) (hi : i < N) (hk : k < N) (w : World) (hp : w.cell? ⟨pb, 0, none⟩ = some (.slice (some ad) N gc)) (hg : Rds w (some ad) N (u64s (gl N B))) :
    Calls Try.prog 124 #[.int .i64 i, .int .i64 k, .pointer (some ⟨pb, 0, none⟩)] w fun e w' => e = .returned (.int .i64 (cmpD (degB N B) i k)) ∧ Ext w w' := by
  obtain ⟨ad', e', hcell⟩ := hg.at' (by omega)
  obtain rfl := Option.some.inj e'
  have h1 := hcell i hi
  have h2 := hcell k hk
  rw [u64s_get (by rw [gl_length]; exact hi), gl_at _ hi] at h1
  rw [u64s_get (by rw [gl_length]; exact hk), gl_at _ hk] at h2
  have hiI : (i : Int) < N := by omega
  have hkI : (k : Int) < N := by omega
  clear e' hcell
  have HR : Hid (orI (cmpI (degB N B i : Nat) (degB N B k : Nat)) (cmpI (i : Int) (k : Int)) = cmpD (degB N B) i k) := by show _ = _; rfl
  rw [← HR.out]
  have HD1 : Hid (∀ W, Calls Try.prog 101 #[.int .u64 (msk N (B i) : Nat)] W fun e w' => e = .returned (.int .i64 (degB N B i : Nat)) ∧ Ext W w') := by show ∀ W, _; exact fun W => degree_any N (B i) hn32 W
  have HD2 : Hid (∀ W, Calls Try.prog 101 #[.int .u64 (msk N (B k) : Nat)] W fun e w' => e = .returned (.int .i64 (degB N B k : Nat)) ∧ Ext W w') := by show ∀ W, _; exact fun W => degree_any N (B k) hn32 W
  obtain ⟨m1, hm1⟩ : ∃ m1, m1 = msk N (B i) := ⟨_, rfl⟩
  obtain ⟨m2, hm2⟩ : ∃ m2, m2 = msk N (B k) := ⟨_, rfl⟩
  obtain ⟨d1, hd1⟩ : ∃ d1, d1 = degB N B i := ⟨_, rfl⟩
  obtain ⟨d2, hd2⟩ : ∃ d2, d2 = degB N B k := ⟨_, rfl⟩
  rw [← hm1] at h1 HD1
  rw [← hm2] at h2 HD2
  rw [← hd1] at HD1
  rw [← hd2] at HD2
  rw [← hd1, ← hd2]
  clear hm1 hm2 hd1 hd2 hg HR
  obtain ⟨z1, hz1⟩ : ∃ z1, z1 = cmpI (d1 : Int) (d2 : Int) := ⟨_, rfl⟩
  obtain ⟨z2, hz2⟩ : ∃ z2, z2 = cmpI (i : Int) (k : Int) := ⟨_, rfl⟩
  have HZ1 := Lib.hid hz1
  have HZ2 := Lib.hid hz2
  rw [← hz1, ← hz2]
  clear hz1 hz2
  go_enter Try.func124, Try.ntmps124
  go_upto_region 1 with (fail)
  refine wp_region_T (cs := []) [0, 1, 2, 3, 4, 5, 6, 7, 8, 9, 10, 11, 12, 13, 14, 15, 16] [] [4, 9, 10, 13, 14, 15] [(15, [14])] (fun i__ v => match i__ with | 4 => v = (.int .i64 (d1 : Int)) | 9 => v = (.int .i64 (d2 : Int)) | 10 => v = (.int .i64 z1) | 13 => v = (.int .i64 z2) | 14 => ∃ g, v = .slice (some ⟨g, 0, none⟩) 2 2 | 15 => v = (.int .i64 (orI z1 z2)) | _ => False) (fun i__ v w' => match i__ with | 14 => RdsF w' v [] [.int .i64 z1, .int .i64 z2] | _ => True) (by kernel_rfl) (by kernel_rfl) (by intro i v w' w2 h hx; revert h; (try dsimp only); split <;> intro h <;> first | trivial | exact RdsF.ext h hx) ?_
  refine' wpT_det (o := ⟨some 6, Op.load 81 (Operand.tmp 2), 81, "l05_sparse.go:272", #[], none⟩) rfl (by rfl) (by rfl) (fun w' hw' => ?_) ?_; rotate_left
  · have hp_ := Ext.cell hw' hp; have h1_ := Ext.cell hw' h1; have h2_ := Ext.cell hw' h2; go_simp <;> first | rfl | exact ⟨rfl, rfl⟩
  simp only [Act.put, List.setIfInBounds_toArray, List.set_cons_zero, List.set_cons_succ]
  refine' wpT_det (o := ⟨some 7, Op.move (Operand.tmp 0), 2, "l05_sparse.go:272", #[], none⟩) rfl (by rfl) (by rfl) (fun w' hw' => ?_) ?_; rotate_left
  · go_simp <;> first | rfl | exact ⟨rfl, rfl⟩
  simp only [Act.put, List.setIfInBounds_toArray, List.set_cons_zero, List.set_cons_succ]
  refine' wpT_det (o := ⟨some 8, Op.indexAddr 81 (Operand.tmp 6) (Operand.tmp 7), 0, "l05_sparse.go:272", #[{ on := 0, ground := Ground.data }, { on := 1, ground := Ground.data }], none⟩) rfl (by rfl) (by rfl) (fun w' hw' => ?_) ?_; rotate_left
  · go_simp <;> first | rfl | exact ⟨rfl, rfl⟩
  simp only [Act.put, List.setIfInBounds_toArray, List.set_cons_zero, List.set_cons_succ]
  refine' wpT_det (o := ⟨some 9, Op.load 86 (Operand.tmp 8), 86, "l05_sparse.go:272", #[{ on := 2, ground := Ground.data }], none⟩) rfl (by rfl) (by rfl) (fun w' hw' => ?_) ?_; rotate_left
  · have hp_ := Ext.cell hw' hp; have h1_ := Ext.cell hw' h1; have h2_ := Ext.cell hw' h2; go_simp <;> first | rfl | exact ⟨rfl, rfl⟩
  simp only [Act.put, List.setIfInBounds_toArray, List.set_cons_zero, List.set_cons_succ]
  refine wpT_nd (o := ⟨some 10, Op.call { callee := Callee.value (Operand.func 101), args := #[Operand.tmp 9], argTypes := #[86] }, 2, "l05_sparse.go:272", #[{ on := 3, ground := Ground.data }], none⟩) rfl (by rfl) (by rfl) (fun w' hw' hF R__ hGo => ?_) ⟨_, rfl⟩ ?_
  · go_simp
    refine gives_enter rfl ?_
    refine (HD1.out _).mono ?_
    rintro e w2 ⟨rfl, hx⟩
    exact ⟨_, rfl, hGo _ _ hx rfl trivial⟩
  intro v hv
  obtain rfl : v = (.int .i64 (d1 : Int)) := hv
  simp only [Act.put, List.setIfInBounds_toArray, List.set_cons_zero, List.set_cons_succ]
  refine' wpT_det (o := ⟨some 11, Op.load 81 (Operand.tmp 2), 81, "l05_sparse.go:272", #[], none⟩) rfl (by rfl) (by rfl) (fun w' hw' => ?_) ?_; rotate_left
  · have hp_ := Ext.cell hw' hp; have h1_ := Ext.cell hw' h1; have h2_ := Ext.cell hw' h2; go_simp <;> first | rfl | exact ⟨rfl, rfl⟩
  simp only [Act.put, List.setIfInBounds_toArray, List.set_cons_zero, List.set_cons_succ]
  refine' wpT_det (o := ⟨some 12, Op.move (Operand.tmp 1), 2, "l05_sparse.go:272", #[], none⟩) rfl (by rfl) (by rfl) (fun w' hw' => ?_) ?_; rotate_left
  · go_simp <;> first | rfl | exact ⟨rfl, rfl⟩
  simp only [Act.put, List.setIfInBounds_toArray, List.set_cons_zero, List.set_cons_succ]
  refine' wpT_det (o := ⟨some 13, Op.indexAddr 81 (Operand.tmp 11) (Operand.tmp 12), 0, "l05_sparse.go:272", #[{ on := 5, ground := Ground.data }, { on := 6, ground := Ground.data }], none⟩) rfl (by rfl) (by rfl) (fun w' hw' => ?_) ?_; rotate_left
  · go_simp <;> first | rfl | exact ⟨rfl, rfl⟩
  simp only [Act.put, List.setIfInBounds_toArray, List.set_cons_zero, List.set_cons_succ]
  refine' wpT_det (o := ⟨some 14, Op.load 86 (Operand.tmp 13), 86, "l05_sparse.go:272", #[{ on := 7, ground := Ground.data }], none⟩) rfl (by rfl) (by rfl) (fun w' hw' => ?_) ?_; rotate_left
  · have hp_ := Ext.cell hw' hp; have h1_ := Ext.cell hw' h1; have h2_ := Ext.cell hw' h2; go_simp <;> first | rfl | exact ⟨rfl, rfl⟩
  simp only [Act.put, List.setIfInBounds_toArray, List.set_cons_zero, List.set_cons_succ]
  refine wpT_nd (o := ⟨some 15, Op.call { callee := Callee.value (Operand.func 101), args := #[Operand.tmp 14], argTypes := #[86] }, 2, "l05_sparse.go:272", #[{ on := 8, ground := Ground.data }, { on := 4, ground := Ground.chain }], none⟩) rfl (by rfl) (by rfl) (fun w' hw' hF R__ hGo => ?_) ⟨_, rfl⟩ ?_
  · go_simp
    refine gives_enter rfl ?_
    refine (HD2.out _).mono ?_
    rintro e w2 ⟨rfl, hx⟩
    exact ⟨_, rfl, hGo _ _ hx rfl trivial⟩
  intro v hv
  obtain rfl : v = (.int .i64 (d2 : Int)) := hv
  simp only [Act.put, List.setIfInBounds_toArray, List.set_cons_zero, List.set_cons_succ]
  refine wpT_nd (o := ⟨some 16, Op.call { callee := Callee.value (Operand.func 100), args := #[Operand.tmp 10, Operand.tmp 15], argTypes := #[2, 2] }, 3, "l05_sparse.go:272", #[{ on := 4, ground := Ground.data }, { on := 9, ground := Ground.data }, { on := 9, ground := Ground.chain }], none⟩) rfl (by rfl) (by rfl) (fun w' hw' hF R__ hGo => ?_) ⟨_, rfl⟩ ?_
  · go_simp
    refine gives_enter rfl ?_
    refine (cmpCompare_any _ _ z1 HZ1.out _).mono ?_
    rintro e w2 ⟨rfl, rfl⟩
    exact ⟨_, rfl, hGo _ _ (Ext.refl _) rfl trivial⟩
  intro v hv
  obtain rfl : v = (.int .i64 z1) := hv
  simp only [Act.put, List.setIfInBounds_toArray, List.set_cons_zero, List.set_cons_succ]
  refine' wpT_det (o := ⟨some 17, Op.move (Operand.tmp 0), 2, "l05_sparse.go:272", #[], none⟩) rfl (by rfl) (by rfl) (fun w' hw' => ?_) ?_; rotate_left
  · go_simp <;> first | rfl | exact ⟨rfl, rfl⟩
  simp only [Act.put, List.setIfInBounds_toArray, List.set_cons_zero, List.set_cons_succ]
  refine' wpT_det (o := ⟨some 18, Op.move (Operand.tmp 1), 2, "l05_sparse.go:272", #[], none⟩) rfl (by rfl) (by rfl) (fun w' hw' => ?_) ?_; rotate_left
  · go_simp <;> first | rfl | exact ⟨rfl, rfl⟩
  simp only [Act.put, List.setIfInBounds_toArray, List.set_cons_zero, List.set_cons_succ]
  refine wpT_nd (o := ⟨some 19, Op.call { callee := Callee.value (Operand.func 100), args := #[Operand.tmp 17, Operand.tmp 18], argTypes := #[2, 2] }, 3, "l05_sparse.go:272", #[{ on := 11, ground := Ground.data }, { on := 12, ground := Ground.data }, { on := 10, ground := Ground.chain }], none⟩) rfl (by rfl) (by rfl) (fun w' hw' hF R__ hGo => ?_) ⟨_, rfl⟩ ?_
  · go_simp
    refine gives_enter rfl ?_
    refine (cmpCompare_any _ _ z2 HZ2.out _).mono ?_
    rintro e w2 ⟨rfl, rfl⟩
    exact ⟨_, rfl, hGo _ _ (Ext.refl _) rfl trivial⟩
  intro v hv
  obtain rfl : v = (.int .i64 z2) := hv
  simp only [Act.put, List.setIfInBounds_toArray, List.set_cons_zero, List.set_cons_succ]
  refine wpT_nd (o := ⟨some 20, Op.buildSlice 134 2 #[(0, Operand.tmp 16), (1, Operand.tmp 19)], 134, "l05_sparse.go:272", #[{ on := 10, ground := Ground.data }, { on := 13, ground := Ground.data }], none⟩) rfl (by rfl) (by rfl) (fun w' hw' hF R__ hGo => ?_) ⟨_, 0, rfl⟩ ?_
  · go_simp; exact gives_value rfl (hGo _ _ ((Ext.refl _).alloc _) ⟨_, rfl⟩ (RdsF.of (rds_two _ _ _ _) rfl))
  rintro _ ⟨g9, rfl⟩
  simp only [Act.put, List.setIfInBounds_toArray, List.set_cons_zero, List.set_cons_succ]
  refine wpT_nd (o := ⟨some 21, Op.call { callee := Callee.value (Operand.func 99), args := #[Operand.tmp 20], argTypes := #[134] }, 3, "l05_sparse.go:272", #[{ on := 14, ground := Ground.data }, { on := 13, ground := Ground.chain }], none⟩) rfl (by rfl) (by rfl) (fun w' hw' hF R__ hGo => ?_) ⟨_, rfl⟩ ?_
  · go_simp
    refine gives_enter rfl ?_
    refine (cmpOr_any _ z1 z2 _ ((hF 14 (by simp [uses]) _ rfl) _ _ _ rfl)).mono ?_
    rintro e w2 ⟨rfl, rfl⟩
    exact ⟨_, rfl, hGo _ _ (Ext.refl _) rfl trivial⟩
  intro v hv
  obtain rfl : v = (.int .i64 (orI z1 z2)) := hv
  simp only [Act.put, List.setIfInBounds_toArray, List.set_cons_zero, List.set_cons_succ]
  refine' wpT_det (o := ⟨some 5, Op.assign (Operand.tmp 21), 3, "l05_sparse.go:272", #[{ on := 15, ground := Ground.data }, { on := 15, ground := Ground.chain }, { on := 0, ground := Ground.phase }, { on := 1, ground := Ground.phase }, { on := 2, ground := Ground.phase }, { on := 3, ground := Ground.phase }, { on := 4, ground := Ground.phase }, { on := 5, ground := Ground.phase }, { on := 6, ground := Ground.phase }, { on := 7, ground := Ground.phase }, { on := 8, ground := Ground.phase }, { on := 9, ground := Ground.phase }, { on := 10, ground := Ground.phase }, { on := 11, ground := Ground.phase }, { on := 12, ground := Ground.phase }, { on := 13, ground := Ground.phase }, { on := 14, ground := Ground.phase }, { on := 15, ground := Ground.phase }], none⟩) rfl (by rfl) (by rfl) (fun w' hw' => ?_) ?_; rotate_left
  · go_simp <;> first | rfl | exact ⟨rfl, rfl⟩
  simp only [Act.put, List.setIfInBounds_toArray, List.set_cons_zero, List.set_cons_succ]
  refine wpT_nil (fun w5 hw' hF => ?_)
  refine wpList_nil ?_
  have hx := hw'.undrew
  clear hF hw'
  go_wp2_with fail
  go_ret
  exact ⟨rfl, hx⟩

end Go.Proofs.Ytkifpligpobiaaa
