
/- Slices of entries that the laws make. -/

import Derived.Test.YtkifpligpobiaaaEN2

import Derived.Test.YtkifpligpobiaaaEN3
set_option linter.unusedVariables false
set_option linter.unusedSimpArgs false

namespace Go.Proofs.Ytkifpligpobiaaa

open Go.RowKit


set_option maxRecDepth 20000 in
set_option maxHeartbeats 400000 in
theorem szEntryS_any (A : Option Addr) (n cap : Nat) (left : Int) (hl : 0 ≤ left ∧ left ≤ 1048576) (hn : n ≤ 9223372036854775807) (w : World) :
    Calls Try.prog 51 #[.slice A n cap, .int .i64 left] w fun e w' => e = .returned (.int .i64 (szL n left)) ∧ w = w' := by
  by_cases h : left - n < 0
  all_goals
    go_enter Try.func51, Try.ntmps51
    go_wp2
    go_ret
    exact ⟨ret_int (by unfold szL; first | rw [if_pos h] | rw [if_neg (by omega)]), rfl⟩

set_option maxRecDepth 20000 in
set_option maxHeartbeats 2000000 in
theorem toEntry_any (a b : Int) (x : Nat) (w : World) :
    Calls Try.prog 117 #[.agg #[.int .i64 a, .int .i64 b, .float .f32 x]] w fun e w' => e = .returned (.agg #[.int .i64 a, .int .i64 b, .float .f32 x]) ∧ Ext w w' := by
  obtain ⟨w0, hw0⟩ : ∃ w0 : World, w0 = ((w.alloc (.cells #[.int .i64 a, .int .i64 b, .float .f32 x] 120)).alloc (.cells #[.int .i64 0, .int .i64 0, .float .f32 0] 113)).alloc (.cells #[.int .i64 0, .int .i64 0, .float .f32 0] 113) := ⟨_, rfl⟩
  have hx0 : Ext w w0 := by rw [hw0]; exact (((Ext.refl _).alloc _).alloc _).alloc _
  have ba : Blk w0 w.heap.size #[.int .i64 a, .int .i64 b, .float .f32 x] 120 := by rw [hw0]; exact (Blk.new _ _ _).ext (((Ext.refl _).alloc _).alloc _)
  have br : Blk w0 (w.heap.size + 1) #[.int .i64 0, .int .i64 0, .float .f32 0] 113 := by rw [hw0]; simpa using (Blk.new (w.alloc (.cells #[.int .i64 a, .int .i64 b, .float .f32 x] 120)) #[.int .i64 0, .int .i64 0, .float .f32 0] 113).ext ((Ext.refl _).alloc _)
  have bo : Blk w0 (w.heap.size + 1 + 1) #[.int .i64 0, .int .i64 0, .float .f32 0] 113 := by rw [hw0]; simpa using Blk.new ((w.alloc (.cells #[.int .i64 a, .int .i64 b, .float .f32 x] 120)).alloc (.cells #[.int .i64 0, .int .i64 0, .float .f32 0] 113)) #[.int .i64 0, .int .i64 0, .float .f32 0] 113
  have HW := Lib.hid hw0
  clear hw0
  have o0 := bo.set 0 (.int .i64 a)
  have o1 := o0.set 1 (.int .i64 b)
  have o2 := o1.set 2 (.float .f32 x)
  have a0 := ba.cell 0 rfl
  have a1 := (ba.other (b' := w.heap.size + 1 + 1) (by omega) 0 (.int .i64 a)).cell 1 rfl
  have a2 := ((ba.other (b' := w.heap.size + 1 + 1) (by omega) 0 (.int .i64 a)).other (b' := w.heap.size + 1 + 1) (by omega) 1 (.int .i64 b)).cell 2 rfl
  have s0 := store_i64 Try.prog a (bo.cell 0 rfl) (bo.free 0)
  have s1 := store_i64 Try.prog b (o0.cell 1 rfl) (o0.free 1)
  have s2 := store_f32 Try.prog x (o1.cell 2 rfl) (o1.free 2)
  have c0 := bo.cell 0 rfl
  have c1 := o0.cell 1 rfl
  have c2 := o1.cell 2 rfl
  have f0 := bo.free 0
  have f1 := o0.free 1
  have f2 := o1.free 2
  have e1 := bo.cell 1 rfl
  have e2 := bo.cell 2 rfl
  have h1 := bo.free 1
  have h2 := bo.free 2
  have lo := bo.lt
  have r0 := ((br.other (b' := w.heap.size + 1 + 1) (by omega) 0 (.int .i64 a)).other (b' := w.heap.size + 1 + 1) (by omega) 1 (.int .i64 b)).other (b' := w.heap.size + 1 + 1) (by omega) 2 (.float .f32 x)
  have hx3 : Ext w (((w0.setCell ⟨w.heap.size + 1 + 1, 0, none⟩ (.int .i64 a)).setCell ⟨w.heap.size + 1 + 1, 1, none⟩ (.int .i64 b)).setCell ⟨w.heap.size + 1 + 1, 2, none⟩ (.float .f32 x)) := ((hx0.set (by simp; omega) _).set (by simp; omega) _).set (by simp; omega) _
  clear ba br bo o0 o1
  go_enter Try.func117, Try.ntmps117
  go_upto_region 2 with (fail)
  rw [← HW.out]
  go_upto_region 5 with (fail)
  generalize (((w0.setCell ⟨w.heap.size + 1 + 1, 0, none⟩ (.int .i64 a)).setCell ⟨w.heap.size + 1 + 1, 1, none⟩ (.int .i64 b)).setCell ⟨w.heap.size + 1 + 1, 2, none⟩ (.float .f32 x)) = w3 at o2 r0 hx3 ⊢
  clear a0 a1 a2 s0 s1 s2 HW hx0 c0 c1 c2 f0 f1 f2 e1 e2 h1 h2 lo
  have z0 := o2.cell 0 rfl
  have z1 := o2.cell 1 rfl
  have z2 := o2.cell 2 rfl
  have q0 := r0.set 0 (.int .i64 a)
  have q1 := q0.set 1 (.int .i64 b)
  have q2 := q1.set 2 (.float .f32 x)
  have t0 := store_i64 Try.prog a (r0.cell 0 rfl) (r0.free 0)
  have t1 := store_i64 Try.prog b (q0.cell 1 rfl) (q0.free 1)
  have t2 := store_f32 Try.prog x (q1.cell 2 rfl) (q1.free 2)
  have f0 := r0.free 0
  have f1 := q0.free 1
  have f2 := q1.free 2
  have y0 := r0.cell 0 rfl
  have y1 := q0.cell 1 rfl
  have y2 := q1.cell 2 rfl
  have u1 := r0.cell 1 rfl
  have u2 := r0.cell 2 rfl
  have g1 := r0.free 1
  have g2 := r0.free 2
  go_wp2_with fail
  have v0 := q2.cell 0 rfl
  have v1 := q2.cell 1 rfl
  have v2 := q2.cell 2 rfl
  refine bodyPost_ret (v := .agg #[.int .i64 a, .int .i64 b, .float .f32 x]) (by simp only [results, Try.results117]; simp [go_sem, v0, v1, v2]) rfl ⟨rfl, ((hx3.set (by simp; try omega) _).set (by simp; try omega) _).set (by simp; try omega) _⟩


theorem ents_replicate (n : Nat) : (madeCells (Value.agg #[.int .i64 0, .int .i64 0, .float .f32 0]).cells (n * 3)).toList = ents (List.replicate n (0, 0, 0)) := by
  apply List.ext_getElem?
  intro i
  have hz : (Value.agg #[.int .i64 0, .int .i64 0, .float .f32 0]).cells = #[.int .i64 0, .int .i64 0, .float .f32 0] := rfl
  rw [hz]
  by_cases h : i < n * 3
  · have hj : i / 3 < (List.replicate n ((0, 0, 0) : Ent)).length := by simp; omega
    obtain ⟨h0, h1, h2⟩ := ents_get (List.replicate n ((0, 0, 0) : Ent)) (i / 3) hj
    have hr : rdE (List.replicate n ((0, 0, 0) : Ent)) (i / 3) = (0, 0, 0) := by rw [rdE_get hj]; simp
    rw [hr] at h0 h1 h2
    have hm : i % 3 = 0 ∨ i % 3 = 1 ∨ i % 3 = 2 := by omega
    have hL : (madeCells #[.int .i64 0, .int .i64 0, .float .f32 0] (n * 3)).toList[i]? = some ((#[.int .i64 0, .int .i64 0, .float .f32 0] : Array Value)[i % 3]!) := by
      simp [madeCells, h]
    rw [hL]
    rcases hm with e | e | e
    · rw [show i = i / 3 * 3 from by omega, h0, show i / 3 * 3 % 3 = 0 from by omega]; rfl
    · rw [show i = i / 3 * 3 + 1 from by omega, show (i / 3 * 3 + 1) % 3 = 1 from by omega]
      rw [show (i / 3 * 3 + 1) = i / 3 * 3 + 1 from rfl] 
      rw [h1]; rfl
    · rw [show i = i / 3 * 3 + 2 from by omega, show (i / 3 * 3 + 2) % 3 = 2 from by omega]
      rw [h2]; rfl
  · rw [List.getElem?_eq_none (by simp [size_madeCells]; omega), List.getElem?_eq_none (by rw [ents_length]; simp; omega)]

/-- A slice of entries that comes back. -/
def RetEnts (w : World) (n : Nat) (es : List Ent) (e : Ending) (w' : World) : Prop := ∃ A c, e = .returned (.slice A n c) ∧ OwnE w' w.heap.size (.slice A n c) es ∧ Ext w w'

set_option maxRecDepth 20000 in
set_option maxHeartbeats 2000000 in
theorem toEntryS_any (A : Option Addr) (n cap : Nat) (es : List Ent) (w : World) (hr : RdsE w A n es) (hn : n ≤ 1048576) :
    Calls Try.prog 53 #[.slice A n cap] w (RetEnts w n es) := by
  have hl := hr.len
  obtain ⟨i0, hi0, hz0, hz1, hz2⟩ := info_parts info_entry
  go_enter Try.func53, Try.ntmps53
  go_wp2_with (at_make; go_loud (refine wpList_make_full w rfl _ _ 51 rfl w.heap.size 113 i0 _ 3 Try.underlying51 hi0 hz0 hz1 .i64 .i64 _ _ n rfl rfl rfl rfl (by rw [hz2]; omega) (by unfold maxLen; omega) (Nat.le_refl _) ?_); intro w0 hrow hgr)
  have hx0 : Ext w w0 := Below.grown (Below.refl _ w) hgr (Nat.le_refl _) (fun k e => by cases e)
  have hown0 : OwnE w0 w.heap.size (.slice (some ⟨w.heap.size, 0, none⟩) n n) (List.replicate n (0, 0, 0)) := ⟨by rw [List.length_replicate, ← ents_replicate]; exact hrow, by simp; omega⟩
  clear hrow hgr
  go_loopw [4] (fun i wr => ∃ k : Nat, k ≤ n ∧ i = .int .i64 k ∧ OwnE wr w.heap.size (.slice (some ⟨w.heap.size, 0, none⟩) n n) (upto es k n (0, 0, 0)) ∧ Ext w wr) (fun i _ => n - (intOf i).toNat)
  case atStart => exact ⟨0, Nat.zero_le _, rfl, by rw [upto_zero]; exact hown0, hx0⟩
  case round =>
    rename World => wA
    clear hown0 hx0
    obtain ⟨k, hk, rfl, hown, hx⟩ := hrel
    by_cases hlt : k < n
    · obtain ⟨ad, rfl, hc0, hc1, hc2⟩ := (hr.below hx).ent k hlt
      obtain ⟨⟨a, b, x⟩, he⟩ : ∃ e, e = rdE es k := ⟨_, rfl⟩
      rw [← he] at hc0 hc1 hc2
      dsimp only at hc0 hc1 hc2
      have HE := Lib.hid he
      clear he
      have g1 : IntKind.i64.wrap ((k : Int) + 1) = (k : Int) + 1 := IntWalk.i64_in _ (by omega)
      go_wp2_with fail
      refine (toEntry_any a b x _).mono ?_
      rintro e w2 ⟨rfl, hx2⟩
      have ho2 := hown.ext hx2
      replace hx := hx.trans hx2
      obtain ⟨m1, m2, ⟨⟨d0, c0⟩, f0⟩, ⟨⟨d1, c1⟩, f1⟩, ⟨d2, c2⟩, f2⟩ := ho2.mark hlt a b x
      obtain ⟨k0, k1, k2, q0, q1, q2⟩ := ho2.cells k hlt
      have s2 := store_f32 Try.prog x c2 f2
      have HM1 : Hid (upto es (k + 1) n (0, 0, 0) = (upto es k n (0, 0, 0)).set k (a, b, x)) := (upto_set hl hlt (0, 0, 0) (a, b, x) (by rw [List.getElem?_eq_getElem (by omega), ← rdE_get (by omega), ← HE.out])).symm
      have HO2 := Lib.hid ho2
      clear hown ho2 hx2 hc0 hc1 hc2
      go_wp2_with fail
      go_roundw
      case rel => exact ⟨k + 1, by omega, by go_num, by rw [HM1.out]; exact m1, m2.extE hx HO2.out⟩
      case measure => simp [intOf]; omega
    · obtain rfl : k = n := by omega
      rw [upto_all hl] at hown
      go_wp2_with fail
      go_ret
      exact ⟨_, _, rfl, hown, hx⟩

end Go.Proofs.Ytkifpligpobiaaa
