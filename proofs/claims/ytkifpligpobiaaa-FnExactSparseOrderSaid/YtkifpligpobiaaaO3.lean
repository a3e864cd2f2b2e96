
/- slices.Values and slices.AppendSeq over a list of integers. -/

import Derived.RangeFuncNested

import Derived.RangeFuncBound

import Derived.RangeFuncCalls

import Derived.RangeFuncLeaves

import Derived.Shelf.Abstract

import Derived.WalkKit

import Derived.OwnWalkIn

import Derived.TacticsInMore

import Derived.LoopNIn

import Derived.LoopIn

import Derived.Maps.AppendAt

import Derived.Shelf.SlIterI.Sorted

import Derived.Test.YtkifpligpobiaaaSrt

import Derived.Test.YtkifpligpobiaaaProg

import Derived.Test.YtkifpligpobiaaaLib
set_option linter.unusedVariables false
set_option linter.unusedSimpArgs false

namespace Go.Proofs.Ytkifpligpobiaaa

open Go.RowKit Go.Shelf Go.Maps Go.Sort
attribute [local go_sem] Oper.semAt_some

/-- What has come when k rounds are over. -/
def ups (zs : List Int) (k : Nat) : List Int := (List.range k).map fun (j : Nat) => rd zs (j : Int)
theorem ups_succ (zs : List Int) (k : Nat) : ups zs (k + 1) = ups zs k ++ [rd zs k] := by simp [ups, List.range_succ]
theorem ups_length (zs : List Int) (k : Nat) : (ups zs k).length = k := by simp [ups]
theorem ups_all (zs : List Int) : ups zs zs.length = zs := by
  apply List.ext_getElem
  · simp [ups]
  · intro i h1 h2
    simp [ups, rd, h2]

set_option maxRecDepth 100000 in
set_option maxHeartbeats 2000000 in
theorem vals1_in (n : Nat) (hn : 1 ≤ n) (l Bs n₀ : Nat) (ad : Addr) (len cap : Nat) (zs : List Int) (hreach : len ≤ 1048576) (hb : ∀ j : Nat, j < len → (ad.add j).block < n₀) (J Jx : List Int → World → Prop)
    (hY : ∀ pre x W, J pre W → pre.length < len → YieldAt Fence.wide (n - 1) Try.prog l #[.int .i64 x] W fun e W' =>
      (e = .returned (.bool true) ∧ J (pre ++ [x]) W' ∧ Below n₀ W W') ∨ (e = .returned (.bool false) ∧ Jx (pre ++ [x]) W'))
    (W : World) (hBs : W.cell? ⟨Bs, 0, none⟩ = some (.slice (some ad) len cap)) (hc : ∀ j : Nat, j < len → W.cell? (ad.add j) = some (.int .i64 (rd zs j))) (h0 : J [] W) :
    CallsIn Fence.wide n Try.prog 150 #[.func (.yield l) #[] #[], .pointer (some ⟨Bs, 0, none⟩)] W fun e W' => (∃ v, e = .returned v) ∧
      ((∃ ys, ys = ups zs len ∧ J ys W') ∨ (∃ pre, (∃ k, k ≤ len ∧ pre = ups zs k) ∧ Jx pre W')) := by
  refine callsIn_of_wp Try.func150 rfl trivial ?_ rfl
  simp only [Try.ntmps150, List.size_toArray, List.length_cons, List.length_nil, Nat.reduceAdd, Nat.reduceSub, Array.replicate_succ, Array.replicate_zero, List.push_toArray, List.append_toArray, List.nil_append, List.cons_append]
  gi_wp2
  gi_loopw [7] (fun i wr => ∃ k : Nat, k ≤ len ∧ i = .int .i64 k ∧ J (ups zs k) wr ∧ Below n₀ W wr)
    (fun i _ => len - (intOf i).toNat)
  case atStart => exact ⟨0, Nat.zero_le _, rfl, h0, Below.refl _ _⟩
  case round =>
    obtain ⟨k, hk, rfl, hJs, hnx⟩ := hrel
    have hcx : k < len → wr.cell? (ad.add k) = some (.int .i64 (rd zs k)) := fun h => (hnx.cell (p := ad.add k) (hb k h)).trans (hc k h)
    by_cases hlt : k < len
    · obtain ⟨fn, tmps, assign, body, hy, hR⟩ := hY _ (rd zs k) wr hJs (by rw [ups_length]; exact hlt)
      have hcx' := hcx hlt
      gi_wp2
      refine hR.mono ?_
      rintro e W3 (⟨rfl, hJ3, hk3⟩ | ⟨rfl, hJx3⟩)
      · gi_wp2
        go_roundw
        case rel => exact ⟨k + 1, by omega, by simp, by rw [ups_succ]; exact hJ3, hnx.trans hk3⟩
        case measure => simp [intOf]; omega
      · gi_wp2
        refine bodyPost_ret (results_none rfl _ _ _) rfl ?_
        exact ⟨⟨_, rfl⟩, .inr ⟨_, ⟨k + 1, by omega, (ups_succ _ _).symm⟩, hJx3⟩⟩
    · obtain rfl : k = len := by omega
      gi_wp2
      go_end0
      exact ⟨⟨_, rfl⟩, .inl ⟨_, rfl, hJs⟩⟩

set_option maxHeartbeats 1000000 in
theorem vals_in (n : Nat) (a : Option Addr) (len cap : Nat) (w : World) :
    CallsIn Fence.wide n Try.prog 132 #[.slice a len cap] w fun e w' => e = .returned (.func (.func 150) #[] #[.pointer (some ⟨w.heap.size, 0, none⟩)]) ∧ w' = w.alloc (.cells #[.slice a len cap] 22) := by
  refine callsIn_of_wp Try.func132 rfl trivial ?_ rfl
  simp only [Try.ntmps132, List.size_toArray, List.length_cons, List.length_nil, Nat.reduceAdd, Nat.reduceSub, Array.replicate_succ, Array.replicate_zero, List.push_toArray, List.append_toArray, List.nil_append, List.cons_append]
  gi_wp2
  go_ret
  exact ⟨rfl, rfl⟩

theorem vals_stops (n : Nat) (hn : 1 ≤ n) (Bs n₀ : Nat) (ad : Addr) (cap : Nat) (zs : List Int) (hreach : zs.length ≤ 1048576) (hb : ∀ j : Nat, j < zs.length → (ad.add j).block < n₀) (w : World) (hBs : Bs < w.heap.size) (hn₀ : n₀ ≤ w.heap.size)
    (hc : w.cell? ⟨Bs, 0, none⟩ = some (.slice (some ad) zs.length cap)) (hI : ∀ j : Nat, j < zs.length → w.cell? (ad.add j) = some (.int .i64 (rd zs j))) :
    SeqStopsK Fence.wide n Try.prog 150 #[.pointer (some ⟨Bs, 0, none⟩)] (fun x : Int => #[Value.int .i64 x]) (Below n₀) (fun ys => ys = zs) (fun _ => True) zs.length w := fun l J Jx W hW _ _ hY h0 => by
  have hc' := (hW.cell (p := ⟨Bs, 0, none⟩) hBs).trans hc
  refine (vals1_in n hn l Bs n₀ ad zs.length cap zs hreach hb J Jx hY W hc' (fun j hj => (hW.cell (p := ad.add j) (Nat.lt_of_lt_of_le (hb j hj) hn₀)).trans (hI j hj)) h0).mono ?_
  rintro e W' ⟨he, ⟨ys, rfl, hj⟩ | ⟨pre, ⟨k, hk, rfl⟩, hj⟩⟩
  · exact ⟨he, .inl ⟨_, ups_all zs, hj⟩⟩
  · exact ⟨he, .inr ⟨_, trivial, hj⟩⟩

theorem info_i64 : (Try.prog.info? 2).map (fun i => (i.zero, i.size, i.bytes)) = some (some (.int .i64 0), 1, 8) := by kernel_rfl

set_option maxRecDepth 100000 in
set_option maxHeartbeats 4000000 in
/-- slices.AppendSeq(nil, slices.Values(list)): a copy. -/
theorem appendSeq_in (n : Nat) (hn : 3 ≤ n) (Bs : Nat) (ad : Addr) (cap : Nat) (zs : List Int) (hreach : zs.length ≤ 1048576) (w : World) (hb : ∀ j : Nat, j < zs.length → (ad.add j).block < w.heap.size) (hBs : Bs < w.heap.size)
    (hc : w.cell? ⟨Bs, 0, none⟩ = some (.slice (some ad) zs.length cap)) (hI : ∀ j : Nat, j < zs.length → w.cell? (ad.add j) = some (.int .i64 (rd zs j))) :
    CallsIn Fence.wide n Try.prog 168 #[.slice none 0 0, .func (.func 150) #[] #[.pointer (some ⟨Bs, 0, none⟩)]] w fun e w' => ∃ v, e = .returned v ∧ w'.ownsRow w.heap.size 2 1 v zs.length (ints zs) ∧ Below w.heap.size w w' := by
  have h1 : 1 ≤ n := by omega
  obtain ⟨i0, hi, hz0, hz1, hz2⟩ := info_parts info_i64
  obtain ⟨sv, hsv⟩ : ∃ sv : Value, sv = .func (.func 150) #[] #[.pointer (some ⟨Bs, 0, none⟩)] := ⟨_, rfl⟩
  refine callsIn_of_wp_marks Try.func168 rfl trivial ?_ rfl
  simp only [Try.ntmps168, List.size_toArray, List.length_cons, List.length_nil, Nat.reduceAdd, Nat.reduceSub, Array.replicate_succ, Array.replicate_zero, List.push_toArray, List.append_toArray, List.nil_append, List.cons_append]
  gi_wp2
  obtain ⟨W0, hW0⟩ : ∃ W0, w.alloc (.cells #[.slice none 0 0] 22) = W0 := ⟨_, rfl⟩
  have hs0 : W0.heap.size = w.heap.size + 1 := by rw [← hW0]; simp
  have hb0 : Below w.heap.size w W0 := by rw [← hW0]; exact (Below.refl _ w).alloc (Nat.le_refl _) _
  have hbx : Boxed W0 w.heap.size 22 (.slice none 0 0) := by rw [← hW0]; exact Boxed.new _ _ _
  rw [hW0]
  clear hW0
  refine wpIn_rangeFunc_ownF rfl h1 (gf := 150) (lb := #[.pointer (some ⟨Bs, 0, none⟩)]) rfl trivial (enters_of Try.func150 (by kernel_rfl) rfl)
    (vals_stops (n - 1) (by omega) Bs w.heap.size ad cap zs hreach hb W0 (by omega) (by omega) ((hb0.cell (p := ⟨Bs, 0, none⟩) hBs).trans hc) (fun j hj => (hb0.cell (p := ad.add j) (hb j hj)).trans (hI j hj))) belowK_t (belowK_b (by omega)) (Below.refl _ _) (fun _ => rfl)
    (fun pre W => (∃ v, Boxed W w.heap.size 22 v ∧ W.ownsRow w.heap.size 2 1 v (id pre : List Int).length (ints (id pre)) ∧ True) ∧ Below w.heap.size w W)
    (fun _ _ _ => False)
    (OwnFrom.and (Own.from (holdsRow_own w.heap.size w.heap.size 22 2 1 (fun pre : List Int => (id pre).length) (fun pre => ints (id pre)) (fun _ _ => True)) _) (ownFrom_below (Nat.le_refl _) (by omega)))
    (fun _ _ _ _ _ hs _ _ => hs)
    ⟨⟨_, hbx, World.ownsRow_nil _ _ _ _, trivial⟩, hb0⟩
    (fun x => { tmps := #[.slice none 0 0, .func (.func 150) #[] #[.pointer (some ⟨Bs, 0, none⟩)], .pointer (some ⟨w.heap.size, 0, none⟩), undef, .slice none 0 0, .int .i64 x, .func (.func 150) #[] #[.pointer (some ⟨Bs, 0, none⟩)], .int .i64 x, undef, undef, undef, undef, undef], defers := [] }) ?assign ?body ?done ?stop
  case assign =>
    intro l x W K hK
    gi_wp2
    exact hK
  case body =>
    rintro l pre x W ⟨⟨v, hv, hrow, _⟩, hB⟩ hlt
    have hcv := hv.cell
    have hWs := hB.size
    simp only [id] at hrow
    gi_wp2_with (gi_at_builtin; refine wpListIn_append_own _ rfl _ _ 22 rfl w.heap.size 2 i0 (.int .i64 0) 1 8 Try.underlying22 hi hz0 hz1 hz2 rfl (by decide) _ _ _ rfl (hrow.alloc _) ⟨W.heap.size, 0, none⟩ 1 1 [.int .i64 x] rfl rfl (cell_one_new _ _ _) (by simp [Value.oneCell']) (by unfold maxLen; omega) (by omega) (by simp; omega) ?_; intro v' w1 hown' hgrow _; obtain ⟨g', cap', rfl⟩ := ownsRow_succ hown'; obtain ⟨hv1, hv2, hr2, hk2, hb2⟩ := hv.appended (by decide) hrow hB.size (Nat.le_refl _) hown' hgrow; have hc1 := hv1.cell; have hf1 := hv1.frozen)
    exact ⟨hk2, hb2, ⟨_, hv2, by simpa [ints] using hr2, trivial⟩, hB.trans hb2⟩
  case done =>
    rintro D ys W hD rfl ⟨⟨v, hv, hrow, _⟩, hB⟩ hK
    have hcv := hv.cell
    gi_wp2
    refine ⟨by simp, .inl ⟨_, _, rfl, run_takeDeferred hK, ?_⟩⟩
    exact ⟨_, results_tmp rfl _ _ _, _, rfl, ownsRow_putObj hrow _ hK rfl, hB.trans (belowK_b (w := W0) (by omega) W D _ _ (by omega) hK rfl rfl)⟩
  case stop =>
    rintro D c pre W _ _ h _
    exact h.elim

set_option maxHeartbeats 1000000 in
theorem collect_in (n : Nat) (hn : 4 ≤ n) (Bs : Nat) (ad : Addr) (cap : Nat) (zs : List Int) (hreach : zs.length ≤ 1048576) (w : World) (hb : ∀ j : Nat, j < zs.length → (ad.add j).block < w.heap.size) (hBs : Bs < w.heap.size)
    (hc : w.cell? ⟨Bs, 0, none⟩ = some (.slice (some ad) zs.length cap)) (hI : ∀ j : Nat, j < zs.length → w.cell? (ad.add j) = some (.int .i64 (rd zs j))) :
    CallsIn Fence.wide n Try.prog 148 #[.func (.func 150) #[] #[.pointer (some ⟨Bs, 0, none⟩)]] w fun e w' => ∃ v, e = .returned v ∧ w'.ownsRow w.heap.size 2 1 v zs.length (ints zs) ∧ Below w.heap.size w w' := by
  have h1 : 1 ≤ n := by omega
  have hfA : Fence.wide.fn 168 := trivial
  have cA := appendSeq_in (n - 1) (by omega) Bs ad cap zs hreach w hb hBs hc hI
  refine callsIn_of_wp Try.func148 rfl trivial ?_ rfl
  simp only [Try.ntmps148, List.size_toArray, List.length_cons, List.length_nil, Nat.reduceAdd, Nat.reduceSub, Array.replicate_succ, Array.replicate_zero, List.push_toArray, List.append_toArray, List.nil_append, List.cons_append]
  gi_wp2_with (gi_at_call 168; refine cA.mono ?_; rintro e w' ⟨v, rfl, hrow, hx⟩)
  go_ret
  exact ⟨v, rfl, hrow, hx⟩


set_option maxHeartbeats 1000000 in
theorem sorted_in (n : Nat) (hn : 5 ≤ n) (Bs : Nat) (ad : Addr) (cap : Nat) (zs : List Int) (h0 : 0 < zs.length) (hreach : zs.length ≤ 1048576) (w : World) (hb : ∀ j : Nat, j < zs.length → (ad.add j).block < w.heap.size) (hBs : Bs < w.heap.size)
    (hc : w.cell? ⟨Bs, 0, none⟩ = some (.slice (some ad) zs.length cap)) (hI : ∀ j : Nat, j < zs.length → w.cell? (ad.add j) = some (.int .i64 (rd zs j))) :
    CallsIn Fence.wide n Try.prog 131 #[.func (.func 150) #[] #[.pointer (some ⟨Bs, 0, none⟩)]] w fun e w' => ∃ g c, e = .returned (.slice (some ⟨g, 0, none⟩) zs.length c) ∧ w'.ownsRow w.heap.size 2 1 (.slice (some ⟨g, 0, none⟩) zs.length c) zs.length (ints (zs.mergeSort fun x y => decide (x ≤ y))) ∧ Below w.heap.size w w' := by
  have h1 : 1 ≤ n := by omega
  have hfC : Fence.wide.fn 148 := trivial
  have hfS : Fence.wide.fn 149 := trivial
  have cC := collect_in (n - 1) (by omega) Bs ad cap zs hreach w hb hBs hc hI
  refine callsIn_of_wp Try.func131 rfl trivial ?_ rfl
  simp only [Try.ntmps131, List.size_toArray, List.length_cons, List.length_nil, Nat.reduceAdd, Nat.reduceSub, Array.replicate_succ, Array.replicate_zero, List.push_toArray, List.append_toArray, List.nil_append, List.cons_append]
  gi_wp2_with (gi_at_call 148; refine cC.mono ?_; rintro e W ⟨v, rfl, hrow, hx⟩)
  rcases hrow.2 with ⟨rfl, hz⟩ | ⟨gb, cp, cur, rfl, hbase, hgb, r1, r2, r3, r4⟩
  · omega
  · have hH : Go.Sort.Holds encZ W gb 0 zs.toArray := holds_of_block_i hgb (by simpa [ints, encZ] using r4)
    have hgl : gb < W.heap.size := (Array.getElem?_eq_some_iff.1 hgb).1
    have cS : CallsIn Fence.wide (n - 1) Try.prog 149 #[.slice (some ⟨gb, 0, none⟩) zs.length cp] W fun e w' => e = .returned (.tuple #[]) ∧ ∃ k os, w' = grow (putRow encZ (Sort.ahead W k) gb 0 (zs.mergeSort fun x y => decide (x ≤ y)).toArray) os := callsIn_wide.2 (AnyM.slices_Sort_int sortA gb 0 cp zs W hH hgl (by omega))
    gi_wp2_with (gi_at_call 149; refine cS.mono ?_; rintro e w' ⟨rfl, nn, os, rfl⟩)
    go_ret
    refine ⟨gb, cp, rfl, ?_, hx.grown (grownBy_sorted_i _) hx.size (fun j hj => by cases hj; exact hbase)⟩
    have := ownsRow_sorted_i (w := W) (n := nn) (os := os) (ts := zs.mergeSort fun x y => decide (x ≤ y)) (by simp) hbase hgb r1 r2 r3
    simpa [ints, encZ] using this

end Go.Proofs.Ytkifpligpobiaaa
