
/- The program's graphs: lists of masks, neighbours. -/

import Derived.Test.YtkifpligpobiaaaK7

import Derived.Test.YtkifpligpobiaaaB1
set_option linter.unusedVariables false
set_option linter.unusedSimpArgs false

namespace Go.Proofs.Ytkifpligpobiaaa

open Go.RowKit


def natI (l : List Nat) : List Int := l.map fun (x : Nat) => (x : Int)
theorem natI_length (l : List Nat) : (natI l).length = l.length := by simp [natI]
theorem natI_append (l k : List Nat) : natI (l ++ k) = natI l ++ natI k := by simp [natI]
theorem natI_rd {l : List Nat} {k : Nat} (h : k < l.length) : rd (natI l) k = (l.getD k 0 : Nat) := by simp [rd, natI, h]
def u64s (xs : List Nat) : List Value := xs.map fun (x : Nat) => .int .u64 (x : Int)
theorem u64s_length (xs : List Nat) : (u64s xs).length = xs.length := by simp [u64s]
theorem u64s_append (xs ys : List Nat) : u64s (xs ++ ys) = u64s xs ++ u64s ys := by simp [u64s]
theorem u64s_set (xs : List Nat) (j x : Nat) : u64s (xs.set j x) = (u64s xs).set j (.int .u64 (x : Int)) := by simp [u64s, List.map_set]
theorem u64s_get {xs : List Nat} {j : Nat} (h : j < xs.length) : (u64s xs)[j]? = some (.int .u64 ((xs.getD j 0 : Nat) : Int)) := by simp [u64s, h]
/-- The masks of a graph. -/
def gl (n : Nat) (B : Grf) : List Nat := (List.range n).map fun i => msk n (B i)
theorem gl_length (n : Nat) (B : Grf) : (gl n B).length = n := by simp [gl]
theorem gl_at {n i : Nat} (B : Grf) (h : i < n) : (gl n B).getD i 0 = msk n (B i) := by simp [gl, h]
theorem gl_congr {n : Nat} {B B' : Grf} (h : ∀ i j, i < n → j < n → B i j = B' i j) : gl n B = gl n B' := by
  unfold gl
  apply List.map_congr_left
  intro i hi
  exact msk_congr fun j hj => h i j (List.mem_range.1 hi) hj
theorem gl_set {n i : Nat} {B B' : Grf} (hi : i < n) (h1 : ∀ a b, a < n → b < n → a ≠ i → B' a b = B a b) {x : Nat} (hx : x = msk n (B' i)) : (gl n B).set i x = gl n B' := by
  apply List.ext_getElem
  · simp [gl]
  intro j h2 h3
  have hj : j < n := by simpa [gl] using h3
  rw [List.getElem_set]
  simp only [gl, List.getElem_map, List.getElem_range]
  split
  · rename_i e
    subst e
    exact hx
  · rename_i e
    exact (msk_congr fun b hb => h1 j b hj hb (fun e' => e e'.symm)).symm
theorem gl_none (n : Nat) : gl n (fun _ _ => false) = List.replicate n 0 := by
  unfold gl
  rw [List.map_congr_left (g := fun _ => 0) (fun i _ => msk_false n)]
  simp [List.map_const']
theorem u64s_replicate (n : Nat) : u64s (List.replicate n 0) = List.replicate n (.int .u64 0) := by simp [u64s]
theorem info_u64 : (Try.prog.info? 86).map (fun i => (i.zero, i.size, i.bytes)) = some (some (.int .u64 0), 1, 8) := by kernel_rfl

/-- A list of whole numbers, a row of the call's own. -/
def RetIL (w : World) (xs : List Int) (e : Ending) (w' : World) : Prop := ∃ A c, e = .returned (.slice A xs.length c) ∧ Own w' w.heap.size 2 (.slice A xs.length c) (ints xs) ∧ Ext w w'

set_option maxRecDepth 20000 in
set_option maxHeartbeats 1000000 in
theorem list_any (m : Nat) (hm : m < 4294967296) (w : World) : Calls Try.prog 104 #[.int .u64 m] w (RetIL w (natI (lsB 64 fun k => m.testBit k))) := by
  go_enter Try.func104, Try.ntmps104
  go_wp2_with fail
  go_loopw [3, 6] (fun u v wr => ∃ k : Nat, k ≤ 64 ∧ v = .int .i64 k ∧ ∃ A n c, n = (lsB k fun k => m.testBit k).length ∧ u = .slice A n c ∧ Own wr w.heap.size 2 (.slice A n c) (ints (natI (lsB k fun k => m.testBit k))) ∧ Ext w wr) (fun _ v _ => 64 - (intOf v).toNat)
  case atStart => exact ⟨0, Nat.zero_le _, rfl, _, 0, 0, rfl, rfl, Own.empty _ _, (Ext.refl _).alloc _⟩
  case round =>
    obtain ⟨k, hk, rfl, A, n, c, hn, rfl, ho, hx⟩ := hrel
    by_cases hlt : k < 64
    · have hb := bit32 hm k
      have hn64 := lsB_len k fun k => m.testBit k
      rw [← hn] at hn64
      have Hn := Lib.hid hn
      clear hn
      cases ht : m.testBit k with
      | true =>
        rw [ht] at hb
        have He := Lib.hid (lsB_yes (k := k) (f := fun k => m.testBit k) ht)
        clear ht
        have ho' := ho.ext ((Ext.refl wr).alloc (.cells #[.int .i64 k] 2))
        have hsz := hx.size
        have hl := ho.len
        go_wp2_with (at_builtin; go_loud (refine wpList_app1 rfl _ _ _ rfl (wr.alloc (.cells #[.int .i64 k] 2)) w.heap.size 2 (.int .i64 0) 8 Try.underlying22 info_i64 rfl (by decide) (.slice A n c) (ints (natI (lsB k fun k => m.testBit k))) rfl wr.heap.size (.int .i64 k) rfl (One.new _ _ _) ho' rfl (by omega) (by simp; omega) ?_); rw [hl]; intro A' c' w3 h5 h6 h7)
        go_roundw
        case rel =>
          refine ⟨k + 1, by omega, by go_num, A', n + 1, c', by rw [He.out, List.length_append, ← Hn.out]; rfl, rfl, ?_, h6.ext (hx.alloc _) ho'⟩
          rw [He.out, natI_append, ints_append]
          exact h5
        case measure => simp [intOf]; omega
      | false =>
        rw [ht] at hb
        have He := Lib.hid (lsB_no (k := k) (f := fun k => m.testBit k) ht)
        clear ht
        go_wp2_with fail
        go_roundw
        case rel => exact ⟨k + 1, by omega, by go_num, A, n, c, by rw [He.out]; exact Hn.out, rfl, by rw [He.out]; exact ho, hx⟩
        case measure => simp [intOf]; omega
    · obtain rfl : k = 64 := by omega
      rw [← natI_length] at hn
      subst hn
      go_wp2_with fail
      go_ret
      exact ⟨A, c, rfl, ho, hx⟩
theorem list_msk (n : Nat) (f : Nat → Bool) (hn : n ≤ 32) (w : World) : Calls Try.prog 104 #[.int .u64 (msk n f : Nat)] w (RetIL w (natI (lsB n f))) := by
  have h := list_any (msk n f) (msk_lt32 hn f) w
  rw [lsB_msk n f (by omega)] at h
  exact h

set_option maxRecDepth 20000 in
set_option maxHeartbeats 1000000 in
theorem degree_any (n : Nat) (f : Nat → Bool) (hn : n ≤ 32) (w : World) : Calls Try.prog 101 #[.int .u64 (msk n f : Nat)] w fun e w' => e = .returned (.int .i64 (lsB n f).length) ∧ Ext w w' := by
  have hn64 := lsB_len n f
  obtain ⟨m, hm⟩ : ∃ m, m = msk n f := ⟨_, rfl⟩
  have hl : Hid (Calls Try.prog 104 #[.int .u64 m] w (RetIL w (natI (lsB n f)))) := by rw [hm]; exact list_msk n f hn w
  rw [← hm]
  clear hm
  go_enter Try.func101, Try.ntmps101
  go_wp2_with fail
  refine hl.out.mono ?_
  rintro e w1 ⟨A, c, rfl, ho, hx⟩
  rw [natI_length]
  go_wp2_with fail
  refine (length_any A _ c (by omega) _).mono ?_
  rintro e w2 ⟨rfl, rfl⟩
  go_wp2_with fail
  go_ret
  exact ⟨rfl, hx⟩

end Go.Proofs.Ytkifpligpobiaaa
