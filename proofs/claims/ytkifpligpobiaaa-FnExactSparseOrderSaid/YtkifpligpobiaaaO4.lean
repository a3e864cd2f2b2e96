
/- isPermutation. -/

import Derived.Test.YtkifpligpobiaaaO1

import Derived.Test.YtkifpligpobiaaaO3
set_option linter.unusedVariables false
set_option linter.unusedSimpArgs false

namespace Go.Proofs.Ytkifpligpobiaaa

open Go.RowKit Go.Shelf Go.Maps Go.Sort

def srtI (xs : List Int) : List Int := xs.mergeSort fun x y => decide (x ≤ y)
theorem srtI_perm (xs : List Int) : (srtI xs).Perm xs := List.mergeSort_perm _ _
theorem srtI_len (xs : List Int) : (srtI xs).length = xs.length := (srtI_perm xs).length_eq
theorem srtI_le (xs : List Int) : List.Pairwise (fun a b : Int => a ≤ b) (srtI xs) := by
  have h := List.pairwise_mergeSort (le := fun x y : Int => decide (x ≤ y)) (by intro a b c h1 h2; simp at *; omega) (by intro a b; simp; omega) xs
  exact h.imp (fun h => of_decide_eq_true h)
theorem nodup_of_ord {n : Nat} {L : List Int} (hl : L.length = n) (h : OrdI n L n) : L.Nodup := by
  unfold List.Nodup
  rw [List.pairwise_iff_getElem]
  intro i j hi hj hij
  have := h.2 i j hij (by omega)
  rwa [rd_get hi, rd_get hj] at this
/-- A list is a permutation just where its sorted form counts up. -/
theorem prm_sorted {n : Nat} {L : List Int} (hl : L.length = n) : OrdI n L n ↔ ∀ i : Nat, i < n → rd (srtI L) i = i := by
  have hp := srtI_perm L
  have hsl : (srtI L).length = n := (srtI_len L).trans hl
  constructor
  · intro h
    have hnd : (srtI L).Nodup := (hp.nodup_iff).2 (nodup_of_ord hl h)
    have hlt : List.Pairwise (fun a b : Int => a < b) (srtI L) := by
      refine ((srtI_le L).and hnd).imp ?_
      rintro a b ⟨h1, h2⟩
      omega
    rw [List.pairwise_iff_getElem] at hlt
    have hmem : ∀ i : Nat, i < n → 0 ≤ rd (srtI L) i ∧ rd (srtI L) i < n := by
      intro i hi
      rw [rd_get (by omega)]
      have hm : (srtI L)[i]'(by omega) ∈ L := hp.mem_iff.1 (List.getElem_mem _)
      obtain ⟨j, hj, e⟩ := List.getElem_of_mem hm
      rw [← e, ← rd_get hj]
      exact h.1 j (by omega)
    have hstep : ∀ i j : Nat, i < j → j < n → rd (srtI L) i < rd (srtI L) j := by
      intro i j hij hj
      rw [rd_get (by omega), rd_get (by omega)]
      exact hlt i j (by omega) (by omega) hij
    have hge : ∀ i : Nat, i < n → (i : Int) ≤ rd (srtI L) i := by
      intro i
      induction i with
      | zero => intro hi; exact (hmem 0 hi).1
      | succ i ih => intro hi; have := ih (by omega); have := hstep i (i + 1) (by omega) hi; omega
    have hle : ∀ d i : Nat, i + d + 1 = n → rd (srtI L) i ≤ i := by
      intro d
      induction d with
      | zero => intro i hi; have := (hmem i (by omega)).2; omega
      | succ d ih => intro i hi; have := ih (i + 1) (by omega); have := hstep i (i + 1) (by omega) (by omega); omega
    intro i hi
    have := hge i hi
    have := hle (n - 1 - i) i (by omega)
    omega
  · intro h
    have hS : OrdI n (srtI L) n := ⟨fun a ha => by rw [h a ha]; omega, fun a b hab hb => by rw [h a (by omega), h b hb]; omega⟩
    have hnd : L.Nodup := (hp.nodup_iff).1 (nodup_of_ord hsl hS)
    unfold List.Nodup at hnd
    rw [List.pairwise_iff_getElem] at hnd
    refine ⟨fun a ha => ?_, fun a b hab hb => ?_⟩
    · rw [rd_get (by omega)]
      have hm : L[a]'(by omega) ∈ srtI L := hp.mem_iff.2 (List.getElem_mem _)
      obtain ⟨j, hj, e⟩ := List.getElem_of_mem hm
      rw [← e, ← rd_get hj]
      exact hS.1 j (by omega)
    · rw [rd_get (by omega), rd_get (by omega)]
      exact hnd a b (by omega) (by omega) hab

set_option maxHeartbeats 4000000 in
theorem isPermutation_any (n : Nat) (A : Option Addr) (c : Nat) (L : List Int) (hn1 : 1 ≤ n) (hn32 : n ≤ 32) (w : World) (hr : Rds w A n (ints L)) :
    Calls Try.prog 88 #[.slice A n c] w fun e w' => e = .returned (.bool (prmB n L)) ∧ Ext w w' := by
  have hl := hr.ilen
  obtain ⟨ad, rfl, hc0⟩ := hr.at' (by omega)
  have hcI : ∀ j : Nat, j < L.length → w.cell? (ad.add j) = some (.int .i64 (rd L j)) := fun j hj => by rw [hc0 j (by omega), ints_get hj]
  have hcB : ∀ j : Nat, j < L.length → (ad.add j).block < w.heap.size := fun j hj => World.block_lt_of_cell? w _ (hcI j hj)
  have cV := callsIn_wide.1 (vals_in 1 (some ad) n c w)
  obtain ⟨w1, hw1⟩ : ∃ v : World, v = w.alloc (.cells #[.slice (some ad) n c] 22) := ⟨_, rfl⟩
  have hx1 : Ext w w1 := by rw [hw1]; exact (Ext.refl _).alloc _
  have hs1 : w1.heap.size = w.heap.size + 1 := by rw [hw1]; simp
  have hb1 : w1.cell? ⟨w.heap.size, 0, none⟩ = some (.slice (some ad) L.length c) := by rw [hw1, hl]; exact (Blk.new w #[.slice (some ad) n c] 22).cell 0 rfl
  have cS := callsIn_wide.1 (sorted_in 5 (by omega) w.heap.size ad c L (by omega) (by omega) w1 (fun j hj => by have := hcB j hj; omega) (by omega) hb1 (fun j hj => cell_below hx1 (hcI j hj)))
  rw [hl] at cS
  rw [← hw1] at cV
  have HO : Hid (OrdI n L n ↔ ∀ i : Nat, i < n → rd (srtI L) i = i) := prm_sorted hl
  have HL := Lib.hid hl
  clear hb1 hcI hcB hc0 hw1 hr hs1 hl
  go_enter Try.func88, Try.ntmps88
  go_wp2_with (first
    | (go_at_call 132; refine cV.mono ?_; rintro e w' ⟨rfl, rfl⟩)
    | (go_at_call 131; refine cS.mono ?_; rintro e w2 ⟨g, cp, rfl, hrow, hx2⟩))
  have hx : Ext w w2 := hx1.trans hx2
  have hos : Own w2 w'.heap.size 2 (.slice (some ⟨g, 0, none⟩) n cp) (ints (srtI L)) := ⟨by rw [ints_length, srtI_len, HL.out]; exact hrow, by rw [ints_length, srtI_len, HL.out]; omega⟩
  have HR := Lib.hid hos
  clear hos hrow hx2 cV cS
  go_loopw [9] (fun u wr => ∃ k : Nat, k ≤ n ∧ u = .int .i64 k ∧ Hid (∀ i : Nat, i < k → rd (srtI L) i = i) ∧ wr = w2) (fun u _ => n - (intOf u).toNat)
  case atStart => exact ⟨0, Nat.zero_le _, rfl, fun i hi => by omega, rfl⟩
  case round =>
    rename World => wA
    obtain ⟨k, hk, rfl, HI, rfl⟩ := hrel
    by_cases hlt : k < n
    · have g1 : IntKind.i64.wrap ((k : Int) + 1) = (k : Int) + 1 := IntWalk.i64_in _ (by omega)
      have hc := (HR.out.at_ k hlt).1
      rw [ints_get (by rw [srtI_len, HL.out]; exact hlt)] at hc
      by_cases hq : rd (srtI L) k = k
      · have HN : Hid (∀ i : Nat, i < k + 1 → rd (srtI L) i = i) := fun i hi => by
          by_cases e : i = k
          · subst e; exact hq
          · exact HI.out i (by omega)
        rw [hq] at hc
        clear hq
        go_wp2_with fail
        go_roundw
        case rel => exact ⟨k + 1, by omega, by go_num, HN, by first | trivial | rfl⟩
        case measure => simp [intOf]; omega
      · have hne : (rd (srtI L) k != (k : Int)) = true := by simp [hq]
        have HF : Hid (prmB n L = false) := prmB_not fun h => hq (HO.out.1 h k hlt)
        clear hq
        go_wp2_with fail
        go_ret
        exact ⟨ret_bool HF.out.symm, hx⟩
    · obtain rfl : k = n := by omega
      have HT : Hid (prmB k L = true) := prmB_yes HL.out (HO.out.2 HI.out)
      go_wp2_with fail
      go_ret
      exact ⟨ret_bool HT.out.symm, hx⟩

end Go.Proofs.Ytkifpligpobiaaa
