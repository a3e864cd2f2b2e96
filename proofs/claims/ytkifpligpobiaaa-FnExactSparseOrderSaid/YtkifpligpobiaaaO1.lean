
/- Orders of the rows, the reference. -/

import Derived.Test.YtkifpligpobiaaaH8
set_option linter.unusedVariables false
set_option linter.unusedSimpArgs false

namespace Go.Proofs.Ytkifpligpobiaaa

open Go.RowKit


/-- The first k of a list are vertices, each once. -/
def OrdI (n : Nat) (L : List Int) (k : Nat) : Prop := (∀ a : Nat, a < k → 0 ≤ rd L a ∧ rd L a < n) ∧ ∀ a b : Nat, a < b → b < k → rd L a ≠ rd L b
open Classical in

noncomputable def prmB (n : Nat) (L : List Int) : Bool := decide (L.length = n ∧ OrdI n L n)
open Classical in

noncomputable def snS (L : List Int) (k : Nat) : Nat → Bool := fun v => decide (∃ a : Nat, a < k ∧ rd L a = v)
theorem prmB_iff {n : Nat} {L : List Int} : prmB n L = true ↔ L.length = n ∧ OrdI n L n := by unfold prmB; simp
theorem prmB_no {n : Nat} {L : List Int} (h : ¬ (L.length = n ∧ OrdI n L n)) : prmB n L = false := by
  cases e : prmB n L with
  | false => rfl
  | true => exact absurd (prmB_iff.1 e) h
theorem prmB_len {n : Nat} {L : List Int} (h : L.length ≠ n) : prmB n L = false := prmB_no fun e => h e.1
theorem prmB_not {n : Nat} {L : List Int} (h : ¬ OrdI n L n) : prmB n L = false := prmB_no fun e => h e.2
theorem prmB_yes {n : Nat} {L : List Int} (h : L.length = n) (h2 : OrdI n L n) : prmB n L = true := prmB_iff.2 ⟨h, h2⟩
theorem OrdI.zero (n : Nat) (L : List Int) : OrdI n L 0 := ⟨fun a h => by omega, fun a b _ h => by omega⟩
theorem OrdI.next {n k v : Nat} {L : List Int} (h : OrdI n L k) (hv : rd L k = v) (hn : v < n) (hs : snS L k v = false) : OrdI n L (k + 1) := by
  have hs' : ¬ ∃ a : Nat, a < k ∧ rd L a = v := by unfold snS at hs; simpa using hs
  refine ⟨fun a ha => ?_, fun a b hab hb => ?_⟩
  · by_cases e : a = k
    · subst e; rw [hv]; omega
    · exact h.1 a (by omega)
  · by_cases e : b = k
    · subst e; rw [hv]; exact fun e => hs' ⟨a, hab, e⟩
    · exact h.2 a b hab (by omega)
theorem OrdI.seen {n k v : Nat} {L : List Int} (hk : k < n) (hv : rd L k = v) (hs : snS L k v = true) : ¬ OrdI n L n := by
  unfold snS at hs
  obtain ⟨a, ha, e⟩ := of_decide_eq_true hs
  exact fun h => h.2 a k ha hk (e.trans hv.symm)
theorem snS_zero (L : List Int) : snS L 0 = fun _ => false := by funext v; unfold snS; simp
theorem snS_next {L : List Int} {k v : Nat} (hv : rd L k = v) : (∀ a, a ≠ v → snS L (k + 1) a = snS L k a) ∧ snS L (k + 1) v = true := by
  refine ⟨fun a ha => ?_, ?_⟩
  · unfold snS
    rw [decide_eq_decide]
    refine ⟨fun ⟨b, hb, e⟩ => ⟨b, ?_, e⟩, fun ⟨b, hb, e⟩ => ⟨b, by omega, e⟩⟩
    by_cases e2 : b = k
    · subst e2
      rw [hv] at e
      exact absurd (by omega : a = v) ha
    · omega
  · unfold snS
    exact decide_eq_true ⟨k, by omega, hv⟩

set_option maxRecDepth 20000 in
set_option maxHeartbeats 4000000 in
theorem l05Order_any (n : Nat) (A : Option Addr) (m c : Nat) (L : List Int) (hn1 : 1 ≤ n) (hn32 : n ≤ 32) (w : World) (hr : Rds w A m (ints L)) :
    Calls Try.prog 86 #[.slice A m c, .int .i64 n] w fun e w' => e = .returned (.bool (prmB n L)) ∧ Ext w w' := by
  have HL := Lib.hid hr.ilen
  have hsm := hr.small
  by_cases hm : m = n
  rotate_left
  · have hne : ((m : Int) != n) = true := by simp; omega
    have HO : Hid (prmB n L = false) := prmB_len (by rw [HL.out]; exact hm)
    rw [HO.out]
    clear hr
    go_enter Try.func86, Try.ntmps86
    go_upto_region 1 with (fail)
    go_wp2_with fail
    go_ret
    exact ⟨rfl, Ext.refl _⟩
  · subst hm
    have hne : ((m : Int) != m) = false := by simp
    have g0 : IntKind.i64.wrap ((m : Int) - 1) = (m : Int) - 1 := IntWalk.i64_in _ (by omega)
    obtain ⟨O, hO⟩ : ∃ O, O = prmB m L := ⟨_, rfl⟩
    rw [← hO]
    have HO := Lib.hid hO
    clear hO
    have hmk := run_make_row' (P := Try.prog) 69 4 (.bool false) 1 Try.underlying69 info_bool rfl .i64 .i64 m (by omega) (by omega)
    go_enter Try.func86, Try.ntmps86
    go_upto_region 1 with (fail)
    go_upto_region 4 with (fail)
    have xg : Ext w (w.alloc (.cells (madeCells #[.bool false] m) 4)) := (Ext.refl _).alloc _
    have og := Own.made w 4 (.bool false) m rfl (by omega)
    rw [← bools_replicate, ← gnL_none, ← snS_zero L] at og
    obtain ⟨w1, hw1⟩ : ∃ v : World, v = w.alloc (.cells (madeCells #[.bool false] m) 4) := ⟨_, rfl⟩
    rw [← hw1] at xg og ⊢
    clear hw1 hmk
    go_wp2_with fail
    go_loopw [15] (fun u wr => ∃ k : Nat, k ≤ m ∧ u = .int .i64 k ∧ Hid (OrdI m L k) ∧ Own wr w.heap.size 4 (.slice (some ⟨w.heap.size, 0, none⟩) m m) (bools (gnL m (snS L k))) ∧ Ext w wr) (fun u _ => m - (intOf u).toNat)
    case atStart => exact ⟨0, Nat.zero_le _, rfl, OrdI.zero _ _, og, xg⟩
    case round =>
      rename World => wA
      clear og xg
      obtain ⟨k, hk, rfl, HI, og, hx⟩ := hrel
      by_cases hlt : k < m
      · have g1 : IntKind.i64.wrap ((k : Int) + 1) = (k : Int) + 1 := IntWalk.i64_in _ (by omega)
        obtain ⟨ad, rfl, hc⟩ := (hr.below hx).intN k hlt
        cases hin : inR 0 (rd L k) ((m : Int) - 1) with
        | false =>
          have HOf : Hid (O = false) := HO.out.trans (prmB_not fun h => by have := h.1 k hlt; have := inR_false.1 hin; omega)
          go_wp2_with fail
          refine (l00In_any _ _ _ _).mono ?_
          rintro e w2 ⟨rfl, rfl⟩
          rw [hin]
          go_wp2_with fail
          go_ret
          exact ⟨ret_bool HOf.out.symm, hx⟩
        | true =>
          obtain ⟨v, hv⟩ : ∃ v : Nat, rd L k = v := ⟨(rd L k).toNat, by have := inR_iff.1 hin; omega⟩
          have hvm : v < m := by have := inR_iff.1 hin; omega
          obtain ⟨hcs, hf⟩ := og.at_ v hvm
          rw [bools_get (by rw [gnL_length]; exact hvm), gnL_at _ hvm] at hcs
          rw [hv] at hc hin
          have HV := Lib.hid hv
          clear hv
          cases hs : snS L k v with
          | true =>
            rw [hs] at hcs
            have HOf : Hid (O = false) := HO.out.trans (prmB_not (OrdI.seen hlt HV.out hs))
            clear hs
            go_wp2_with fail
            refine (l00In_any _ _ _ _).mono ?_
            rintro e w2 ⟨rfl, rfl⟩
            rw [hin]
            go_wp2_with fail
            go_ret
            exact ⟨ret_bool HOf.out.symm, hx⟩
          | false =>
            rw [hs] at hcs
            have HN : Hid (OrdI m L (k + 1)) := HI.out.next HV.out hvm hs
            have hsb := store_bool Try.prog true hcs hf
            obtain ⟨s1, s2⟩ := og.stored v (.bool true)
            rw [← bools_set, gnL_set hvm (snS_next HV.out).1 (snS_next HV.out).2] at s1
            have hx2 := s2.ext hx og
            clear hs og s2
            go_wp2_with fail
            refine (l00In_any _ _ _ _).mono ?_
            rintro e w2 ⟨rfl, rfl⟩
            rw [hin]
            go_wp2_with fail
            go_roundw
            case rel => exact ⟨k + 1, by omega, by go_num, HN, s1, hx2⟩
            case measure => simp [intOf]; omega
      · obtain rfl : k = m := by omega
        have HOt : Hid (O = true) := HO.out.trans (prmB_yes HL.out HI.out)
        clear og
        go_wp2_with fail
        go_ret
        exact ⟨ret_bool HOt.out.symm, hx⟩

end Go.Proofs.Ytkifpligpobiaaa
